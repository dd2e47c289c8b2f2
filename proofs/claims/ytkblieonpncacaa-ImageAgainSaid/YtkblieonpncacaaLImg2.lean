/- What Open tells of what Pack made; what Pack makes of what Open told. -/
import Derived.Test.YtkblieonpncacaaLImg
set_option linter.unusedVariables false
set_option linter.unusedSimpArgs false
namespace Go.Proofs.Ytkblieonpncacaa.Pure
open Go.RowKit Go.Proofs.Ytkblieonpncacaa.F Go.Proofs.YtkblieonpncacaaW.PrintWords Go.Proofs.YtkblieonpncacaaW.PrintLast Go.Proofs.YtkblieonpncacaaW.PrintMore

theorem rd_app {a b : List Int} {i : Int} (h0 : 0 ≤ i) (h : i < (a.length : Int)) : rd (a ++ b) i = rd a i := by
  unfold Go.Proofs.YtkblieonpncacaaW.PrintWords.rd
  rw [List.getD_eq_getElem?_getD, List.getD_eq_getElem?_getD, List.getElem?_append_left (by omega)]
theorem rd_app_r {a b : List Int} {i : Int} (h : (a.length : Int) ≤ i) : rd (a ++ b) i = rd b (i - a.length) := by
  unfold Go.Proofs.YtkblieonpncacaaW.PrintWords.rd
  rw [List.getD_eq_getElem?_getD, List.getD_eq_getElem?_getD, List.getElem?_append_right (by omega)]
  congr 2
  omega
theorem be32_bytes4 {v : Int} (h : 0 ≤ v ∧ v < 4294967296) : be32 (bytes4 v) 0 = v := by
  show v / 16777216 % 256 * 16777216 + v / 65536 % 256 * 65536 + v / 256 % 256 * 256 + v % 256 = v
  omega
theorem be32_app {a b : List Int} {p : Int} (h0 : 0 ≤ p) (h : p + 4 ≤ (a.length : Int)) : be32 (a ++ b) p = be32 a p := by
  unfold be32
  rw [rd_app (i := p) (by omega) (by omega), rd_app (i := p + 1) (by omega) (by omega), rd_app (i := p + 2) (by omega) (by omega), rd_app (i := p + 3) (by omega) (by omega)]
theorem be32_app_r {a b : List Int} {p : Int} (h : (a.length : Int) ≤ p) : be32 (a ++ b) p = be32 b (p - a.length) := by
  unfold be32
  rw [rd_app_r (i := p) (by omega), rd_app_r (i := p + 1) (by omega), rd_app_r (i := p + 2) (by omega), rd_app_r (i := p + 3) (by omega)]
  rw [show p + 1 - (a.length : Int) = p - a.length + 1 by omega, show p + 2 - (a.length : Int) = p - a.length + 2 by omega, show p + 3 - (a.length : Int) = p - a.length + 3 by omega]
/-- A header that may be, of so many words. -/
structure Okh (W D S N : Int) : Prop where
  w : W = 32 ∨ W = 128
  d0 : 0 ≤ D
  d1 : D ≤ W
  s : S = if D = 0 then 1 else 3 * D
  n0 : 0 ≤ N
  n1 : N ≤ 1048572
theorem Okh.wrong {W D S N : Int} (h : Okh W D S N) : wrongv W D S = 0 := by
  unfold wrongv
  rw [if_neg (not_not_intro h.w), if_neg (by rintro (q | q | q); exact absurd h.d0 (by omega); exact absurd h.d1 (by omega); exact q h.s)]
theorem Okh.srange {W D S N : Int} (h : Okh W D S N) : 1 ≤ S ∧ S ≤ 384 := by
  have h1 := h.w; have h2 := h.d0; have h3 := h.d1; have h4 := h.s
  by_cases c : D = 0
  · rw [if_pos c] at h4; omega
  · rw [if_neg c] at h4; omega
theorem magic_hd (W D S N : Int) (r : List Int) : (strOfNums ((hd12 W D S N ++ r).take 4)).toList = ([84, 80, 75, 49] : List UInt8) := by
  have : (hd12 W D S N ++ r).take 4 = [84, 80, 75, 49] := rfl
  rw [this]; decide +kernel
/-- The image of a header and code. -/
def img (W D S N : Int) (c : List Int) : List Int := hd12 W D S N ++ bytes4 (sm (hd12 W D S N ++ c)) ++ c
theorem img_len (W D S N : Int) (c : List Int) : (img W D S N c).length = 16 + c.length := by
  unfold img; rw [List.length_append, List.length_append, hd12_len]; rfl
theorem img_bytes {W D S N : Int} {c : List Int} (hc : Bytes c) : Bytes (img W D S N c) := Bytes.append (Bytes.append (hd12_bytes W D S N) (bytes4_bytes _)) hc
theorem pk_img {W D S N : Int} {c : List Int} (h : Okh W D S N) (hn : (c.length : Int) = 4 * N) : pk W D S N c = (img W D S N c, 0) := by
  have h1 := h.n1
  unfold pk
  rw [if_neg (not_not_intro h.wrong), if_neg (by omega), if_neg (by omega)]; rfl
/-- Of a head, a sum and code, whatever stands behind: what Open tells. -/
theorem opn_parts {W D S N q : Int} {c r : List Int} (h : Okh W D S N) (hc : Bytes c) (hn : (c.length : Int) = 4 * N) (hq : 0 ≤ q ∧ q < 4294967296) :
    opn (hd12 W D S N ++ bytes4 q ++ c ++ r) = if sm (hd12 W D S N ++ c) = q then (W, D, S, N, c, 0) else (0, 0, 0, 0, [], 23) := by
  have hs := h.srange
  have hw := h.w
  have hd0 := h.d0
  have hd1 := h.d1
  have hn0 := h.n0
  have hn1 := h.n1
  have hlen : (hd12 W D S N ++ bytes4 q ++ c ++ r).length = 16 + c.length + r.length := by simp only [List.length_append, hd12_len]; rfl
  have r4 : rd (hd12 W D S N ++ bytes4 q ++ c ++ r) 4 = W := by show W % 256 = W; omega
  have r5 : rd (hd12 W D S N ++ bytes4 q ++ c ++ r) 5 = D := by show D % 256 = D; omega
  have r6 : rd (hd12 W D S N ++ bytes4 q ++ c ++ r) 6 * 256 + rd (hd12 W D S N ++ bytes4 q ++ c ++ r) 7 = S := by show S / 256 % 256 * 256 + S % 256 = S; omega
  have r8 : be32 (hd12 W D S N ++ bytes4 q ++ c ++ r) 8 = N := by
    show N / 16777216 % 256 * 16777216 + N / 65536 % 256 * 65536 + N / 256 % 256 * 256 + N % 256 = N; omega
  have r12 : be32 (hd12 W D S N ++ bytes4 q ++ c ++ r) 12 = q := by
    show q / 16777216 % 256 * 16777216 + q / 65536 % 256 * 65536 + q / 256 % 256 * 256 + q % 256 = q; omega
  have t12 : (hd12 W D S N ++ bytes4 q ++ c ++ r).take 12 = hd12 W D S N := rfl
  have tc : ((hd12 W D S N ++ bytes4 q ++ c ++ r).take (16 + 4 * N).toNat).drop 16 = c := by
    have h16 : (hd12 W D S N ++ bytes4 q).length = 16 := rfl
    rw [List.append_assoc, List.take_append, h16, List.drop_append, List.take_of_length_le (by rw [h16]; omega), h16, Nat.sub_self, List.drop_zero, List.drop_of_length_le (by omega), List.nil_append]
    rw [show (16 + 4 * N).toNat - 16 = c.length by omega, List.take_left]
  have hm : (strOfNums ((hd12 W D S N ++ bytes4 q ++ c ++ r).take 4)).toList = ([84, 80, 75, 49] : List UInt8) := by
    rw [List.append_assoc, List.append_assoc]; exact magic_hd W D S N _
  unfold opn
  rw [if_neg (by omega), if_pos hm, r4, r5, r6, r8, r12, t12, tc, if_neg (not_not_intro h.wrong), if_neg (by omega), if_neg (by omega)]
theorem opn_img {W D S N : Int} {c : List Int} (r : List Int) (h : Okh W D S N) (hc : Bytes c) (hn : (c.length : Int) = 4 * N) : opn (img W D S N c ++ r) = (W, D, S, N, c, 0) := by
  unfold img
  rw [opn_parts h hc hn (sm_range (Bytes.append (hd12_bytes W D S N) hc)), if_pos rfl]
theorem opnAt_zero (l : List Int) : opnAt l 0 = opn l := by
  unfold opnAt
  rw [if_neg (by omega)]; rfl
theorem opnAt_img {W D S N : Int} {c : List Int} (h : Okh W D S N) (hc : Bytes c) (hn : (c.length : Int) = 4 * N) : opnAt (img W D S N c) 0 = (W, D, S, N, c, 0) := by
  have := opn_img [] h hc hn
  rw [List.append_nil] at this
  rw [opnAt_zero, this]
end Go.Proofs.Ytkblieonpncacaa.Pure
