/- What Open told of bytes, packed, is those bytes. -/
import Derived.Test.YtkblieonpncacaaLImg2
set_option linter.unusedVariables false
set_option linter.unusedSimpArgs false
namespace Go.Proofs.Ytkblieonpncacaa.Pure
open Go.RowKit Go.Proofs.Ytkblieonpncacaa.F Go.Proofs.YtkblieonpncacaaW.PrintWords Go.Proofs.YtkblieonpncacaaW.PrintLast Go.Proofs.YtkblieonpncacaaW.PrintMore

theorem map_bytes_inj : ∀ {a b : List Int}, Bytes a → Bytes b → (a.map fun n => UInt8.ofNat n.toNat) = (b.map fun n => UInt8.ofNat n.toNat) → a = b
  | [], [], _, _, _ => rfl
  | [], _ :: _, _, _, h => by simp at h
  | _ :: _, [], _, _, h => by simp at h
  | x :: a, y :: b, ha, hb, h => by
    simp only [List.map_cons, List.cons.injEq] at h
    have hx := ha x (List.mem_cons_self ..)
    have hy := hb y (List.mem_cons_self ..)
    have e := congrArg UInt8.toNat h.1
    simp only [UInt8.toNat_ofNat'] at e
    have e2 : x = y := by omega
    rw [e2, map_bytes_inj (fun z hz => ha z (List.mem_cons_of_mem _ hz)) (fun z hz => hb z (List.mem_cons_of_mem _ hz)) h.2]
theorem str_inj {a b : List Int} (ha : Bytes a) (hb : Bytes b) (h : (strOfNums a).toList = (strOfNums b).toList) : a = b := by
  rw [ByteArray.toList_eq, ByteArray.toList_eq, strOfNums_data, strOfNums_data] at h
  exact map_bytes_inj ha hb h
theorem magic_inj {a : List Int} (ha : Bytes a) (h : (strOfNums a).toList = ([84, 80, 75, 49] : List UInt8)) : a = [84, 80, 75, 49] := by
  have hb : Bytes [84, 80, 75, 49] := by intro x hx; simp only [List.mem_cons, List.not_mem_nil, or_false] at hx; omega
  refine str_inj ha hb ?_
  rw [h]; decide +kernel
theorem opn_ok {l : List Int} (h : (opn l).2.2.2.2.2 = 0) : 16 ≤ l.length ∧ (strOfNums (l.take 4)).toList = ([84, 80, 75, 49] : List UInt8) ∧ wrongv (rd l 4) (rd l 5) (rd l 6 * 256 + rd l 7) = 0 ∧ be32 l 8 ≤ 1048572 ∧ be32 l 8 ≤ ((l.length : Int) - 16) / 4 ∧
    sm (l.take 12 ++ (l.take (16 + 4 * be32 l 8).toNat).drop 16) = be32 l 12 ∧ opn l = (rd l 4, rd l 5, rd l 6 * 256 + rd l 7, be32 l 8, (l.take (16 + 4 * be32 l 8).toNat).drop 16, 0) := by
  revert h
  unfold opn
  by_cases c1 : l.length < 16
  · simp only [c1, if_true]; intro h; exact absurd h (by decide)
  by_cases c2 : (strOfNums (l.take 4)).toList = ([84, 80, 75, 49] : List UInt8)
  case neg => simp only [c1, c2, if_false]; intro h; exact absurd h (by decide)
  by_cases c3 : wrongv (rd l 4) (rd l 5) (rd l 6 * 256 + rd l 7) = 0
  case neg => rw [if_neg c1, if_pos c2, if_pos c3]; intro h; exact absurd h c3
  by_cases c4 : be32 l 8 > 1048572
  · rw [if_neg c1, if_pos c2, if_neg (not_not_intro c3), if_pos c4]; intro h; exact absurd h (by decide)
  by_cases c5 : ((l.length : Int) - 16) / 4 < be32 l 8
  · rw [if_neg c1, if_pos c2, if_neg (not_not_intro c3), if_neg c4, if_pos c5]; intro h; exact absurd h (by decide)
  by_cases c6 : sm (l.take 12 ++ (l.take (16 + 4 * be32 l 8).toNat).drop 16) = be32 l 12
  case neg => rw [if_neg c1, if_pos c2, if_neg (not_not_intro c3), if_neg c4, if_neg c5, if_neg c6]; intro h; exact absurd h (by decide)
  rw [if_neg c1, if_pos c2, if_neg (not_not_intro c3), if_neg c4, if_neg c5, if_pos c6]
  intro _
  exact ⟨by omega, c2, c3, by omega, by omega, c6, rfl⟩
theorem opn_again {l : List Int} (hl : Bytes l) (h : (opn l).2.2.2.2.2 = 0) :
    ∃ W D S N c, opn l = (W, D, S, N, c, 0) ∧ Okh W D S N ∧ Bytes c ∧ (c.length : Int) = 4 * N ∧ 16 + c.length ≤ l.length ∧ l.take (16 + c.length) = img W D S N c := by
  obtain ⟨h1, h2, h3, h4, h5, h6, h7⟩ := opn_ok h
  have g8 := be32_range hl 8
  have hn : (((l.take (16 + 4 * be32 l 8).toNat).drop 16).length : Int) = 4 * be32 l 8 := by
    rw [List.length_drop, List.length_take]; omega
  have hm := magic_inj (Bytes.take hl 4) h2
  have r4 := hl.rd 4
  have r5 := hl.rd 5
  have r6 := hl.rd 6
  have r7 := hl.rd 7
  have L : l = [84, 80, 75, 49, rd l 4, rd l 5, rd l 6, rd l 7, rd l 8, rd l 9, rd l 10, rd l 11, rd l 12, rd l 13, rd l 14, rd l 15] ++ l.drop 16 := by
    have d4 := drop_four (l := l) (p := 4) (by omega)
    have d8 := drop_four (l := l) (p := 8) (by omega)
    have d12 := drop_four (l := l) (p := 12) (by omega)
    have e := (List.take_append_drop 4 l).symm
    rw [hm, d4, d8, d12] at e
    exact e
  have t12 : l.take 12 = [84, 80, 75, 49, rd l 4, rd l 5, rd l 6, rd l 7, rd l 8, rd l 9, rd l 10, rd l 11] := (congrArg (List.take 12) L).trans rfl
  have e12 : hd12 (rd l 4) (rd l 5) (rd l 6 * 256 + rd l 7) (be32 l 8) = l.take 12 := by
    rw [t12]
    unfold hd12
    rw [bytes4_be hl 8, show rd l 4 % 256 = rd l 4 by omega, show rd l 5 % 256 = rd l 5 by omega, show (rd l 6 * 256 + rd l 7) / 256 % 256 = rd l 6 by omega, show (rd l 6 * 256 + rd l 7) % 256 = rd l 7 by omega]
    rfl
  refine ⟨_, _, _, _, _, h7, ?_, Bytes.drop (Bytes.take hl _) 16, hn, by omega, ?_⟩
  · rcases wrongv_cases (rd l 4) (rd l 5) (rd l 6 * 256 + rd l 7) with q | q | q
    · omega
    · omega
    · exact ⟨q.2.1, q.2.2.1, q.2.2.2.1, q.2.2.2.2, g8.1, h4⟩
  · unfold img
    rw [e12, h6, bytes4_be hl 12, t12]
    have hc : (l.take (16 + 4 * be32 l 8).toNat).drop 16 = (l.drop 16).take ((l.take (16 + 4 * be32 l 8).toNat).drop 16).length := by
      conv => lhs; rw [List.drop_take]
      congr 1
      omega
    have e := congrArg (List.take (16 + ((l.take (16 + 4 * be32 l 8).toNat).drop 16).length)) L
    rw [e]
    conv => rhs; rw [hc]
    exact List.take_length_add_append (l₁ := [84, 80, 75, 49, rd l 4, rd l 5, rd l 6, rd l 7, rd l 8, rd l 9, rd l 10, rd l 11, rd l 12, rd l 13, rd l 14, rd l 15]) (l₂ := l.drop 16) _
theorem opnAt_err {l : List Int} {a : Int} (h : (opnAt l a).2.2.2.2.2 ≠ 0) : opnAt l a = (0, 0, 0, 0, [], (opnAt l a).2.2.2.2.2) := by
  unfold opnAt at h ⊢
  by_cases c : a < 0 ∨ (l.length : Int) < a
  · rw [if_pos c]
  · rw [if_neg c] at h ⊢
    exact opn_err h
theorem opnAt_again {l : List Int} {a : Int} (hl : Bytes l) (h : (opnAt l a).2.2.2.2.2 = 0) :
    0 ≤ a ∧ ∃ W D S N c, opnAt l a = (W, D, S, N, c, 0) ∧ Okh W D S N ∧ Bytes c ∧ (c.length : Int) = 4 * N ∧ a + 16 + c.length ≤ l.length ∧ (l.drop a.toNat).take (16 + c.length) = img W D S N c := by
  unfold opnAt at h ⊢
  by_cases c : a < 0 ∨ (l.length : Int) < a
  · rw [if_pos c] at h; exact absurd h (by decide)
  · rw [if_neg c] at h ⊢
    obtain ⟨W, D, S, N, x, h1, h2, h3, h4, h5, h6⟩ := opn_again (Bytes.drop hl _) h
    rw [List.length_drop] at h5
    exact ⟨by omega, W, D, S, N, x, h1, h2, h3, h4, by omega, h6⟩
end Go.Proofs.Ytkblieonpncacaa.Pure
