/- Bytes, numbers of several bytes, the sum: what wire and turnpikeref13 come to. -/
import Derived.Test.YtkblieonpncacaaLBase
import Derived.Laws.BitsAllLaws
import Derived.Test.YtkblieonpncacaaFx6
import Derived.Test.YtkblieonpncacaaFx5
import Derived.Test.YtkblieonpncacaaFx4
import Derived.Test.YtkblieonpncacaaFx11
import Derived.Test.YtkblieonpncacaaFx8
import Derived.Test.YtkblieonpncacaaFx9
set_option linter.unusedVariables false
set_option linter.unusedSimpArgs false
namespace Go.Proofs.Ytkblieonpncacaa.Pure
open Go.RowKit Go.Proofs.Ytkblieonpncacaa.F Go.Proofs.YtkblieonpncacaaW.PrintWords Go.Proofs.YtkblieonpncacaaW.PrintLast Go.Proofs.YtkblieonpncacaaW.PrintMore

def be32 (l : List Int) (p : Int) : Int := rd l p * 16777216 + rd l (p + 1) * 65536 + rd l (p + 2) * 256 + rd l (p + 3)
theorem be32_range {l : List Int} (h : Bytes l) (p : Int) : 0 ≤ be32 l p ∧ be32 l p < 4294967296 := by
  have h0 := h.rd p; have h1 := h.rd (p + 1); have h2 := h.rd (p + 2); have h3 := h.rd (p + 3)
  unfold be32; omega
theorem be4_or {a b c d : Int} (ha : 0 ≤ a ∧ a < 256) (hb : 0 ≤ b ∧ b < 256) (hc : 0 ≤ c ∧ c < 256) (hd : 0 ≤ d ∧ d < 256) :
    Go.bits .or .u32 (Go.bits .or .u32 (Go.bits .or .u32 (((a % 4294967296) * 16777216) % 4294967296) (((b % 4294967296) * 65536) % 4294967296)) (((c % 4294967296) * 256) % 4294967296)) (d % 4294967296) = a * 16777216 + b * 65536 + c * 256 + d := by
  have e1 : ((a % 4294967296) * 16777216) % 4294967296 = a * 16777216 := by omega
  have e2 : ((b % 4294967296) * 65536) % 4294967296 = b * 65536 := by omega
  have e3 : ((c % 4294967296) * 256) % 4294967296 = c * 256 := by omega
  have e4 : d % 4294967296 = d := by omega
  rw [e1, e2, e3, e4]
  rw [or_u32_add 24 (a := a * 16777216) (b := b * 65536) (by omega) (by omega) (by omega) (by omega) (by omega) (by omega)]
  rw [or_u32_add 16 (b := c * 256) (by omega) (by omega) (by omega) (by omega) (by omega) (by omega)]
  rw [or_u32_add 8 (b := d) (by omega) (by omega) (by omega) (by omega) (by omega) (by omega)]
theorem get32_in {l : List Int} (h : Bytes l) (hn : l.length ≤ 140737488351232) {p : Int} (h0 : 0 ≤ p) (h1 : p + 4 ≤ l.length) : wire_Get32.f l p = some (be32 l p, 0) := by
  unfold wire_Get32.f
  rw [if_neg (by omega), if_neg (by omega), wrap64_id (n := (l.length : Int) - 4) (by omega) (by omega), if_neg (by omega), if_pos h0, if_pos (by omega)]
  simp (disch := omega) only [wrap64_id]
  rw [if_pos (by omega), if_pos (by omega), if_pos (by omega), if_pos (by omega), if_pos (by omega), if_pos (by omega)]
  rw [be4_or (h.rd _) (h.rd _) (h.rd _) (h.rd _)]
  rfl
def beOn (l : List Int) (p : Int) : Nat → Int → Int
  | 0, v => v
  | d + 1, v => beOn l (p + 1) d ((v * 256 + rd l p) % 4294967296)
theorem or_step {v x : Int} (hv : 0 ≤ v ∧ v < 4294967296) (hx : 0 ≤ x ∧ x < 256) : Go.bits .or .u32 ((v * 256) % 4294967296) (x % 4294967296) = (v * 256 + x) % 4294967296 := by
  have e : x % 4294967296 = x := by omega
  rw [e, or_u32_add 8 (by omega) (by omega) (by omega) (by omega) (by omega) (by omega)]
  omega
theorem rget_loop {l : List Int} (h : Bytes l) (hn : l.length ≤ 140737488351232) {a n : Int} (h0 : 0 ≤ a) (hn0 : 0 ≤ n) (h1 : a + n ≤ l.length) (d : Nat) :
    ∀ (p v : Int), a ≤ p → p + d = a + n → 0 ≤ v ∧ v < 4294967296 → Ev (fun k => turnpikeref13_Get.l0 k l a n v p) (beOn l p d v, true) := by
  induction d with
  | zero =>
    intro p v hp hd hv
    refine Ev.succ ?_; simp only [turnpikeref13_Get.l0]
    have g1 : ¬ p < a + n := by omega
    rw [wrap64_id (n := a + n) (by omega) (by omega)]
    simp only [g1, if_false, beOn]
    exact Ev.now _
  | succ d ih =>
    intro p v hp hd hv
    refine Ev.succ ?_; simp only [turnpikeref13_Get.l0]
    have g1 : p < a + n := by omega
    have g2 : 0 ≤ p := by omega
    have g3 : p < (l.length : Int) := by omega
    rw [wrap64_id (n := a + n) (by omega) (by omega), wrap64_id (n := p + 1) (by omega) (by omega)]
    simp only [g1, g2, g3, if_true, or_step hv (h.rd p), beOn]
    exact ih (p + 1) _ (by omega) (by omega) (by omega)
theorem rget_in {l : List Int} (h : Bytes l) (hn : l.length ≤ 140737488351232) {a : Int} {n : Nat} (h0 : 0 ≤ a) (h1 : a + n ≤ l.length) : Ev (fun k => turnpikeref13_Get.f k l a n) (beOn l a n 0, true) := by
  unfold turnpikeref13_Get.f
  have g1 : ¬ a < 0 := by omega
  have g2 : ¬ a > (l.length : Int) := by omega
  have g3 : ¬ (l.length : Int) - a < n := by omega
  rw [wrap64_id (n := (l.length : Int) - a) (by omega) (by omega)]
  simp only [g1, g2, g3, if_false, decide_false]
  refine Ev.succ ?_; simp only [turnpikeref13_Get.j0, Bool.false_eq_true, if_false]
  exact rget_loop h hn h0 (by omega) h1 n a 0 (by omega) (by omega) (by omega)
theorem rget_out {l : List Int} (hn : l.length ≤ 140737488351232) {a n : Int} (hb : -9223372036854775808 ≤ a ∧ a ≤ 9223372036854775807) (h1 : a < 0 ∨ (l.length : Int) < a + n ∨ (l.length : Int) < a) : Ev (fun k => turnpikeref13_Get.f k l a n) (0, false) := by
  have hj : Ev (fun k => turnpikeref13_Get.j0 k l a n true) (0, false) := by
    refine Ev.succ ?_; simp only [turnpikeref13_Get.j0, if_true]; exact Ev.now _
  unfold turnpikeref13_Get.f
  by_cases g1 : a < 0
  · simp only [g1, if_true]; exact hj
  · by_cases g2 : a > (l.length : Int)
    · simp only [g1, g2, if_true, if_false]; exact hj
    · have g3 : (l.length : Int) - a < n := by omega
      rw [wrap64_id (n := (l.length : Int) - a) (by omega) (by omega)]
      simp only [g1, g2, g3, if_false, decide_true]; exact hj
theorem beOn_four {l : List Int} (h : Bytes l) (p : Int) : beOn l p 4 0 = be32 l p := by
  have h0 := h.rd p; have h1 := h.rd (p + 1); have h2 := h.rd (p + 2); have h3 := h.rd (p + 3)
  simp only [beOn, be32, show p + 1 + 1 = p + 2 from by omega, show p + 2 + 1 = p + 3 from by omega]
  omega
theorem rget32_in {l : List Int} (h : Bytes l) (hn : l.length ≤ 140737488351232) {a : Int} (h0 : 0 ≤ a) (h1 : a + 4 ≤ l.length) : Ev (fun k => turnpikeref13_Get.f k l a 4) (be32 l a, true) := by
  rw [← beOn_four h]; exact rget_in (n := 4) h hn h0 h1
def bytes4 (v : Int) : List Int := [v / 16777216 % 256, v / 65536 % 256, v / 256 % 256, v % 256]
theorem shr_u32 {v : Int} {s : Nat} (h : s ≤ 32) : shr .u32 v (s : Int) = v / 2 ^ s := by
  unfold shr
  have hb : IntKind.u32.bits = 32 := rfl
  rw [Int.toNat_natCast, hb, Nat.min_eq_left h]
theorem put_ev (b : List Int) (v : Int) (hb : b.length ≤ 100000000000000) : Ev (fun k => turnpikeref13_Put.f k b v 4) (b ++ bytes4 v) := by
  unfold turnpikeref13_Put.f
  rw [wrap64_id (n := 4 - 1) (by omega) (by omega)]
  have e3 : wrap64 (8 * (4 - 1)) = ((24 : Nat) : Int) := by rw [wrap64_id (by omega) (by omega)]; rfl
  have e2 : wrap64 (8 * (4 - 1 - 1)) = ((16 : Nat) : Int) := by rw [wrap64_id (by omega) (by omega)]; rfl
  have e1 : wrap64 (8 * (4 - 1 - 1 - 1)) = ((8 : Nat) : Int) := by rw [wrap64_id (by omega) (by omega)]; rfl
  have e0 : wrap64 (8 * (4 - 1 - 1 - 1 - 1)) = ((0 : Nat) : Int) := by rw [wrap64_id (by omega) (by omega)]; rfl
  have d3 : wrap64 (4 - 1 - 1) = 4 - 1 - 1 := wrap64_id (by omega) (by omega)
  have d2 : wrap64 (4 - 1 - 1 - 1) = 4 - 1 - 1 - 1 := wrap64_id (by omega) (by omega)
  have d1 : wrap64 (4 - 1 - 1 - 1 - 1) = 4 - 1 - 1 - 1 - 1 := wrap64_id (by omega) (by omega)
  have d0 : wrap64 (4 - 1 - 1 - 1 - 1 - 1) = 4 - 1 - 1 - 1 - 1 - 1 := wrap64_id (by omega) (by omega)
  refine Ev.succ ?_
  simp only [turnpikeref13_Put.l0, show (4 - 1 : Int) ≥ 0 by omega, if_true, e3, show (0 : Int) ≤ ((24 : Nat) : Int) by omega, show b.length < 140737488355328 by omega, d3, shr_u32 (v := v) (s := 24) (by omega)]
  refine Ev.succ ?_
  simp only [turnpikeref13_Put.l0, show (4 - 1 - 1 : Int) ≥ 0 by omega, if_true, e2, show (0 : Int) ≤ ((16 : Nat) : Int) by omega, List.length_append, List.length_cons, List.length_nil, show b.length + (0 + 1) < 140737488355328 by omega, d2, shr_u32 (v := v) (s := 16) (by omega)]
  refine Ev.succ ?_
  simp only [turnpikeref13_Put.l0, show (4 - 1 - 1 - 1 : Int) ≥ 0 by omega, if_true, e1, show (0 : Int) ≤ ((8 : Nat) : Int) by omega, List.length_append, List.length_cons, List.length_nil, show b.length + (0 + 1) + (0 + 1) < 140737488355328 by omega, d1, shr_u32 (v := v) (s := 8) (by omega)]
  refine Ev.succ ?_
  simp only [turnpikeref13_Put.l0, show (4 - 1 - 1 - 1 - 1 : Int) ≥ 0 by omega, if_true, e0, show (0 : Int) ≤ ((0 : Nat) : Int) by omega, List.length_append, List.length_cons, List.length_nil, show b.length + (0 + 1) + (0 + 1) + (0 + 1) < 140737488355328 by omega, d0, shr_u32 (v := v) (s := 0) (by omega)]
  refine Ev.succ ?_
  simp only [turnpikeref13_Put.l0, show ¬ (4 - 1 - 1 - 1 - 1 - 1 : Int) ≥ 0 by omega, if_false]
  have : b ++ [v / 2 ^ 24 % 256] ++ [v / 2 ^ 16 % 256] ++ [v / 2 ^ 8 % 256] ++ [v / 2 ^ 0 % 256] = b ++ bytes4 v := by
    unfold bytes4; simp
  rw [this]; exact Ev.now _
theorem drop_four {l : List Int} {p : Nat} (h : p + 4 ≤ l.length) : l.drop p = rd l (p : Int) :: rd l ((p : Int) + 1) :: rd l ((p : Int) + 2) :: rd l ((p : Int) + 3) :: l.drop (p + 4) := by
  have h1 : ∀ q, q < l.length → l.drop q = rd l (q : Int) :: l.drop (q + 1) := by
    intro q hq
    rw [List.drop_eq_getElem_cons hq]
    simp [rd, List.getD_eq_getElem?_getD, List.getElem?_eq_getElem hq]
  rw [h1 p (by omega), h1 (p + 1) (by omega), h1 (p + 2) (by omega), h1 (p + 3) (by omega)]
  rfl
theorem bytes4_be {l : List Int} (h : Bytes l) (p : Int) : bytes4 (be32 l p) = [rd l p, rd l (p + 1), rd l (p + 2), rd l (p + 3)] := by
  have h0 := h.rd p; have h1 := h.rd (p + 1); have h2 := h.rd (p + 2); have h3 := h.rd (p + 3)
  unfold bytes4 be32
  simp only [List.cons.injEq, and_true]
  omega
theorem strOfNums_append (a b : List Int) : strOfNums (a ++ b) = strOfNums a ++ strOfNums b := by
  unfold strOfNums
  rw [List.map_append]
  apply ByteArray.ext
  rw [ByteArray.data_append]
  simp
theorem strOfNums_size (a : List Int) : (strOfNums a).size = a.length := by
  unfold strOfNums; simp [ByteArray.size]
theorem Ev.eq_now' {α : Type} {x : Option α} {r : α} (h : x = some r) : Ev (fun _ => x) r := by subst h; exact Ev.now _
theorem Ev.of_eq {α : Type} {g : Nat → Option α} {r : α} (h : ∀ k, g k = some r) : Ev g r := ⟨0, fun k _ => h k⟩
theorem put2_ev (b : List Int) (v : Int) (hb : b.length ≤ 100000000000000) : Ev (fun k => turnpikeref13_Put.f k b v 2) (b ++ [v / 256 % 256, v % 256]) := by
  unfold turnpikeref13_Put.f
  rw [wrap64_id (n := 2 - 1) (by omega) (by omega)]
  have e1 : wrap64 (8 * (2 - 1)) = ((8 : Nat) : Int) := by rw [wrap64_id (by omega) (by omega)]; rfl
  have e0 : wrap64 (8 * (2 - 1 - 1)) = ((0 : Nat) : Int) := by rw [wrap64_id (by omega) (by omega)]; rfl
  have d1 : wrap64 (2 - 1 - 1) = 2 - 1 - 1 := wrap64_id (by omega) (by omega)
  have d0 : wrap64 (2 - 1 - 1 - 1) = 2 - 1 - 1 - 1 := wrap64_id (by omega) (by omega)
  refine Ev.succ ?_
  simp only [turnpikeref13_Put.l0, show (2 - 1 : Int) ≥ 0 by omega, if_true, e1, show (0 : Int) ≤ ((8 : Nat) : Int) by omega, show b.length < 140737488355328 by omega, d1, shr_u32 (v := v) (s := 8) (by omega)]
  refine Ev.succ ?_
  simp only [turnpikeref13_Put.l0, show (2 - 1 - 1 : Int) ≥ 0 by omega, if_true, e0, show (0 : Int) ≤ ((0 : Nat) : Int) by omega, List.length_append, List.length_cons, List.length_nil, show b.length + (0 + 1) < 140737488355328 by omega, d0, shr_u32 (v := v) (s := 0) (by omega)]
  refine Ev.succ ?_
  simp only [turnpikeref13_Put.l0, show ¬ (2 - 1 - 1 - 1 : Int) ≥ 0 by omega, if_false]
  have : b ++ [v / 2 ^ 8 % 256] ++ [v / 2 ^ 0 % 256] = b ++ [v / 256 % 256, v % 256] := by simp
  rw [this]; exact Ev.now _
theorem beOn_two {l : List Int} (h : Bytes l) (p : Int) : beOn l p 2 0 = rd l p * 256 + rd l (p + 1) := by
  have h0 := h.rd p; have h1 := h.rd (p + 1)
  simp only [beOn]
  omega
theorem wrap16 (x : Int) : IntKind.u16.wrap x = x % 65536 := by
  simp only [IntKind.wrap]
  rfl
theorem or_u16_add (n : Nat) {a b : Int} (h0 : 0 ≤ a) (h1 : a < 65536) (h2 : a % 2 ^ n = 0) (h3 : 0 ≤ b) (h4 : b < 2 ^ n) (h5 : b < 65536) : Go.bits .or .u16 a b = a + b := by
  rw [u16_or a b h0 h1 h3 h5, nat_or_add n]
  · omega
  · have : ((a.toNat % 2 ^ n : Nat) : Int) = 0 := by rw [Int.natCast_emod, Int.toNat_of_nonneg h0, Int.natCast_pow]; exact_mod_cast h2
    exact_mod_cast this
  · have : (b.toNat : Int) < ((2 ^ n : Nat) : Int) := by rw [Int.toNat_of_nonneg h3, Int.natCast_pow]; exact_mod_cast h4
    exact_mod_cast this
theorem get16_in {l : List Int} (h : Bytes l) (hn : l.length ≤ 140737488351232) {p : Int} (h0 : 0 ≤ p) (h1 : p + 2 ≤ l.length) : wire_Get16.f l p = some (rd l p * 256 + rd l (p + 1), 0) := by
  have g0 := h.rd p; have g1 := h.rd (p + 1)
  unfold wire_Get16.f
  rw [if_neg (by omega), if_neg (by omega), wrap64_id (n := (l.length : Int) - 2) (by omega) (by omega), if_neg (by omega), if_pos h0, if_pos (by omega)]
  rw [wrap64_id (n := p + 1) (by omega) (by omega), if_pos (by omega), if_pos (by omega)]
  simp only [wrap16]
  rw [show (rd l p % 65536 * 256) % 65536 = rd l p * 256 by omega, show rd l (p + 1) % 65536 = rd l (p + 1) by omega, or_u16_add 8 (by omega) (by omega) (by omega) (by omega) (by omega) (by omega)]

/-! the sum -/
def bs (e : Nat) : Nat := if e % 2 = 1 then (e / 2) ^^^ 2197175160 else e / 2
def bs4 (e : Nat) : Nat := bs (bs (bs (bs e)))
def bs8 (e : Nat) : Nat := bs4 (bs4 e)
def cst (c : Nat) (b : Int) : Nat := bs8 (c ^^^ b.toNat)
def crc (c : Nat) (l : List Int) : Nat := l.foldl cst c
theorem bs_lt {e : Nat} (h : e < 2 ^ 32) : bs e < 2 ^ 32 := by
  unfold bs
  split
  · exact Nat.xor_lt_two_pow (by omega) (by decide)
  · omega
theorem bs4_lt {e : Nat} (h : e < 2 ^ 32) : bs4 e < 2 ^ 32 := bs_lt (bs_lt (bs_lt (bs_lt h)))
theorem bs8_lt {e : Nat} (h : e < 2 ^ 32) : bs8 e < 2 ^ 32 := bs4_lt (bs4_lt h)
theorem bs_xor (a b : Nat) : bs (a ^^^ b) = bs a ^^^ bs b := by
  have h2 : (a ^^^ b) / 2 = a / 2 ^^^ b / 2 := by
    apply Nat.eq_of_testBit_eq
    intro j
    rw [← Nat.pow_one 2]
    simp only [Nat.testBit_xor, Nat.testBit_div_two_pow]
  have ho : ((a ^^^ b) % 2 = 1) ↔ ¬ (a % 2 = b % 2) := by
    have h := Nat.testBit_xor a b 0
    simp only [Nat.testBit_zero] at h
    have h3 : (a ^^^ b) % 2 = 0 ∨ (a ^^^ b) % 2 = 1 := by omega
    have h4 : a % 2 = 0 ∨ a % 2 = 1 := by omega
    have h5 : b % 2 = 0 ∨ b % 2 = 1 := by omega
    rcases h3 with h3 | h3 <;> rcases h4 with h4 | h4 <;> rcases h5 with h5 | h5 <;> simp [h3, h4, h5] at h ⊢
  unfold bs
  rw [h2]
  have h4 : a % 2 = 0 ∨ a % 2 = 1 := by omega
  have h5 : b % 2 = 0 ∨ b % 2 = 1 := by omega
  have key : ∀ x y z : Nat, x ^^^ y = (x ^^^ z) ^^^ (y ^^^ z) := by
    intro x y z
    apply Nat.eq_of_testBit_eq
    intro j
    simp only [Nat.testBit_xor]
    cases x.testBit j <;> cases y.testBit j <;> cases z.testBit j <;> rfl
  have key1 : ∀ x y z : Nat, x ^^^ y ^^^ z = (x ^^^ z) ^^^ y := by
    intro x y z
    apply Nat.eq_of_testBit_eq
    intro j
    simp only [Nat.testBit_xor]
    cases x.testBit j <;> cases y.testBit j <;> cases z.testBit j <;> rfl
  rcases h4 with h4 | h4 <;> rcases h5 with h5 | h5
  · rw [if_neg (by omega), if_neg (by omega), if_neg (by omega)]
  · rw [if_pos (by omega), if_neg (by omega), if_pos (by omega), Nat.xor_assoc]
  · rw [if_pos (by omega), if_pos (by omega), if_neg (by omega), key1]
  · rw [if_neg (by omega), if_pos (by omega), if_pos (by omega)]; exact key _ _ _
theorem bs4_xor (a b : Nat) : bs4 (a ^^^ b) = bs4 a ^^^ bs4 b := by unfold bs4; rw [bs_xor, bs_xor, bs_xor, bs_xor]
theorem bs_two (m : Nat) : bs (2 * m) = m := by unfold bs; rw [if_neg (by omega)]; omega
theorem bs4_high (q : Nat) : bs4 (16 * q) = q := by
  unfold bs4
  rw [show 16 * q = 2 * (8 * q) by omega, bs_two, show 8 * q = 2 * (4 * q) by omega, bs_two, show 4 * q = 2 * (2 * q) by omega, bs_two, bs_two]
theorem xor_parts (e : Nat) : e = (16 * (e / 16)) ^^^ (e % 16) := by
  apply Nat.eq_of_testBit_eq
  intro j
  rw [Nat.testBit_xor, show (16 : Nat) = 2 ^ 4 from rfl, Nat.mul_comm, Nat.testBit_mul_two_pow, Nat.testBit_div_two_pow, Nat.testBit_mod_two_pow]
  by_cases h : j < 4
  · have : ¬ 4 ≤ j := by omega
    simp [h, this]
  · have h4 : 4 ≤ j := by omega
    have h5 : j - 4 + 4 = j := by omega
    simp [h, h4, h5]
theorem bs4_parts (e : Nat) : bs4 e = (e / 16) ^^^ bs4 (e % 16) := by
  conv => lhs; rw [xor_parts e]
  rw [bs4_xor, bs4_high]
theorem htab_bs : ∀ i : Fin 16, htab.getD i.val 0 = ((bs4 i.val : Nat) : Int) := by decide +kernel
theorem sfour_nat {e : Nat} (h : e < 2 ^ 32) : sfour (e : Int) = ((bs4 e : Nat) : Int) := by
  have hm : e % 16 < 16 := Nat.mod_lt _ (by decide)
  have h1 : Go.bits .and .u32 (e : Int) 15 = ((e % 16 : Nat) : Int) := by
    rw [show (15 : Int) = ((15 : Nat) : Int) from rfl, u32_and_nat _ _ h (by decide), show (15 : Nat) = 2 ^ 4 - 1 from rfl, nat_and_mask 4]
  unfold sfour
  rw [h1, Int.toNat_natCast, htab_bs ⟨e % 16, hm⟩, show ((e : Int) / 16) = ((e / 16 : Nat) : Int) by omega, u32_xor_nat _ _ (by omega) (bs4_lt (by omega)), ← bs4_parts]
theorem sstep_nat {c : Nat} {b : Int} (h : c < 2 ^ 32) (h0 : 0 ≤ b) (h1 : b < 256) : sstep (c : Int) b = ((cst c b : Nat) : Int) := by
  obtain ⟨m, rfl⟩ := Int.eq_ofNat_of_zero_le h0
  have hx : c ^^^ m < 2 ^ 32 := Nat.xor_lt_two_pow h (by omega)
  unfold sstep cst
  rw [u32_xor_nat _ _ h (by omega), sfour_nat hx, sfour_nat (bs4_lt hx), Int.toNat_natCast]
  rfl
theorem cst_lt {c : Nat} {b : Int} (h : c < 2 ^ 32) (h1 : b < 256) : cst c b < 2 ^ 32 := bs8_lt (Nat.xor_lt_two_pow h (by omega))
theorem crc_lt {l : List Int} (hl : Bytes l) : ∀ {c : Nat}, c < 2 ^ 32 → crc c l < 2 ^ 32 := by
  induction l with
  | nil => intro c h; exact h
  | cons b l ih => intro c h; exact ih (fun x hx => hl x (by simp [hx])) (cst_lt h (hl b (by simp)).2)
theorem srow_nat {l : List Int} (hl : Bytes l) : ∀ {c : Nat}, c < 2 ^ 32 → srow (c : Int) l = ((crc c l : Nat) : Int) := by
  induction l with
  | nil => intro c h; rfl
  | cons b l ih =>
    intro c h
    have hb := hl b (by simp)
    show srow (sstep (c : Int) b) l = _
    rw [sstep_nat h hb.1 hb.2, ih (fun x hx => hl x (by simp [hx])) (cst_lt h hb.2)]
    rfl
theorem crc_append (c : Nat) (a b : List Int) : crc c (a ++ b) = crc (crc c a) b := List.foldl_append ..
/-- The sum of a row. -/
def sm (l : List Int) : Int := Go.bits .xor .u32 IntKind.u32.max ((crc 4294967295 l : Nat) : Int)
theorem sum_two {a b : List Int} (ha : Bytes a) (hb : Bytes b) : wire_Sum.f [a, b] = some (sm (a ++ b)) := by
  unfold wire_Sum.f
  rw [if_pos (by
    intro l hl x hx
    rcases List.mem_cons.mp hl with rfl | hl
    · exact ha x hx
    · rcases List.mem_cons.mp hl with rfl | hl
      · exact hb x hx
      · cases hl)]
  unfold sm srows
  show some (Go.bits .xor .u32 IntKind.u32.max (srow (srow ((4294967295 : Nat) : Int) a) b)) = _
  rw [srow_nat ha (by decide), srow_nat hb (crc_lt ha (by decide)), crc_append]
def bsn : Nat → Nat → Nat
  | 0, e => e
  | d + 1, e => bsn d (bs e)
theorem rstep_loop : ∀ (d e i : Nat), e < 2 ^ 32 → i + d = 8 → Ev (fun k => turnpikeref13_step.l0 k (e : Int) (i : Int)) ((bsn d e : Nat) : Int) := by
  intro d
  induction d with
  | zero =>
    intro e i he hi
    refine Ev.succ (Ev.of_eq (fun k => ?_))
    simp only [turnpikeref13_step.l0]
    rw [if_neg (by omega)]; rfl
  | succ d ih =>
    intro e i he hi
    have h1 : Go.bits .and .u32 (e : Int) 1 = ((e % 2 : Nat) : Int) := by
      rw [show (1 : Int) = ((1 : Nat) : Int) from rfl, u32_and_nat _ _ he (by decide), Nat.and_one_is_mod]
    have h2 : Go.bits .xor .u32 ((e : Int) / 2) 2197175160 = (((e / 2) ^^^ 2197175160 : Nat) : Int) := by
      rw [show ((e : Int) / 2) = ((e / 2 : Nat) : Int) by omega, show (2197175160 : Int) = ((2197175160 : Nat) : Int) from rfl, u32_xor_nat _ _ (by omega) (by decide)]
    have e3 : wrap64 ((i : Int) + 1) = ((i + 1 : Nat) : Int) := by rw [wrap64_id (n := (i : Int) + 1) (by omega) (by omega)]; omega
    have hs := ih (bs e) (i + 1) (bs_lt he) (by omega)
    refine Ev.succ ?_
    simp only [turnpikeref13_step.l0, show (i : Int) < 8 by omega, if_true, h1, e3]
    clear e3
    by_cases c : e % 2 = 1
    · have cb : bs e = (e / 2) ^^^ 2197175160 := if_pos c
      rw [cb] at hs
      simp only [show ((e % 2 : Nat) : Int) = 1 by omega, if_true, h2, bsn, cb]
      exact hs
    · have cb : bs e = e / 2 := if_neg c
      rw [cb] at hs
      simp only [show ¬ ((e % 2 : Nat) : Int) = 1 by omega, if_false, show ((e : Int) / 2) = ((e / 2 : Nat) : Int) by omega, bsn, cb]
      exact hs
theorem rstep_ev {c : Nat} {b : Int} (h : c < 2 ^ 32) (h0 : 0 ≤ b) (h1 : b < 256) : Ev (fun k => turnpikeref13_step.f k (c : Int) b) ((cst c b : Nat) : Int) := by
  obtain ⟨m, rfl⟩ := Int.eq_ofNat_of_zero_le h0
  unfold turnpikeref13_step.f
  rw [show ((m : Int) % 4294967296) = (m : Int) by omega, u32_xor_nat _ _ h (by omega)]
  exact rstep_loop 8 _ 0 (Nat.xor_lt_two_pow h (by omega)) (by omega)
theorem rd_cast {l : List Int} {i : Nat} (h : i < l.length) : rd l (i : Int) = l[i] := by
  simp [rd, List.getD_eq_getElem?_getD, List.getElem?_eq_getElem h]
theorem rsum_loop {l : List Int} (hl : Bytes l) (hn : l.length ≤ 140737488351232) : ∀ (d i c : Nat), i + d = l.length → c < 2 ^ 32 → Ev (fun k => turnpikeref13_Sum.l0 k l (c : Int) (i : Int)) (Go.bits .xor .u32 IntKind.u32.max ((crc c (l.drop i) : Nat) : Int)) := by
  intro d
  induction d with
  | zero =>
    intro i c hi hc
    refine Ev.succ (Ev.of_eq (fun k => ?_))
    simp only [turnpikeref13_Sum.l0]
    rw [if_neg (by omega), List.drop_of_length_le (by omega)]; rfl
  | succ d ih =>
    intro i c hi hc
    have hlt : i < l.length := by omega
    have hb := hl.rd (i : Int)
    have e3 : wrap64 ((i : Int) + 1) = ((i + 1 : Nat) : Int) := by rw [wrap64_id (n := (i : Int) + 1) (by omega) (by omega)]; omega
    refine Ev.succ ?_
    simp only [turnpikeref13_Sum.l0, show (i : Int) < (l.length : Int) by omega, show (0 : Int) ≤ (i : Int) by omega, if_true, e3]
    refine Ev.bind (rstep_ev hc hb.1 hb.2) ?_
    rw [List.drop_eq_getElem_cons hlt]
    have := ih (i + 1) (cst c (rd l (i : Int))) (by omega) (cst_lt hc hb.2)
    rw [rd_cast hlt] at this ⊢
    exact this
theorem rsum_ev {l : List Int} (hl : Bytes l) (hn : l.length ≤ 140737488351232) : Ev (fun k => turnpikeref13_Sum.f k l) (sm l) := by
  unfold turnpikeref13_Sum.f sm
  have := rsum_loop hl hn l.length 0 4294967295 (by omega) (by decide)
  simpa using this

/-! unlike rows have unlike sums, where they part in one byte -/
theorem xor_right {a b z : Nat} (h : a ^^^ z = b ^^^ z) : a = b := by
  have h2 : a ^^^ z ^^^ z = b ^^^ z ^^^ z := by rw [h]
  rwa [Nat.xor_assoc, Nat.xor_assoc, Nat.xor_self, Nat.xor_zero, Nat.xor_zero] at h2
theorem xor_left {a b z : Nat} (h : z ^^^ a = z ^^^ b) : a = b := xor_right (z := z) (by rw [Nat.xor_comm a, Nat.xor_comm b]; exact h)
theorem bs_top {e : Nat} (h : e < 2 ^ 32) : (bs e).testBit 31 = decide (e % 2 = 1) := by
  have h1 : (e / 2).testBit 31 = false := Nat.testBit_lt_two_pow (by omega)
  unfold bs
  by_cases c : e % 2 = 1
  · rw [if_pos c, Nat.testBit_xor, h1, decide_eq_true c]; decide
  · rw [if_neg c, h1, decide_eq_false c]
theorem bs_inj {e e' : Nat} (h : e < 2 ^ 32) (h' : e' < 2 ^ 32) (he : bs e = bs e') : e = e' := by
  have t := bs_top h
  rw [he, bs_top h', decide_eq_decide] at t
  unfold bs at he
  by_cases c : e % 2 = 1
  · rw [if_pos c, if_pos (t.mpr c)] at he
    have := xor_right he
    have := t.mpr c
    omega
  · rw [if_neg c, if_neg (fun q => c (t.mp q))] at he
    have : ¬ e' % 2 = 1 := fun q => c (t.mp q)
    omega
theorem bs4_inj {e e' : Nat} (h : e < 2 ^ 32) (h' : e' < 2 ^ 32) (he : bs4 e = bs4 e') : e = e' :=
  bs_inj h h' (bs_inj (bs_lt h) (bs_lt h') (bs_inj (bs_lt (bs_lt h)) (bs_lt (bs_lt h')) (bs_inj (bs_lt (bs_lt (bs_lt h))) (bs_lt (bs_lt (bs_lt h'))) he)))
theorem bs8_inj {e e' : Nat} (h : e < 2 ^ 32) (h' : e' < 2 ^ 32) (he : bs8 e = bs8 e') : e = e' := bs4_inj h h' (bs4_inj (bs4_lt h) (bs4_lt h') he)
theorem cst_inj {c c' : Nat} {b : Int} (h : c < 2 ^ 32) (h' : c' < 2 ^ 32) (hb : b < 256) (he : cst c b = cst c' b) : c = c' :=
  xor_right (bs8_inj (Nat.xor_lt_two_pow h (by omega)) (Nat.xor_lt_two_pow h' (by omega)) he)
theorem cst_inj_b {c : Nat} {b b' : Int} (h : c < 2 ^ 32) (h0 : 0 ≤ b) (hb : b < 256) (h0' : 0 ≤ b') (hb' : b' < 256) (he : cst c b = cst c b') : b = b' := by
  have := xor_left (bs8_inj (Nat.xor_lt_two_pow h (by omega)) (Nat.xor_lt_two_pow h (by omega)) he)
  omega
theorem crc_inj {l : List Int} (hl : Bytes l) : ∀ {c c' : Nat}, c < 2 ^ 32 → c' < 2 ^ 32 → crc c l = crc c' l → c = c' := by
  induction l with
  | nil => intro c c' _ _ h; exact h
  | cons b l ih =>
    intro c c' h h' he
    have hb := hl b (by simp)
    exact cst_inj h h' hb.2 (ih (fun x hx => hl x (by simp [hx])) (cst_lt h hb.2) (cst_lt h' hb.2) he)
theorem crc_set {a l : List Int} {b b' : Int} (ha : Bytes a) (hl : Bytes l) (hb : 0 ≤ b ∧ b < 256) (hb' : 0 ≤ b' ∧ b' < 256) {c : Nat} (hc : c < 2 ^ 32) (he : crc c (a ++ b :: l) = crc c (a ++ b' :: l)) : b = b' := by
  rw [crc_append, crc_append] at he
  have h1 := crc_lt ha hc
  exact cst_inj_b h1 hb.1 hb.2 hb'.1 hb'.2 (crc_inj hl (cst_lt h1 hb.2) (cst_lt h1 hb'.2) he)
theorem sm_inj {a b : List Int} (ha : Bytes a) (hb : Bytes b) (h : sm a = sm b) : crc 4294967295 a = crc 4294967295 b := by
  have h1 := crc_lt ha (c := 4294967295) (by decide)
  have h2 := crc_lt hb (c := 4294967295) (by decide)
  have hm : IntKind.u32.max = ((4294967295 : Nat) : Int) := rfl
  unfold sm at h
  rw [hm, u32_xor_nat _ _ (by decide) h1, u32_xor_nat _ _ (by decide) h2] at h
  exact xor_left (by exact_mod_cast h)
theorem sm_range {l : List Int} (hl : Bytes l) : 0 ≤ sm l ∧ sm l < 4294967296 := by
  have h1 := crc_lt hl (c := 4294967295) (by decide)
  have hm : IntKind.u32.max = ((4294967295 : Nat) : Int) := rfl
  unfold sm
  rw [hm, u32_xor_nat _ _ (by decide) h1]
  have := Nat.xor_lt_two_pow (n := 32) (show 4294967295 < 2 ^ 32 by decide) h1
  omega
end Go.Proofs.Ytkblieonpncacaa.Pure
