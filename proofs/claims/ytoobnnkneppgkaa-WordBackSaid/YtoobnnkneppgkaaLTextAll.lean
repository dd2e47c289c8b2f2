/- Words of 128 bits as numbers, bit by bit, and their texts: Val, BitVal, Parse and Text in one (joined by merge.py). -/
import Derived.Test.YtoobnnkneppgkaaLWord
import Derived.Test.YtoobnnkneppgkaaFx2
import Derived.Laws.BitsAllLaws
import Derived.Test.YtoobnnkneppgkaaFx9
import Derived.Test.YtoobnnkneppgkaaFx15
import Derived.Test.YtoobnnkneppgkaaFx16
import Derived.Test.YtoobnnkneppgkaaFx8
import Derived.Test.YtoobnnkneppgkaaFx23
import Derived.Test.YtoobnnkneppgkaaFx24
import Derived.Test.YtoobnnkneppgkaaFx25
import Derived.Test.YtoobnnkneppgkaaFx26
set_option linter.unusedVariables false
set_option linter.unusedSimpArgs false
namespace Go.Proofs.Ytoobnnkneppgkaa.Pure
open Go.RowKit Go.Proofs.Ytoobnnkneppgkaa.F Go.Proofs.YtoobnnkneppgkaaW.PrintWords Go.Proofs.YtoobnnkneppgkaaW.PrintLast Go.Proofs.YtoobnnkneppgkaaW.PrintMore

theorem wrapu_eq (x : Int) : IntKind.u64.wrap x = x % 18446744073709551616 := by
  simp only [IntKind.wrap]
  rfl
theorem Ev.eq_now' {α : Type} {x : Option α} {r : α} (h : x = some r) : Ev (fun _ => x) r := by subst h; exact Ev.now _
theorem Ev.of_eq {α : Type} {g : Nat → Option α} {r : α} (h : ∀ k, g k = some r) : Ev g r := ⟨0, fun k _ => h k⟩
/-- The mask whose first n bits are set, by word. -/
def maskM (n : Nat) : Int × Int := (word_Mask.f n).getD (0, 0)
set_option maxRecDepth 100000 in
theorem mask_has : ∀ i : Fin 129, word_Mask.f (i.val : Int) = some (maskM i.val) := by decide +kernel
theorem mask_zero : maskM 0 = (0, 0) := by decide +kernel
theorem mask_full : maskM 128 = (18446744073709551615, 18446744073709551615) := by decide +kernel
theorem mask_low {n : Int} (h : n ≤ 0) : word_Mask.f n = some (maskM 0) := by
  have : word_Mask.f n = word_Mask.f 0 := by simp [word_Mask.f, word_ones.f, word_Shr.f, h]
  rw [this]; exact mask_has ⟨0, by omega⟩
theorem mask_high {n : Int} (h : 128 ≤ n) : word_Mask.f n = some (maskM 128) := by
  have h1 : ¬ n ≤ 0 := by omega
  have h2 : ¬ n < 64 := by omega
  have h3 : ¬ n < 128 := by omega
  have : word_Mask.f n = word_Mask.f 128 := by simp [word_Mask.f, word_ones.f, word_Shr.f, h1, h2, h3]
  rw [this]; exact mask_has ⟨128, by omega⟩
theorem mask_mid {n : Nat} (h : n ≤ 128) : word_Mask.f (n : Int) = some (maskM n) := mask_has ⟨n, by omega⟩
/-- The word whose number is V. -/
def pr (V : Nat) : Int × Int := (((V / 2 ^ 64 : Nat) : Int), ((V % 2 ^ 64 : Nat) : Int))
theorem pr_lt (V : Nat) (h : V < 2 ^ 128) : V / 2 ^ 64 < 18446744073709551616 ∧ V % 2 ^ 64 < 18446744073709551616 := by omega
theorem pr_of {a b : Int} (ha : 0 ≤ a ∧ a < 18446744073709551616) (hb : 0 ≤ b ∧ b < 18446744073709551616) : ∃ V, V < 2 ^ 128 ∧ a = (pr V).1 ∧ b = (pr V).2 := by
  refine ⟨a.toNat * 2 ^ 64 + b.toNat, by omega, ?_, ?_⟩
  · show a = (((a.toNat * 2 ^ 64 + b.toNat) / 2 ^ 64 : Nat) : Int); omega
  · show b = (((a.toNat * 2 ^ 64 + b.toNat) % 2 ^ 64 : Nat) : Int); omega
theorem shl_u64 (x k : Nat) (hk : k ≤ 64) : shl .u64 (x : Int) (k : Int) = ((x * 2 ^ k % 2 ^ 64 : Nat) : Int) := by
  unfold shl
  have hb : IntKind.u64.bits = 64 := rfl
  rw [hb, Int.toNat_natCast, Nat.min_eq_left hk, wrapu_eq, Int.natCast_emod, Int.natCast_mul, Int.natCast_pow]
  rfl
theorem shr_u64 (x k : Nat) (hk : k ≤ 64) : shr .u64 (x : Int) (k : Int) = ((x / 2 ^ k : Nat) : Int) := by
  unfold shr
  have hb : IntKind.u64.bits = 64 := rfl
  rw [hb, Int.toNat_natCast, Nat.min_eq_left hk, Int.natCast_ediv, Int.natCast_pow]
  rfl
theorem shl_hi (V k : Nat) (hV : V < 2 ^ 128) (hk : k ≤ 64) : (V / 2 ^ 64 * 2 ^ k % 2 ^ 64) ||| (V % 2 ^ 64 / 2 ^ (64 - k)) = V * 2 ^ k % 2 ^ 128 / 2 ^ 64 := by
  apply Nat.eq_of_testBit_eq
  intro j
  simp only [Nat.testBit_or, Nat.testBit_mod_two_pow, Nat.testBit_mul_two_pow, Nat.testBit_div_two_pow]
  by_cases h1 : j < 64
  · by_cases h2 : k ≤ j
    · have e1 : 64 + j - k = 64 + (j - k) := by omega
      have e2 : j - k + 64 = 64 + (j - k) := by omega
      have e3 : j + 64 - k = 64 + (j - k) := by omega
      have h3 : ¬ (64 - k + j < 64) := by omega
      have h3' : ¬ (j + (64 - k) < 64) := by omega
      have h4 : 64 + j < 128 := by omega
      have h4' : j + 64 < 128 := by omega
      have h5 : k ≤ 64 + j := by omega
      have h5' : k ≤ j + 64 := by omega
      simp [h1, h2, h3, h3', h4, h4', h5, h5', e1, e2, e3]
    · have e1 : 64 + j - k = 64 - k + j := by omega
      have e3 : j + 64 - k = 64 - k + j := by omega
      have e2 : j + (64 - k) = 64 - k + j := by omega
      have h3 : 64 - k + j < 64 := by omega
      have h4 : 64 + j < 128 := by omega
      have h4' : j + 64 < 128 := by omega
      have h5 : k ≤ 64 + j := by omega
      have h5' : k ≤ j + 64 := by omega
      simp [h1, h2, h3, h4, h4', h5, h5', e1, e2, e3]
  · have h3 : ¬ (64 - k + j < 64) := by omega
    have h3' : ¬ (j + (64 - k) < 64) := by omega
    have h4 : ¬ (64 + j < 128) := by omega
    have h4' : ¬ (j + 64 < 128) := by omega
    simp [h1, h3, h3', h4, h4']
theorem shl_lo (V k : Nat) (hk : k ≤ 64) : V % 2 ^ 64 * 2 ^ k % 2 ^ 64 = V * 2 ^ k % 2 ^ 128 % 2 ^ 64 := by
  rw [Nat.mod_mul_mod, Nat.mod_mod_of_dvd _ (by decide : 2 ^ 64 ∣ 2 ^ 128)]
theorem shl_val {V n : Nat} (hV : V < 2 ^ 128) : word_Shl.f (pr V).1 (pr V).2 (n : Int) = some (pr (V * 2 ^ n % 2 ^ 128)) := by
  have hp := pr_lt V hV
  unfold word_Shl.f
  by_cases c1 : n = 0
  · subst c1; simp [Nat.mod_eq_of_lt hV]
  rw [if_neg (by omega)]
  by_cases c2 : n < 64
  · have e1 : wrap64 (64 - (n : Int)) = ((64 - n : Nat) : Int) := by rw [wrap64_id (by omega) (by omega)]; omega
    rw [if_pos (by omega), if_pos (by omega), e1, if_pos (by omega)]
    simp only [pr]
    rw [shl_u64 _ _ (by omega), shl_u64 _ _ (by omega), shr_u64 _ _ (by omega), u64_or_nat _ _ (by omega) (by have := Nat.div_le_self (V % 2 ^ 64) (2 ^ (64 - n)); omega), shl_hi V n hV (by omega), shl_lo V n (by omega)]
  rw [if_neg (by omega)]
  by_cases c3 : n < 128
  · have e1 : wrap64 ((n : Int) - 64) = ((n - 64 : Nat) : Int) := by rw [wrap64_id (by omega) (by omega)]; omega
    rw [if_pos (by omega), e1, if_pos (by omega)]
    simp only [pr]
    rw [shl_u64 _ _ (by omega)]
    have hn : V * 2 ^ n = V * 2 ^ (n - 64) * 2 ^ 64 := by rw [Nat.mul_assoc, ← Nat.pow_add]; congr 2; omega
    have e2 : V * 2 ^ n % 2 ^ 128 / 2 ^ 64 = V % 2 ^ 64 * 2 ^ (n - 64) % 2 ^ 64 := by
      rw [hn, show (2 : Nat) ^ 128 = 2 ^ 64 * 2 ^ 64 from rfl, Nat.mod_mul_left_div_self, Nat.mul_div_cancel _ (by decide), Nat.mod_mul_mod]
    have e3 : V * 2 ^ n % 2 ^ 128 % 2 ^ 64 = 0 := by
      rw [Nat.mod_mod_of_dvd _ (by decide : 2 ^ 64 ∣ 2 ^ 128), hn]; exact Nat.mul_mod_left _ _
    rw [e2, e3]; rfl
  · rw [if_neg (by omega)]
    have hn : V * 2 ^ n = V * 2 ^ (n - 128) * 2 ^ 128 := by rw [Nat.mul_assoc, ← Nat.pow_add]; congr 2; omega
    rw [hn, Nat.mul_mod_left]; rfl
theorem shr_lo (V k : Nat) (hk : k ≤ 64) : (V % 2 ^ 64 / 2 ^ k) ||| (V / 2 ^ 64 * 2 ^ (64 - k) % 2 ^ 64) = V / 2 ^ k % 2 ^ 64 := by
  apply Nat.eq_of_testBit_eq
  intro j
  simp only [Nat.testBit_or, Nat.testBit_mod_two_pow, Nat.testBit_mul_two_pow, Nat.testBit_div_two_pow]
  by_cases h1 : j < 64
  · by_cases h2 : k + j < 64
    · have h3 : ¬ (64 - k ≤ j) := by omega
      have h2' : j + k < 64 := by omega
      simp [h1, h2, h2', h3]
    · have h3 : 64 - k ≤ j := by omega
      have h2' : ¬ (j + k < 64) := by omega
      have e1 : 64 + (j - (64 - k)) = k + j := by omega
      have e2 : j - (64 - k) + 64 = k + j := by omega
      have e3 : j + k = k + j := by omega
      simp [h1, h2, h2', h3, e1, e2, e3]
  · have h2 : ¬ (k + j < 64) := by omega
    have h2' : ¬ (j + k < 64) := by omega
    simp [h1, h2, h2']
theorem shr_val {V n : Nat} (hV : V < 2 ^ 128) : word_Shr.f (pr V).1 (pr V).2 (n : Int) = some (pr (V / 2 ^ n)) := by
  have hp := pr_lt V hV
  unfold word_Shr.f
  by_cases c1 : n = 0
  · subst c1; simp
  rw [if_neg (by omega)]
  by_cases c2 : n < 64
  · have e1 : wrap64 (64 - (n : Int)) = ((64 - n : Nat) : Int) := by rw [wrap64_id (by omega) (by omega)]; omega
    rw [if_pos (by omega), if_pos (by omega), e1, if_pos (by omega)]
    simp only [pr]
    rw [shr_u64 _ _ (by omega), shl_u64 _ _ (by omega), shr_u64 _ _ (by omega), u64_or_nat _ _ (by have := Nat.div_le_self (V % 2 ^ 64) (2 ^ n); omega) (by omega), shr_lo V n (by omega), Nat.div_div_eq_div_mul, Nat.div_div_eq_div_mul, Nat.mul_comm]
  rw [if_neg (by omega)]
  by_cases c3 : n < 128
  · have e1 : wrap64 ((n : Int) - 64) = ((n - 64 : Nat) : Int) := by rw [wrap64_id (by omega) (by omega)]; omega
    rw [if_pos (by omega), e1, if_pos (by omega)]
    simp only [pr]
    rw [shr_u64 _ _ (by omega), Nat.div_div_eq_div_mul, ← Nat.pow_add, show 64 + (n - 64) = n by omega]
    have h1 : V / 2 ^ n < 2 ^ 64 := by
      rw [Nat.div_lt_iff_lt_mul (Nat.two_pow_pos n), ← Nat.pow_add]
      exact Nat.lt_of_lt_of_le hV (Nat.pow_le_pow_right (by decide) (by omega))
    rw [Nat.div_eq_of_lt h1, Nat.mod_eq_of_lt h1]; rfl
  · rw [if_neg (by omega)]
    have h1 : V / 2 ^ n = 0 := Nat.div_eq_of_lt (Nat.lt_of_lt_of_le hV (Nat.pow_le_pow_right (by decide) (by omega)))
    rw [h1]; rfl
theorem and_val {V U : Nat} (hV : V < 2 ^ 128) (hU : U < 2 ^ 128) : word_And.f (pr V).1 (pr V).2 (pr U).1 (pr U).2 = some (pr (V &&& U)) := by
  have hp := pr_lt V hV
  have hq := pr_lt U hU
  simp only [word_And.f, pr]
  rw [u64_and_nat _ _ hp.1 hq.1, u64_and_nat _ _ hp.2 hq.2, ← Nat.and_mod_two_pow]
  rw [← Nat.shiftRight_eq_div_pow, ← Nat.shiftRight_eq_div_pow, ← Nat.shiftRight_eq_div_pow, Nat.shiftRight_and_distrib]
theorem or_val {V U : Nat} (hV : V < 2 ^ 128) (hU : U < 2 ^ 128) : word_Or.f (pr V).1 (pr V).2 (pr U).1 (pr U).2 = some (pr (V ||| U)) := by
  have hp := pr_lt V hV
  have hq := pr_lt U hU
  simp only [word_Or.f, pr]
  rw [u64_or_nat _ _ hp.1 hq.1, u64_or_nat _ _ hp.2 hq.2, ← Nat.or_mod_two_pow]
  rw [← Nat.shiftRight_eq_div_pow, ← Nat.shiftRight_eq_div_pow, ← Nat.shiftRight_eq_div_pow, Nat.shiftRight_or_distrib]
theorem xor_val {V U : Nat} (hV : V < 2 ^ 128) (hU : U < 2 ^ 128) : word_Xor.f (pr V).1 (pr V).2 (pr U).1 (pr U).2 = some (pr (V ^^^ U)) := by
  have hp := pr_lt V hV
  have hq := pr_lt U hU
  simp only [word_Xor.f, pr]
  rw [u64_xor_nat _ _ hp.1 hq.1, u64_xor_nat _ _ hp.2 hq.2, ← Nat.xor_mod_two_pow]
  rw [← Nat.shiftRight_eq_div_pow, ← Nat.shiftRight_eq_div_pow, ← Nat.shiftRight_eq_div_pow, Nat.shiftRight_xor_distrib]
theorem xor_ones64 (x : Nat) (hx : x < 2 ^ 64) : 18446744073709551615 ^^^ x = 18446744073709551615 - x := by
  apply Nat.eq_of_testBit_eq
  intro j
  rw [show 18446744073709551615 - x = 2 ^ 64 - (x + 1) by omega, Nat.testBit_two_pow_sub_succ hx, Nat.testBit_xor, show (18446744073709551615 : Nat) = 2 ^ 64 - 1 from rfl, Nat.testBit_two_pow_sub_one]
  by_cases h : j < 64
  · simp [h]
  · have : x.testBit j = false := Nat.testBit_lt_two_pow (Nat.lt_of_lt_of_le hx (Nat.pow_le_pow_right (by decide) (by omega)))
    simp [h, this]
theorem not_val {V : Nat} (hV : V < 2 ^ 128) : word_Not.f (pr V).1 (pr V).2 = some (pr (2 ^ 128 - 1 - V)) := by
  have hp := pr_lt V hV
  have hm : IntKind.u64.max = ((18446744073709551615 : Nat) : Int) := rfl
  simp only [word_Not.f, pr]
  rw [hm, u64_xor_nat _ _ (by decide) hp.1, u64_xor_nat _ _ (by decide) hp.2, xor_ones64 _ hp.1, xor_ones64 _ hp.2]
  congr 2 <;> omega
theorem add_val {V U : Nat} (hV : V < 2 ^ 128) (hU : U < 2 ^ 128) : word_Add.f (pr V).1 (pr V).2 (pr U).1 (pr U).2 = some ((pr ((V + U) % 2 ^ 128)).1, (pr ((V + U) % 2 ^ 128)).2, decide (2 ^ 128 ≤ V + U)) := by
  have hp := pr_lt V hV
  have hq := pr_lt U hU
  have a1 : (pr V).1 = ((V / 2 ^ 64 : Nat) : Int) := rfl
  have a2 : (pr V).2 = ((V % 2 ^ 64 : Nat) : Int) := rfl
  have a3 : (pr U).1 = ((U / 2 ^ 64 : Nat) : Int) := rfl
  have a4 : (pr U).2 = ((U % 2 ^ 64 : Nat) : Int) := rfl
  have a5 : (pr ((V + U) % 2 ^ 128)).1 = (((V + U) % 2 ^ 128 / 2 ^ 64 : Nat) : Int) := rfl
  have a6 : (pr ((V + U) % 2 ^ 128)).2 = (((V + U) % 2 ^ 128 % 2 ^ 64 : Nat) : Int) := rfl
  unfold word_Add.f
  rw [if_pos (by omega)]
  simp only [Option.some.injEq, Prod.mk.injEq, decide_eq_decide]
  omega
set_option maxRecDepth 100000 in
theorem mask_pr : ∀ n : Fin 129, maskM n.val = pr (2 ^ 128 - 2 ^ (128 - n.val)) := by decide +kernel
theorem mask_val {n : Nat} (h : n ≤ 128) : word_Mask.f (n : Int) = some (pr (2 ^ 128 - 2 ^ (128 - n))) := by
  rw [mask_mid h]; congr 1; exact mask_pr ⟨n, by omega⟩
/-- The bit at place i as a number. -/
def bitv (V i : Nat) : Int := if V.testBit (127 - i) then 1 else 0
theorem and_one (x : Nat) (hx : x < 18446744073709551616) : wrap64 (Go.bits .and .u64 (x : Int) 1) = if x.testBit 0 then 1 else 0 := by
  rw [show (1 : Int) = ((1 : Nat) : Int) from rfl, u64_and_nat _ _ hx (by decide), Nat.and_one_is_mod, Nat.testBit_zero]
  have h : x % 2 = 0 ∨ x % 2 = 1 := by omega
  rcases h with h | h <;> rw [h] <;> decide +kernel
theorem bit_core {V i : Nat} (hV : V < 2 ^ 128) (hi : i < 128) (k : Nat) : word_Bit.f (k + 1) (pr V).1 (pr V).2 (i : Int) = some (bitv V i) ∧ turnpikeref1_Bit.f (k + 1) (pr V).1 (pr V).2 (i : Int) = some (bitv V i) := by
  have hp := pr_lt V hV
  have c1 : ¬ (i : Int) < 0 := by omega
  have c2 : ¬ (i : Int) > 127 := by omega
  by_cases c3 : (i : Int) < 64
  · have e1 : wrap64 (63 - (i : Int)) = ((63 - i : Nat) : Int) := by rw [wrap64_id (by omega) (by omega)]; omega
    have c4 : (0 : Int) ≤ ((63 - i : Nat) : Int) := by omega
    have h1 : V / 2 ^ 64 / 2 ^ (63 - i) < 18446744073709551616 := by have := Nat.div_le_self (V / 2 ^ 64) (2 ^ (63 - i)); omega
    have h2 : (V / 2 ^ 64 / 2 ^ (63 - i)).testBit 0 = V.testBit (127 - i) := by
      rw [Nat.testBit_div_two_pow, Nat.testBit_div_two_pow]; congr 1; omega
    have h3 : wrap64 (Go.bits .and .u64 (shr .u64 (pr V).1 ((63 - i : Nat) : Int)) 1) = bitv V i := by
      simp only [pr]; rw [shr_u64 _ _ (by omega), and_one _ h1, h2]; rfl
    simp only [word_Bit.f, word_Bit.j0, turnpikeref1_Bit.f, turnpikeref1_Bit.j0, c1, c2, c3, e1, c4, h3, decide_false, Bool.false_eq_true, if_true, if_false, and_self]
  · have e1 : wrap64 (127 - (i : Int)) = ((127 - i : Nat) : Int) := by rw [wrap64_id (by omega) (by omega)]; omega
    have c4 : (0 : Int) ≤ ((127 - i : Nat) : Int) := by omega
    have h1 : V % 2 ^ 64 / 2 ^ (127 - i) < 18446744073709551616 := by have := Nat.div_le_self (V % 2 ^ 64) (2 ^ (127 - i)); omega
    have h2 : (V % 2 ^ 64 / 2 ^ (127 - i)).testBit 0 = V.testBit (127 - i) := by
      rw [Nat.testBit_div_two_pow, Nat.testBit_mod_two_pow]; simp only [Nat.add_zero, Nat.zero_add, decide_eq_true_eq, show 127 - i < 64 by omega, decide_true, Bool.true_and]
    have h3 : wrap64 (Go.bits .and .u64 (shr .u64 (pr V).2 ((127 - i : Nat) : Int)) 1) = bitv V i := by
      simp only [pr]; rw [shr_u64 _ _ (by omega), and_one _ h1, h2]; rfl
    simp only [word_Bit.f, word_Bit.j0, turnpikeref1_Bit.f, turnpikeref1_Bit.j0, c1, c2, c3, e1, c4, h3, decide_false, Bool.false_eq_true, if_true, if_false, and_self]
theorem bit_ev {V i : Nat} (hV : V < 2 ^ 128) (hi : i < 128) : Ev (fun k => word_Bit.f k (pr V).1 (pr V).2 (i : Int)) (bitv V i) := Ev.succ (Ev.of_eq (fun k => (bit_core hV hi k).1))
theorem rbit_ev {V i : Nat} (hV : V < 2 ^ 128) (hi : i < 128) : Ev (fun k => turnpikeref1_Bit.f k (pr V).1 (pr V).2 (i : Int)) (bitv V i) := Ev.succ (Ev.of_eq (fun k => (bit_core hV hi k).2))
theorem bitv_eq (V U i : Nat) : bitv V i = bitv U i ↔ V.testBit (127 - i) = U.testBit (127 - i) := by
  unfold bitv; cases V.testBit (127 - i) <;> cases U.testBit (127 - i) <;> simp

/-- How many first bits two words share: told by its law. -/
theorem common_loop {V U : Nat} (hV : V < 2 ^ 128) (hU : U < 2 ^ 128) : ∀ (d i : Nat), i + d = 128 → ∃ n : Nat, i ≤ n ∧ n ≤ 128 ∧ (∀ t, i ≤ t → t < n → bitv V t = bitv U t) ∧ (n < 128 → bitv V n ≠ bitv U n) ∧ Ev (fun k => turnpikeref1_Common.l0 k (i : Int) (pr V).1 (pr V).2 (pr U).1 (pr U).2) (n : Int) := by
  intro d
  induction d with
  | zero =>
    intro i hi
    refine ⟨i, Nat.le_refl _, by omega, fun t h1 h2 => absurd h2 (by omega), fun h => absurd h (by omega), Ev.succ (Ev.of_eq (fun k => ?_))⟩
    simp only [turnpikeref1_Common.l0]
    rw [if_neg (by omega)]
  | succ d ih =>
    intro i hi
    by_cases c : bitv V i = bitv U i
    · obtain ⟨n, h1, h2, h3, h4, h5⟩ := ih (i + 1) (by omega)
      refine ⟨n, by omega, h2, fun t ht1 ht2 => ?_, h4, Ev.succ ?_⟩
      · by_cases e : t = i
        · subst e; exact c
        · exact h3 t (by omega) ht2
      · have e1 : wrap64 ((i : Int) + 1) = ((i + 1 : Nat) : Int) := by rw [wrap64_id (by omega) (by omega)]; omega
        simp only [turnpikeref1_Common.l0, show (i : Int) < 128 by omega, if_true]
        refine Ev.bind (rbit_ev hV (by omega)) ?_
        refine Ev.bind (rbit_ev hU (by omega)) ?_
        simp only [c, if_true, e1]
        exact h5
    · refine ⟨i, Nat.le_refl _, by omega, fun t h1 h2 => absurd h2 (by omega), fun _ => c, Ev.succ ?_⟩
      simp only [turnpikeref1_Common.l0, show (i : Int) < 128 by omega, if_true]
      refine Ev.bind (rbit_ev hV (by omega)) ?_
      refine Ev.bind (rbit_ev hU (by omega)) ?_
      simp only [c, if_false]
      exact Ev.now _
theorem lead_ev {V : Nat} (hV : V < 2 ^ 128) : ∃ n : Nat, n ≤ 128 ∧ Ev (fun k => turnpikeref1_Lead.f k (pr V).1 (pr V).2) (n : Int) ∧ ∀ m, m ≤ 128 → (n < 128 - m ↔ V / 2 ^ m ≠ 0) := by
  obtain ⟨n, h1, h2, h3, h4, h5⟩ := common_loop hV (by decide : 0 < 2 ^ 128) 128 0 (by omega)
  refine ⟨n, h2, ?_, ?_⟩
  · unfold turnpikeref1_Lead.f turnpikeref1_Common.f
    refine Ev.bind (a := (n : Int)) ?_ (Ev.now _)
    exact h5
  · intro m hm
    have hz : ∀ t, bitv 0 t = 0 := fun t => by simp [bitv]
    constructor
    · intro hlt hdiv
      have hb := h4 (by omega)
      rw [hz] at hb
      have hb2 : V.testBit (127 - n) = true := by
        unfold bitv at hb; by_cases q : V.testBit (127 - n) = true
        · exact q
        · simp [q] at hb
      have : (V / 2 ^ m).testBit (127 - n - m) = true := by
        rw [Nat.testBit_div_two_pow]
        rw [show 127 - n - m + m = 127 - n by omega]
        exact hb2
      rw [hdiv] at this
      simp at this
    · intro hdiv
      refine Classical.byContradiction fun hge => hdiv ?_
      apply Nat.eq_of_testBit_eq
      intro j
      rw [Nat.testBit_div_two_pow, Nat.zero_testBit]
      by_cases c : j + m < 128
      · have := h3 (127 - (j + m)) (by omega) (by omega)
        rw [hz] at this
        unfold bitv at this
        rw [show 127 - (127 - (j + m)) = j + m by omega] at this
        by_cases q : V.testBit (j + m) = true
        · simp [q] at this
        · simpa using q
      · exact Nat.testBit_lt_two_pow (Nat.lt_of_lt_of_le hV (Nat.pow_le_pow_right (by decide) (by omega)))
/-- A byte as a digit. -/
def dv (c : Int) : Option Nat := if 48 ≤ c ∧ c ≤ 57 then some (c - 48).toNat else if 97 ≤ c ∧ c ≤ 102 then some (c - 87).toNat else none
theorem dv_lt {c : Int} {v : Nat} (h : dv c = some v) : v < 16 := by
  unfold dv at h
  split at h
  · cases h; omega
  · split at h
    · cases h; omega
    · cases h
/-- What is read from place i on, the word so far being U. -/
def pv (s : ByteArray) : Nat → Nat → Nat → Int × Int × Int
  | 0, _, U => ((pr U).1, (pr U).2, 0)
  | d + 1, i, U => match dv (bt s (i : Int)) with
    | some v => pv s d (i + 1) ((U * 2 ^ 4 % 2 ^ 128) ||| v)
    | none => (0, 0, 12)
theorem or_small {X v : Nat} (hX : X < 2 ^ 128) (hv : v < 16) : word_Or.f (pr X).1 (pr X).2 0 (v : Int) = some (pr (X ||| v)) ∧ (pr (X ||| v)).1 = (pr X).1 ∧ (pr (X ||| v)).2 = Go.bits .or .u64 (pr X).2 (v : Int) := by
  have hp := pr_lt X hX
  have hv2 : v < 2 ^ 128 := by omega
  have h := or_val hX hv2
  have z1 : (pr v).1 = 0 := by show ((v / 2 ^ 64 : Nat) : Int) = 0; omega
  have z2 : (pr v).2 = (v : Int) := by show ((v % 2 ^ 64 : Nat) : Int) = v; omega
  rw [z1, z2] at h
  have h2 := h
  unfold word_Or.f at h2
  simp only [Option.some.injEq] at h2
  have o : Go.bits .or .u64 (pr X).1 0 = (pr X).1 := by
    show Go.bits .or .u64 ((X / 2 ^ 64 : Nat) : Int) ((0 : Nat) : Int) = _
    rw [u64_or_nat _ _ hp.1 (by decide), Nat.or_zero]; rfl
  refine ⟨h, ?_, ?_⟩
  · rw [← h2, o]
  · rw [← h2]
theorem shl4 {U : Nat} (hU : U < 2 ^ 128) : word_Shl.f (pr U).1 (pr U).2 4 = some (pr (U * 2 ^ 4 % 2 ^ 128)) := shl_val (n := 4) hU
theorem rshl4 {U : Nat} (hU : U < 2 ^ 128) : turnpikeref1_Shl.f (pr U).1 (pr U).2 4 = some (pr (U * 2 ^ 4 % 2 ^ 128)) := by
  obtain ⟨r, e1, e2⟩ := shl_same (pr U).1 (pr U).2 (n := 4) (by omega) (by omega)
  rw [shl4 hU] at e1
  rw [e2, ← e1]
theorem dv_num {c : Int} (h1 : 48 ≤ c) (h2 : c ≤ 57) : dv c = some (c - 48).toNat := by unfold dv; rw [if_pos ⟨h1, h2⟩]
theorem dv_let {c : Int} (h1 : 97 ≤ c) (h2 : c ≤ 102) : dv c = some (c - 87).toNat := by unfold dv; rw [if_neg (by omega), if_pos ⟨h1, h2⟩]
theorem dv_no {c : Int} (h1 : ¬ (48 ≤ c ∧ c ≤ 57)) (h2 : ¬ (97 ≤ c ∧ c ≤ 102)) : dv c = none := by unfold dv; rw [if_neg h1, if_neg h2]
theorem wparse {s : ByteArray} (hs : s.size = 32) : ∀ (d i U : Nat), i + d = 32 → U < 2 ^ 128 → Ev (fun k => word_Parse.l0 k s 32 (i : Int) (pr U).1 (pr U).2) (pv s d i U) := by
  intro d
  induction d with
  | zero =>
    intro i U hi hU
    refine Ev.succ (Ev.of_eq (fun k => ?_))
    simp only [word_Parse.l0]
    rw [if_neg (by omega)]; rfl
  | succ d ih =>
    intro i U hi hU
    have hc := bt_range s (i : Int)
    have hX : U * 2 ^ 4 % 2 ^ 128 < 2 ^ 128 := Nat.mod_lt _ (by decide)
    have h1 : (i : Int) < 32 := by omega
    have h2 : (0 : Int) ≤ (i : Int) := by omega
    have h3 : (i : Int) < (s.size : Int) := by omega
    have e3 : wrap64 ((i : Int) + 1) = ((i + 1 : Nat) : Int) := by rw [wrap64_id (n := (i : Int) + 1) (by omega) (by omega)]; omega
    have step : ∀ v : Nat, v < 16 → dv (bt s (i : Int)) = some v → Ev (fun k => (word_Shl.f (pr U).1 (pr U).2 4).bind fun x => (word_Or.f x.1 x.2 0 (v : Int)).bind fun y => word_Parse.l0 k s 32 (wrap64 ((i : Int) + 1)) y.1 y.2) (pv s (d + 1) i U) := by
      intro v hv hd
      simp only [shl4 hU, Option.bind_some, (or_small hX hv).1, e3, pv, hd]
      exact ih (i + 1) _ (by omega) (Nat.or_lt_two_pow hX (by omega))
    have no : dv (bt s (i : Int)) = none → pv s (d + 1) i U = (0, 0, 12) := fun hd => by simp only [pv, hd]
    clear e3 ih
    generalize hcc : bt s (i : Int) = c at *
    refine Ev.succ ?_
    simp only [word_Parse.l0, h1, h2, h3, if_true, hcc]
    have other : (¬ (48 ≤ c ∧ c ≤ 57)) → Ev (fun k => word_Parse.j1 k s c 32 (i : Int) false (pr U).1 (pr U).2) (pv s (d + 1) i U) := by
      intro hn
      refine Ev.succ ?_
      simp only [word_Parse.j1, Bool.false_eq_true, if_false]
      by_cases c3 : c ≥ 97
      · simp only [c3, if_true]
        refine Ev.succ ?_
        by_cases c4 : c ≤ 102
        · simp only [word_Parse.j2, c4, decide_true, if_true]
          have := step (c - 87).toNat (by omega) (dv_let c3 c4)
          rw [show ((c - 97) + 10) % 256 = (((c - 87).toNat : Nat) : Int) by omega]
          exact this
        · simp only [word_Parse.j2, c4, decide_false, Bool.false_eq_true, if_false]
          rw [no (dv_no hn (by omega))]; exact Ev.now _
      · simp only [c3, if_false]
        refine Ev.succ ?_
        simp only [word_Parse.j2, Bool.false_eq_true, if_false]
        rw [no (dv_no hn (by omega))]; exact Ev.now _
    by_cases c1 : c ≥ 48
    · simp only [c1, if_true]
      by_cases c2 : c ≤ 57
      · refine Ev.succ ?_
        simp only [word_Parse.j1, c2, decide_true, if_true]
        have := step (c - 48).toNat (by omega) (dv_num c1 c2)
        rw [show (c - 48) % 256 = (((c - 48).toNat : Nat) : Int) by omega]
        exact this
      · simp only [c2, decide_false]
        exact other (by omega)
    · simp only [c1, if_false]
      exact other (by omega)
theorem rparse {s : ByteArray} (hs : s.size = 32) : ∀ (d i U : Nat), i + d = 32 → U < 2 ^ 128 → Ev (fun k => turnpikeref1_Parse.l0 k s (i : Int) (pr U).1 (pr U).2) (pv s d i U) := by
  intro d
  induction d with
  | zero =>
    intro i U hi hU
    refine Ev.succ (Ev.of_eq (fun k => ?_))
    simp only [turnpikeref1_Parse.l0]
    rw [if_neg (by omega)]; rfl
  | succ d ih =>
    intro i U hi hU
    have hc := bt_range s (i : Int)
    have hX : U * 2 ^ 4 % 2 ^ 128 < 2 ^ 128 := Nat.mod_lt _ (by decide)
    have h1 : (i : Int) < 32 := by omega
    have h2 : (0 : Int) ≤ (i : Int) := by omega
    have h3 : (i : Int) < (s.size : Int) := by omega
    have e3 : wrap64 ((i : Int) + 1) = ((i + 1 : Nat) : Int) := by rw [wrap64_id (n := (i : Int) + 1) (by omega) (by omega)]; omega
    have step : ∀ v : Nat, v < 16 → dv (bt s (i : Int)) = some v → Ev (fun k => (turnpikeref1_Shl.f (pr U).1 (pr U).2 4).bind fun x => turnpikeref1_Parse.l0 k s (wrap64 ((i : Int) + 1)) x.1 (Go.bits .or .u64 x.2 (v : Int))) (pv s (d + 1) i U) := by
      intro v hv hd
      have ho := or_small hX hv
      simp only [rshl4 hU, Option.bind_some, e3, pv, hd]
      rw [← ho.2.1, ← ho.2.2]
      exact ih (i + 1) _ (by omega) (Nat.or_lt_two_pow hX (by omega))
    have no : dv (bt s (i : Int)) = none → pv s (d + 1) i U = (0, 0, 12) := fun hd => by simp only [pv, hd]
    clear e3 ih
    generalize hcc : bt s (i : Int) = c at *
    refine Ev.succ ?_
    simp only [turnpikeref1_Parse.l0, h1, h2, h3, if_true, hcc]
    have other : (¬ (48 ≤ c ∧ c ≤ 57)) → Ev (fun k => turnpikeref1_Parse.j1 k s (i : Int) c false (pr U).1 (pr U).2) (pv s (d + 1) i U) := by
      intro hn
      refine Ev.succ ?_
      simp only [turnpikeref1_Parse.j1, Bool.false_eq_true, if_false]
      by_cases c3 : c ≥ 97
      · by_cases c4 : c ≤ 102
        · simp only [c3, c4, if_true]
          have := step (c - 87).toNat (by omega) (dv_let c3 c4)
          rw [show ((c - 97) % 256) + 10 = (((c - 87).toNat : Nat) : Int) by omega]
          exact this
        · simp only [c3, c4, if_true, if_false]
          rw [no (dv_no hn (by omega))]; exact Ev.now _
      · simp only [c3, if_false]
        rw [no (dv_no hn (by omega))]; exact Ev.now _
    by_cases c1 : c ≥ 48
    · simp only [c1, if_true]
      by_cases c2 : c ≤ 57
      · refine Ev.succ ?_
        simp only [turnpikeref1_Parse.j1, c2, decide_true, if_true]
        have := step (c - 48).toNat (by omega) (dv_num c1 c2)
        rw [show (c - 48) % 256 = (((c - 48).toNat : Nat) : Int) by omega]
        exact this
      · simp only [c2, decide_false]
        exact other (by omega)
    · simp only [c1, if_false]
      exact other (by omega)
/-- The sixteen digits. -/
def lit : ByteArray := ⟨#[48, 49, 50, 51, 52, 53, 54, 55, 56, 57, 97, 98, 99, 100, 101, 102]⟩
/-- The j-th digit's number. -/
def nb (W j : Nat) : Nat := W / 2 ^ (124 - 4 * j) % 16
/-- The j-th digit's byte. -/
def hx (W j : Nat) : Int := bt lit (nb W j : Int)
theorem nb_lt (W j : Nat) : nb W j < 16 := Nat.mod_lt _ (by decide)
theorem dig_all : ∀ d : Fin 16, textc (d.val : Int) = bt lit (d.val : Int) ∧ dv (bt lit (d.val : Int)) = some d.val := by decide +kernel
theorem wrap8_id {x : Int} (h0 : 0 ≤ x) (h1 : x < 256) : IntKind.u8.wrap x = x := by rw [wrap8_eq]; omega
theorem texti_val {W j : Nat} (hW : W < 2 ^ 128) (hj : j < 32) : texti (pr W).1 (pr W).2 j = hx W j := by
  have h1 : word_Shr.f (pr W).1 (pr W).2 (124 - 4 * (j : Int)) = some (pr (W / 2 ^ (124 - 4 * j))) := by
    rw [show (124 : Int) - 4 * (j : Int) = ((124 - 4 * j : Nat) : Int) by omega, shr_val hW]
  have h2 : Go.bits .and .u64 (pr (W / 2 ^ (124 - 4 * j))).2 15 = ((nb W j : Nat) : Int) := by
    show Go.bits .and .u64 ((W / 2 ^ (124 - 4 * j) % 2 ^ 64 : Nat) : Int) ((15 : Nat) : Int) = _
    rw [u64_and_nat _ _ (Nat.mod_lt _ (by decide)) (by decide), show (15 : Nat) = 2 ^ 4 - 1 from rfl, nat_and_mask 4]
    unfold nb
    rw [show (2 : Nat) ^ 4 = 16 from rfl, Nat.mod_mod_of_dvd _ (by decide : 16 ∣ 2 ^ 64)]
  have h3 := nb_lt W j
  unfold texti
  rw [h1]
  simp only [textd, h2]
  rw [wrap8_id (by omega) (by omega)]
  exact (dig_all ⟨nb W j, h3⟩).1
theorem bitv_num (V i : Nat) : bitv V i = ((V / 2 ^ (127 - i) % 2 : Nat) : Int) := by
  unfold bitv
  rw [Nat.testBit_eq_decide_div_mod_eq]
  have : V / 2 ^ (127 - i) % 2 = 0 ∨ V / 2 ^ (127 - i) % 2 = 1 := by omega
  rcases this with h | h <;> rw [h] <;> simp
theorem nib (W j : Nat) (hj : j < 32) : 8 * bitv W (4 * j) + 4 * bitv W (4 * j + 1) + 2 * bitv W (4 * j + 2) + bitv W (4 * j + 3) = ((nb W j : Nat) : Int) := by
  have e0 : W / 2 ^ (127 - 4 * j) = W / 2 ^ (124 - 4 * j) / 8 := by
    rw [Nat.div_div_eq_div_mul, show (8 : Nat) = 2 ^ 3 from rfl, ← Nat.pow_add]; congr 2; omega
  have e1 : W / 2 ^ (127 - (4 * j + 1)) = W / 2 ^ (124 - 4 * j) / 4 := by
    rw [Nat.div_div_eq_div_mul, show (4 : Nat) = 2 ^ 2 from rfl, ← Nat.pow_add]; congr 2; omega
  have e2 : W / 2 ^ (127 - (4 * j + 2)) = W / 2 ^ (124 - 4 * j) / 2 := by
    rw [Nat.div_div_eq_div_mul, show (2 : Nat) = 2 ^ 1 from rfl, ← Nat.pow_add]; congr 2; omega
  have e3 : W / 2 ^ (127 - (4 * j + 3)) = W / 2 ^ (124 - 4 * j) := by congr 2; omega
  rw [bitv_num, bitv_num, bitv_num, bitv_num, e0, e1, e2, e3]
  unfold nb
  generalize W / 2 ^ (124 - 4 * j) = Y
  omega
theorem bitv_01 (V i : Nat) : 0 ≤ bitv V i ∧ bitv V i ≤ 1 := by unfold bitv; split <;> omega
theorem hx_byte (W j : Nat) : 0 ≤ hx W j ∧ hx W j < 256 := by have := bt_range lit (nb W j : Int); unfold hx; omega
theorem rtext_loop {W : Nat} (hW : W < 2 ^ 128) : ∀ (d i : Nat), i + d = 32 → Ev (fun k => turnpikeref1_Text.l0 k ((List.range i).map (hx W)) ((4 * i : Nat) : Int) (pr W).1 (pr W).2) (strOfNums ((List.range 32).map (hx W))) := by
  intro d
  induction d with
  | zero =>
    intro i hi
    obtain rfl : i = 32 := by omega
    refine Ev.succ (Ev.of_eq (fun k => ?_))
    simp only [turnpikeref1_Text.l0]
    rw [if_neg (by omega)]
  | succ d ih =>
    intro i hi
    have hlt : ((4 * i : Nat) : Int) < 128 := by omega
    obtain ⟨e1, e2, e3, e4⟩ : wrap64 (((4 * i : Nat) : Int) + 1) = ((4 * i + 1 : Nat) : Int) ∧ wrap64 (((4 * i : Nat) : Int) + 2) = ((4 * i + 2 : Nat) : Int) ∧ wrap64 (((4 * i : Nat) : Int) + 3) = ((4 * i + 3 : Nat) : Int) ∧ wrap64 (((4 * i : Nat) : Int) + 4) = ((4 * (i + 1) : Nat) : Int) := by
      refine ⟨?_, ?_, ?_, ?_⟩ <;> rw [wrap64_id (by omega) (by omega)] <;> omega
    have hsum : wrap64 ((wrap64 ((wrap64 ((wrap64 (8 * bitv W (4 * i))) + (wrap64 (4 * bitv W (4 * i + 1))))) + (wrap64 (2 * bitv W (4 * i + 2))))) + bitv W (4 * i + 3)) = ((nb W i : Nat) : Int) := by
      have b0 := bitv_01 W (4 * i)
      have b1 := bitv_01 W (4 * i + 1)
      have b2 := bitv_01 W (4 * i + 2)
      have b3 := bitv_01 W (4 * i + 3)
      rw [wrap64_id (n := 8 * bitv W (4 * i)) (by omega) (by omega), wrap64_id (n := 4 * bitv W (4 * i + 1)) (by omega) (by omega), wrap64_id (n := 2 * bitv W (4 * i + 2)) (by omega) (by omega),
        wrap64_id (n := 8 * bitv W (4 * i) + 4 * bitv W (4 * i + 1)) (by omega) (by omega), wrap64_id (n := 8 * bitv W (4 * i) + 4 * bitv W (4 * i + 1) + 2 * bitv W (4 * i + 2)) (by omega) (by omega), wrap64_id (by omega) (by omega)]
      exact nib W i (by omega)
    have hn := nb_lt W i
    have hlen : ((List.range i).map (hx W)).length < 140737488355328 := by rw [List.length_map, List.length_range]; omega
    have hnext : (List.range i).map (hx W) ++ [bt lit ((nb W i : Nat) : Int)] = (List.range (i + 1)).map (hx W) := by rw [List.range_succ, List.map_append]; rfl
    refine Ev.succ ?_
    simp only [turnpikeref1_Text.l0, hlt, if_true, e1, e2, e3, e4]
    clear e1 e2 e3 e4
    refine Ev.bind (rbit_ev hW (by omega)) ?_
    refine Ev.bind (rbit_ev hW (by omega)) ?_
    refine Ev.bind (rbit_ev hW (by omega)) ?_
    refine Ev.bind (rbit_ev hW (by omega)) ?_
    simp only [hsum]
    simp only [show (0 : Int) ≤ ((nb W i : Nat) : Int) by omega, show ((nb W i : Nat) : Int) < 16 by omega, hlen, if_true]
    have := ih (i + 1) (by omega)
    rw [← hnext] at this
    exact this
theorem rtext {W : Nat} (hW : W < 2 ^ 128) : Ev (fun k => turnpikeref1_Text.f k (pr W).1 (pr W).2) (strOfNums ((List.range 32).map (hx W))) := by
  have := rtext_loop hW 32 0 (by omega)
  unfold turnpikeref1_Text.f
  simpa using this
theorem wtext {W : Nat} (hW : W < 2 ^ 128) : word_Text.f (pr W).1 (pr W).2 = some (strOfNums ((List.range 32).map (hx W))) := by
  unfold word_Text.f
  congr 2
  apply List.map_congr_left
  intro j hj
  exact texti_val hW (List.mem_range.mp hj)
end Go.Proofs.Ytoobnnkneppgkaa.Pure
