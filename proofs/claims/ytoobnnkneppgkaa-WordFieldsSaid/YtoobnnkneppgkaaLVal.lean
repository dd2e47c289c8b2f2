/- Words of 128 bits as one natural number: what each printed function does to it. -/
import Derived.Test.YtoobnnkneppgkaaLWord
import Derived.Test.YtoobnnkneppgkaaPureWordBits
import Derived.Test.YtoobnnkneppgkaaPureWordSums
import Derived.Laws.BitsAllLaws
set_option linter.unusedVariables false
set_option linter.unusedSimpArgs false
namespace Go.Proofs.Ytoobnnkneppgkaa.Pure
open Go.RowKit Go.Proofs.Ytoobnnkneppgkaa.F Go.Proofs.YtoobnnkneppgkaaW.PrintWords Go.Proofs.YtoobnnkneppgkaaW.PrintLast Go.Proofs.YtoobnnkneppgkaaW.PrintMore

/-- The word whose number is V. -/
def pr (V : Nat) : Int × Int := (((V / 2 ^ 64 : Nat) : Int), ((V % 2 ^ 64 : Nat) : Int))
theorem pr_lt (V : Nat) (h : V < 2 ^ 128) : V / 2 ^ 64 < 18446744073709551616 ∧ V % 2 ^ 64 < 18446744073709551616 := by omega
theorem pr_of {a b : Int} (ha : 0 ≤ a ∧ a < 18446744073709551616) (hb : 0 ≤ b ∧ b < 18446744073709551616) : ∃ V, V < 2 ^ 128 ∧ a = (pr V).1 ∧ b = (pr V).2 := by
  refine ⟨a.toNat * 2 ^ 64 + b.toNat, by omega, ?_, ?_⟩
  · show a = (((a.toNat * 2 ^ 64 + b.toNat) / 2 ^ 64 : Nat) : Int); omega
  · show b = (((a.toNat * 2 ^ 64 + b.toNat) % 2 ^ 64 : Nat) : Int); omega
theorem shl_u64 (x k : Nat) (hk : k ≤ 64) : shl .u64 (x : Int) (k : Int) = ((x * 2 ^ k % 2 ^ 64 : Nat) : Int) := by
  unfold shl
  have hb : IntKind.u64.bits = 64 := rfl
  rw [hb, Int.toNat_natCast, Nat.min_eq_left hk, wrapu_eq, Int.natCast_emod, Int.natCast_mul, Int.natCast_pow]
  rfl
theorem shr_u64 (x k : Nat) (hk : k ≤ 64) : shr .u64 (x : Int) (k : Int) = ((x / 2 ^ k : Nat) : Int) := by
  unfold shr
  have hb : IntKind.u64.bits = 64 := rfl
  rw [hb, Int.toNat_natCast, Nat.min_eq_left hk, Int.natCast_ediv, Int.natCast_pow]
  rfl
theorem shl_hi (V k : Nat) (hV : V < 2 ^ 128) (hk : k ≤ 64) : (V / 2 ^ 64 * 2 ^ k % 2 ^ 64) ||| (V % 2 ^ 64 / 2 ^ (64 - k)) = V * 2 ^ k % 2 ^ 128 / 2 ^ 64 := by
  apply Nat.eq_of_testBit_eq
  intro j
  simp only [Nat.testBit_or, Nat.testBit_mod_two_pow, Nat.testBit_mul_two_pow, Nat.testBit_div_two_pow]
  by_cases h1 : j < 64
  · by_cases h2 : k ≤ j
    · have e1 : 64 + j - k = 64 + (j - k) := by omega
      have e2 : j - k + 64 = 64 + (j - k) := by omega
      have e3 : j + 64 - k = 64 + (j - k) := by omega
      have h3 : ¬ (64 - k + j < 64) := by omega
      have h3' : ¬ (j + (64 - k) < 64) := by omega
      have h4 : 64 + j < 128 := by omega
      have h4' : j + 64 < 128 := by omega
      have h5 : k ≤ 64 + j := by omega
      have h5' : k ≤ j + 64 := by omega
      simp [h1, h2, h3, h3', h4, h4', h5, h5', e1, e2, e3]
    · have e1 : 64 + j - k = 64 - k + j := by omega
      have e3 : j + 64 - k = 64 - k + j := by omega
      have e2 : j + (64 - k) = 64 - k + j := by omega
      have h3 : 64 - k + j < 64 := by omega
      have h4 : 64 + j < 128 := by omega
      have h4' : j + 64 < 128 := by omega
      have h5 : k ≤ 64 + j := by omega
      have h5' : k ≤ j + 64 := by omega
      simp [h1, h2, h3, h4, h4', h5, h5', e1, e2, e3]
  · have h3 : ¬ (64 - k + j < 64) := by omega
    have h3' : ¬ (j + (64 - k) < 64) := by omega
    have h4 : ¬ (64 + j < 128) := by omega
    have h4' : ¬ (j + 64 < 128) := by omega
    simp [h1, h3, h3', h4, h4']
theorem shl_lo (V k : Nat) (hk : k ≤ 64) : V % 2 ^ 64 * 2 ^ k % 2 ^ 64 = V * 2 ^ k % 2 ^ 128 % 2 ^ 64 := by
  rw [Nat.mod_mul_mod, Nat.mod_mod_of_dvd _ (by decide : 2 ^ 64 ∣ 2 ^ 128)]
theorem shl_val {V n : Nat} (hV : V < 2 ^ 128) : word_Shl.f (pr V).1 (pr V).2 (n : Int) = some (pr (V * 2 ^ n % 2 ^ 128)) := by
  have hp := pr_lt V hV
  unfold word_Shl.f
  by_cases c1 : n = 0
  · subst c1; simp [Nat.mod_eq_of_lt hV]
  rw [if_neg (by omega)]
  by_cases c2 : n < 64
  · have e1 : wrap64 (64 - (n : Int)) = ((64 - n : Nat) : Int) := by rw [wrap64_id (by omega) (by omega)]; omega
    rw [if_pos (by omega), if_pos (by omega), e1, if_pos (by omega)]
    simp only [pr]
    rw [shl_u64 _ _ (by omega), shl_u64 _ _ (by omega), shr_u64 _ _ (by omega), u64_or_nat _ _ (by omega) (by have := Nat.div_le_self (V % 2 ^ 64) (2 ^ (64 - n)); omega), shl_hi V n hV (by omega), shl_lo V n (by omega)]
  rw [if_neg (by omega)]
  by_cases c3 : n < 128
  · have e1 : wrap64 ((n : Int) - 64) = ((n - 64 : Nat) : Int) := by rw [wrap64_id (by omega) (by omega)]; omega
    rw [if_pos (by omega), e1, if_pos (by omega)]
    simp only [pr]
    rw [shl_u64 _ _ (by omega)]
    have hn : V * 2 ^ n = V * 2 ^ (n - 64) * 2 ^ 64 := by rw [Nat.mul_assoc, ← Nat.pow_add]; congr 2; omega
    have e2 : V * 2 ^ n % 2 ^ 128 / 2 ^ 64 = V % 2 ^ 64 * 2 ^ (n - 64) % 2 ^ 64 := by
      rw [hn, show (2 : Nat) ^ 128 = 2 ^ 64 * 2 ^ 64 from rfl, Nat.mod_mul_left_div_self, Nat.mul_div_cancel _ (by decide), Nat.mod_mul_mod]
    have e3 : V * 2 ^ n % 2 ^ 128 % 2 ^ 64 = 0 := by
      rw [Nat.mod_mod_of_dvd _ (by decide : 2 ^ 64 ∣ 2 ^ 128), hn]; exact Nat.mul_mod_left _ _
    rw [e2, e3]; rfl
  · rw [if_neg (by omega)]
    have hn : V * 2 ^ n = V * 2 ^ (n - 128) * 2 ^ 128 := by rw [Nat.mul_assoc, ← Nat.pow_add]; congr 2; omega
    rw [hn, Nat.mul_mod_left]; rfl
theorem shr_lo (V k : Nat) (hk : k ≤ 64) : (V % 2 ^ 64 / 2 ^ k) ||| (V / 2 ^ 64 * 2 ^ (64 - k) % 2 ^ 64) = V / 2 ^ k % 2 ^ 64 := by
  apply Nat.eq_of_testBit_eq
  intro j
  simp only [Nat.testBit_or, Nat.testBit_mod_two_pow, Nat.testBit_mul_two_pow, Nat.testBit_div_two_pow]
  by_cases h1 : j < 64
  · by_cases h2 : k + j < 64
    · have h3 : ¬ (64 - k ≤ j) := by omega
      have h2' : j + k < 64 := by omega
      simp [h1, h2, h2', h3]
    · have h3 : 64 - k ≤ j := by omega
      have h2' : ¬ (j + k < 64) := by omega
      have e1 : 64 + (j - (64 - k)) = k + j := by omega
      have e2 : j - (64 - k) + 64 = k + j := by omega
      have e3 : j + k = k + j := by omega
      simp [h1, h2, h2', h3, e1, e2, e3]
  · have h2 : ¬ (k + j < 64) := by omega
    have h2' : ¬ (j + k < 64) := by omega
    simp [h1, h2, h2']
theorem shr_val {V n : Nat} (hV : V < 2 ^ 128) : word_Shr.f (pr V).1 (pr V).2 (n : Int) = some (pr (V / 2 ^ n)) := by
  have hp := pr_lt V hV
  unfold word_Shr.f
  by_cases c1 : n = 0
  · subst c1; simp
  rw [if_neg (by omega)]
  by_cases c2 : n < 64
  · have e1 : wrap64 (64 - (n : Int)) = ((64 - n : Nat) : Int) := by rw [wrap64_id (by omega) (by omega)]; omega
    rw [if_pos (by omega), if_pos (by omega), e1, if_pos (by omega)]
    simp only [pr]
    rw [shr_u64 _ _ (by omega), shl_u64 _ _ (by omega), shr_u64 _ _ (by omega), u64_or_nat _ _ (by have := Nat.div_le_self (V % 2 ^ 64) (2 ^ n); omega) (by omega), shr_lo V n (by omega), Nat.div_div_eq_div_mul, Nat.div_div_eq_div_mul, Nat.mul_comm]
  rw [if_neg (by omega)]
  by_cases c3 : n < 128
  · have e1 : wrap64 ((n : Int) - 64) = ((n - 64 : Nat) : Int) := by rw [wrap64_id (by omega) (by omega)]; omega
    rw [if_pos (by omega), e1, if_pos (by omega)]
    simp only [pr]
    rw [shr_u64 _ _ (by omega), Nat.div_div_eq_div_mul, ← Nat.pow_add, show 64 + (n - 64) = n by omega]
    have h1 : V / 2 ^ n < 2 ^ 64 := by
      rw [Nat.div_lt_iff_lt_mul (Nat.two_pow_pos n), ← Nat.pow_add]
      exact Nat.lt_of_lt_of_le hV (Nat.pow_le_pow_right (by decide) (by omega))
    rw [Nat.div_eq_of_lt h1, Nat.mod_eq_of_lt h1]; rfl
  · rw [if_neg (by omega)]
    have h1 : V / 2 ^ n = 0 := Nat.div_eq_of_lt (Nat.lt_of_lt_of_le hV (Nat.pow_le_pow_right (by decide) (by omega)))
    rw [h1]; rfl
theorem and_val {V U : Nat} (hV : V < 2 ^ 128) (hU : U < 2 ^ 128) : word_And.f (pr V).1 (pr V).2 (pr U).1 (pr U).2 = some (pr (V &&& U)) := by
  have hp := pr_lt V hV
  have hq := pr_lt U hU
  simp only [word_And.f, pr]
  rw [u64_and_nat _ _ hp.1 hq.1, u64_and_nat _ _ hp.2 hq.2, ← Nat.and_mod_two_pow]
  rw [← Nat.shiftRight_eq_div_pow, ← Nat.shiftRight_eq_div_pow, ← Nat.shiftRight_eq_div_pow, Nat.shiftRight_and_distrib]
theorem or_val {V U : Nat} (hV : V < 2 ^ 128) (hU : U < 2 ^ 128) : word_Or.f (pr V).1 (pr V).2 (pr U).1 (pr U).2 = some (pr (V ||| U)) := by
  have hp := pr_lt V hV
  have hq := pr_lt U hU
  simp only [word_Or.f, pr]
  rw [u64_or_nat _ _ hp.1 hq.1, u64_or_nat _ _ hp.2 hq.2, ← Nat.or_mod_two_pow]
  rw [← Nat.shiftRight_eq_div_pow, ← Nat.shiftRight_eq_div_pow, ← Nat.shiftRight_eq_div_pow, Nat.shiftRight_or_distrib]
theorem xor_val {V U : Nat} (hV : V < 2 ^ 128) (hU : U < 2 ^ 128) : word_Xor.f (pr V).1 (pr V).2 (pr U).1 (pr U).2 = some (pr (V ^^^ U)) := by
  have hp := pr_lt V hV
  have hq := pr_lt U hU
  simp only [word_Xor.f, pr]
  rw [u64_xor_nat _ _ hp.1 hq.1, u64_xor_nat _ _ hp.2 hq.2, ← Nat.xor_mod_two_pow]
  rw [← Nat.shiftRight_eq_div_pow, ← Nat.shiftRight_eq_div_pow, ← Nat.shiftRight_eq_div_pow, Nat.shiftRight_xor_distrib]
theorem xor_ones64 (x : Nat) (hx : x < 2 ^ 64) : 18446744073709551615 ^^^ x = 18446744073709551615 - x := by
  apply Nat.eq_of_testBit_eq
  intro j
  rw [show 18446744073709551615 - x = 2 ^ 64 - (x + 1) by omega, Nat.testBit_two_pow_sub_succ hx, Nat.testBit_xor, show (18446744073709551615 : Nat) = 2 ^ 64 - 1 from rfl, Nat.testBit_two_pow_sub_one]
  by_cases h : j < 64
  · simp [h]
  · have : x.testBit j = false := Nat.testBit_lt_two_pow (Nat.lt_of_lt_of_le hx (Nat.pow_le_pow_right (by decide) (by omega)))
    simp [h, this]
theorem not_val {V : Nat} (hV : V < 2 ^ 128) : word_Not.f (pr V).1 (pr V).2 = some (pr (2 ^ 128 - 1 - V)) := by
  have hp := pr_lt V hV
  have hm : IntKind.u64.max = ((18446744073709551615 : Nat) : Int) := rfl
  simp only [word_Not.f, pr]
  rw [hm, u64_xor_nat _ _ (by decide) hp.1, u64_xor_nat _ _ (by decide) hp.2, xor_ones64 _ hp.1, xor_ones64 _ hp.2]
  congr 2 <;> omega
theorem add_val {V U : Nat} (hV : V < 2 ^ 128) (hU : U < 2 ^ 128) : word_Add.f (pr V).1 (pr V).2 (pr U).1 (pr U).2 = some ((pr ((V + U) % 2 ^ 128)).1, (pr ((V + U) % 2 ^ 128)).2, decide (2 ^ 128 ≤ V + U)) := by
  have hp := pr_lt V hV
  have hq := pr_lt U hU
  have a1 : (pr V).1 = ((V / 2 ^ 64 : Nat) : Int) := rfl
  have a2 : (pr V).2 = ((V % 2 ^ 64 : Nat) : Int) := rfl
  have a3 : (pr U).1 = ((U / 2 ^ 64 : Nat) : Int) := rfl
  have a4 : (pr U).2 = ((U % 2 ^ 64 : Nat) : Int) := rfl
  have a5 : (pr ((V + U) % 2 ^ 128)).1 = (((V + U) % 2 ^ 128 / 2 ^ 64 : Nat) : Int) := rfl
  have a6 : (pr ((V + U) % 2 ^ 128)).2 = (((V + U) % 2 ^ 128 % 2 ^ 64 : Nat) : Int) := rfl
  unfold word_Add.f
  rw [if_pos (by omega)]
  simp only [Option.some.injEq, Prod.mk.injEq, decide_eq_decide]
  omega
set_option maxRecDepth 100000 in
theorem mask_pr : ∀ n : Fin 129, maskM n.val = pr (2 ^ 128 - 2 ^ (128 - n.val)) := by decide +kernel
theorem mask_val {n : Nat} (h : n ≤ 128) : word_Mask.f (n : Int) = some (pr (2 ^ 128 - 2 ^ (128 - n))) := by
  rw [mask_mid h]; congr 1; exact mask_pr ⟨n, by omega⟩
end Go.Proofs.Ytoobnnkneppgkaa.Pure
