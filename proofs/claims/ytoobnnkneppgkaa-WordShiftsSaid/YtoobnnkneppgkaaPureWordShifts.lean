/- WordShifts, the pure statement: for all words and numbers. No condition beside the kinds' own. -/
import Derived.Test.YtoobnnkneppgkaaLVal
import Derived.Test.YtoobnnkneppgkaaFx13
set_option linter.unusedVariables false
set_option linter.unusedSimpArgs false
namespace Go.Proofs.Ytoobnnkneppgkaa.Pure
open Go.RowKit Go.Proofs.Ytoobnnkneppgkaa.F Go.Proofs.YtoobnnkneppgkaaW.PrintWords Go.Proofs.YtoobnnkneppgkaaW.PrintLast Go.Proofs.YtoobnnkneppgkaaW.PrintMore

theorem tmod_in {a n : Int} (hn : 0 < n) : (Int.tmod a n < 0 → -n < Int.tmod a n) ∧ (0 ≤ Int.tmod a n → Int.tmod a n < n) := by
  have h1 := Int.tmod_lt_of_pos a hn
  have h2 := Int.lt_tmod_of_pos a hn
  exact ⟨fun _ => h2, fun _ => h1⟩
theorem within_has {a n : Int} (hn : 0 < n) (hn2 : n ≤ 4611686018427387904) : ∃ r : Nat, turnpikelaw1_within.f a n = some (r : Int) ∧ (r : Int) < n := by
  have h := tmod_in (a := a) hn
  unfold turnpikelaw1_within.f
  rw [if_neg (by omega)]
  by_cases e : Int.tmod a n < 0
  · rw [if_pos e, wrap64_id (by omega) (by omega)]; exact ⟨(Int.tmod a n + n).toNat, by rw [Int.toNat_of_nonneg (by omega)], by omega⟩
  · rw [if_neg e]; exact ⟨(Int.tmod a n).toNat, by rw [Int.toNat_of_nonneg (by omega)], by omega⟩
theorem mask_any {n : Nat} : ∃ U, word_Mask.f (n : Int) = some (pr U) ∧ U = 2 ^ 128 - 2 ^ (128 - n) + (if n ≤ 128 then 0 else 0) ∧ U < 2 ^ 128 := by
  by_cases h : n ≤ 128
  · exact ⟨_, mask_val h, by simp [h], by have := Nat.two_pow_pos (128 - n); omega⟩
  · refine ⟨2 ^ 128 - 1, ?_, ?_, by omega⟩
    · rw [mask_high (by omega)]; decide +kernel
    · simp [h, show 128 - n = 0 by omega]
theorem and_low {V n : Nat} (hV : V < 2 ^ 128) : V &&& (2 ^ 128 - 1 - (2 ^ 128 - 2 ^ (128 - n))) = V % 2 ^ (128 - n) := by
  have h1 : 2 ^ (128 - n) ≤ 2 ^ 128 := Nat.pow_le_pow_right (by decide) (by omega)
  have h2 := Nat.two_pow_pos (128 - n)
  rw [show 2 ^ 128 - 1 - (2 ^ 128 - 2 ^ (128 - n)) = 2 ^ (128 - n) - 1 by omega, Nat.and_two_pow_sub_one_eq_mod]
theorem and_high {V n : Nat} (hV : V < 2 ^ 128) (hn : n ≤ 128) : V &&& (2 ^ 128 - 2 ^ n) = V / 2 ^ n * 2 ^ n := by
  have h1 : 2 ^ n ≤ 2 ^ 128 := Nat.pow_le_pow_right (by decide) (by omega)
  have h3 : 2 ^ 128 - 2 ^ n = (2 ^ (128 - n) - 1) * 2 ^ n := by rw [Nat.sub_mul, ← Nat.pow_add, Nat.one_mul, show 128 - n + n = 128 by omega]
  apply Nat.eq_of_testBit_eq
  intro j
  rw [Nat.testBit_and, h3, Nat.testBit_mul_two_pow, Nat.testBit_mul_two_pow, Nat.testBit_div_two_pow, Nat.testBit_two_pow_sub_one]
  by_cases c : n ≤ j
  · have e1 : n + (j - n) = j := by omega
    have e2 : j - n + n = j := by omega
    by_cases c2 : j < 128
    · have : j - n < 128 - n := by omega
      simp [c, this, e1, e2]
    · have : V.testBit j = false := Nat.testBit_lt_two_pow (Nat.lt_of_lt_of_le hV (Nat.pow_le_pow_right (by decide) (by omega)))
      simp [c, e1, e2, this]
  · simp [c]
theorem shift_back {V n : Nat} (hV : V < 2 ^ 128) : V * 2 ^ n % 2 ^ 128 / 2 ^ n = V % 2 ^ (128 - n) := by
  by_cases h : n ≤ 128
  · rw [show (2 : Nat) ^ 128 = 2 ^ (128 - n) * 2 ^ n by rw [← Nat.pow_add]; congr 1; omega, Nat.mod_mul_left_div_self, Nat.mul_div_cancel _ (Nat.two_pow_pos n)]
  · have e : V * 2 ^ n = V * 2 ^ (n - 128) * 2 ^ 128 := by rw [Nat.mul_assoc, ← Nat.pow_add]; congr 2; omega
    rw [e, Nat.mul_mod_left, show 128 - n = 0 by omega, Nat.pow_zero, Nat.mod_one, Nat.zero_div]
theorem bit_zero {V : Nat} (hV : V < 2 ^ 128) : Ev (fun k => word_Bit.f k (pr V).1 (pr V).2 0) (((V / 2 ^ 127 : Nat)) : Int) := by
  refine Ev.succ (Ev.of_eq (fun k => ?_))
  have e1 : wrap64 (63 - 0) = 63 := by decide +kernel
  have h1 : V / 2 ^ 64 / 2 ^ 63 = V / 2 ^ 127 := by rw [Nat.div_div_eq_div_mul]
  simp only [word_Bit.f, word_Bit.j0, e1, show ¬ (0 : Int) < 0 by omega, show ¬ (0 : Int) > 127 by omega, decide_false, Bool.false_eq_true, if_true, if_false, show (0 : Int) < 64 by omega, show (0 : Int) ≤ 63 by omega, pr]
  rw [show (63 : Int) = ((63 : Nat) : Int) from rfl, shr_u64 _ _ (by omega), h1]
  have h2 : V / 2 ^ 127 < 2 := by omega
  have h3 : V / 2 ^ 127 = 0 ∨ V / 2 ^ 127 = 1 := by omega
  rcases h3 with h | h <;> rw [h] <;> decide +kernel
theorem WordShifts : turnpikelaw1_WordShifts.Pure := by
  intro a b n m ha hb hn hm
  obtain ⟨V, hV, rfl, rfl⟩ := pr_of (wf_u64 ha) (wf_u64 hb)
  obtain ⟨i, hi, hi2⟩ := within_has (a := n) (n := 140) (by omega) (by omega)
  obtain ⟨j, hj, hj2⟩ := within_has (a := m) (n := 140) (by omega) (by omega)
  refine Ev.rounds (r := true) ?_
  unfold turnpikelaw1_WordShifts.f
  have hs : ∀ n, V * 2 ^ n % 2 ^ 128 < 2 ^ 128 := fun n => Nat.mod_lt _ (by decide)
  have hd : ∀ n, V / 2 ^ n < 2 ^ 128 := fun n => Nat.lt_of_le_of_lt (Nat.div_le_self _ _) hV
  have e1 : wrap64 ((i : Int) + (j : Int)) = ((i + j : Nat) : Int) := by rw [wrap64_id (by omega) (by omega)]; omega
  have e2 : V * 2 ^ i % 2 ^ 128 * 2 ^ j % 2 ^ 128 = V * 2 ^ (i + j) % 2 ^ 128 := by rw [Nat.mod_mul_mod, Nat.mul_assoc, ← Nat.pow_add]
  have e3 : V / 2 ^ i / 2 ^ j = V / 2 ^ (i + j) := by rw [Nat.div_div_eq_div_mul, ← Nat.pow_add]
  obtain ⟨U, hU, hU1, hU2⟩ := mask_any (n := i)
  have hU3 : U = 2 ^ 128 - 2 ^ (128 - i) := by rw [hU1]; split <;> rfl
  have e4 : V &&& (2 ^ 128 - 1 - U) = V * 2 ^ i % 2 ^ 128 / 2 ^ i := by rw [hU3, and_low hV, shift_back hV]
  have hU4 : 2 ^ 128 - 1 - U < 2 ^ 128 := by omega
  obtain ⟨T, hT, hT2, e5⟩ : ∃ T, word_Mask.f (wrap64 (128 - (i : Int))) = some (pr T) ∧ T < 2 ^ 128 ∧ V &&& T = V / 2 ^ i * 2 ^ i % 2 ^ 128 := by
    rw [wrap64_id (by omega) (by omega)]
    by_cases h : i ≤ 128
    · refine ⟨2 ^ 128 - 2 ^ i, ?_, by have := Nat.two_pow_pos i; omega, ?_⟩
      · have := mask_val (n := 128 - i) (by omega)
        rw [show 128 - (128 - i) = i by omega] at this
        rw [show (128 : Int) - (i : Int) = ((128 - i : Nat) : Int) by omega, this]
      · rw [and_high hV h, Nat.mod_eq_of_lt (Nat.lt_of_le_of_lt (Nat.div_mul_le_self V (2 ^ i)) hV)]
    · refine ⟨0, ?_, by decide, ?_⟩
      · rw [mask_low (by omega)]; decide +kernel
      · rw [Nat.and_zero, Nat.div_eq_of_lt (Nat.lt_of_lt_of_le hV (Nat.pow_le_pow_right (by decide) (by omega))), Nat.zero_mul, Nat.zero_mod]
  have e6 : (V + V) % 2 ^ 128 = V * 2 ^ 1 % 2 ^ 128 := by rw [Nat.pow_one, Nat.mul_two]
  have e7 : word_Shl.f (pr V).1 (pr V).2 1 = some (pr (V * 2 ^ 1 % 2 ^ 128)) := shl_val (n := 1) hV
  have e8 : word_Shl.f (pr V).1 (pr V).2 (wrap64 (-(i : Int))) = some (pr V) := by
    rw [wrap64_id (by omega) (by omega)]
    unfold word_Shl.f
    rw [if_pos (by omega)]
  simp only [known_true, Option.bind_some, if_true, hi, hj, shl_val hV, shl_val (hs i), shr_val hV, shr_val (hd i), shr_val (hs i), shl_val (hd i), e1, e2, e3, hU, not_val hU2, and_val hV hU4, e4, hT, and_val hV hT2, e5, beq_self_eq_true, Bool.not_true, Bool.or_self, Bool.false_eq_true, if_false, add_val hV hV, e6, e7, e8, Bool.and_self]
  refine Ev.bind (bit_zero hV) ?_
  have h3 : V / 2 ^ 127 = 0 ∨ V / 2 ^ 127 = 1 := by omega
  have e9 : (decide (2 ^ 128 ≤ V + V) == ((((V / 2 ^ 127 : Nat)) : Int) == 1)) = true := by
    rcases h3 with h | h
    · have : ¬ 2 ^ 128 ≤ V + V := by omega
      rw [h, decide_eq_false this]; decide
    · have : 2 ^ 128 ≤ V + V := by omega
      rw [h, decide_eq_true this]; decide
  have e9' : decide (2 ^ 128 ≤ V + V) = ((((V / 2 ^ 127 : Nat)) : Int) == 1) := eq_of_beq e9
  simp only [e9', beq_self_eq_true, if_true]
  exact Ev.now _
end Go.Proofs.Ytoobnnkneppgkaa.Pure
