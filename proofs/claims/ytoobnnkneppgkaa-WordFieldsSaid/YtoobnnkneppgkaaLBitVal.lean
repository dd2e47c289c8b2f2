/- Bits of words by place: Bit, Put, Common, Lead as printed. -/
import Derived.Test.YtoobnnkneppgkaaLVal
import Derived.Test.YtoobnnkneppgkaaFx9
import Derived.Test.YtoobnnkneppgkaaFx15
import Derived.Test.YtoobnnkneppgkaaFx16
import Derived.Test.YtoobnnkneppgkaaFx8
set_option linter.unusedVariables false
set_option linter.unusedSimpArgs false
namespace Go.Proofs.Ytoobnnkneppgkaa.Pure
open Go.RowKit Go.Proofs.Ytoobnnkneppgkaa.F Go.Proofs.YtoobnnkneppgkaaW.PrintWords Go.Proofs.YtoobnnkneppgkaaW.PrintLast Go.Proofs.YtoobnnkneppgkaaW.PrintMore

/-- The bit at place i as a number. -/
def bitv (V i : Nat) : Int := if V.testBit (127 - i) then 1 else 0
theorem and_one (x : Nat) (hx : x < 18446744073709551616) : wrap64 (Go.bits .and .u64 (x : Int) 1) = if x.testBit 0 then 1 else 0 := by
  rw [show (1 : Int) = ((1 : Nat) : Int) from rfl, u64_and_nat _ _ hx (by decide), Nat.and_one_is_mod, Nat.testBit_zero]
  have h : x % 2 = 0 ∨ x % 2 = 1 := by omega
  rcases h with h | h <;> rw [h] <;> decide +kernel
theorem bit_core {V i : Nat} (hV : V < 2 ^ 128) (hi : i < 128) (k : Nat) : word_Bit.f (k + 1) (pr V).1 (pr V).2 (i : Int) = some (bitv V i) ∧ turnpikeref1_Bit.f (k + 1) (pr V).1 (pr V).2 (i : Int) = some (bitv V i) := by
  have hp := pr_lt V hV
  have c1 : ¬ (i : Int) < 0 := by omega
  have c2 : ¬ (i : Int) > 127 := by omega
  by_cases c3 : (i : Int) < 64
  · have e1 : wrap64 (63 - (i : Int)) = ((63 - i : Nat) : Int) := by rw [wrap64_id (by omega) (by omega)]; omega
    have c4 : (0 : Int) ≤ ((63 - i : Nat) : Int) := by omega
    have h1 : V / 2 ^ 64 / 2 ^ (63 - i) < 18446744073709551616 := by have := Nat.div_le_self (V / 2 ^ 64) (2 ^ (63 - i)); omega
    have h2 : (V / 2 ^ 64 / 2 ^ (63 - i)).testBit 0 = V.testBit (127 - i) := by
      rw [Nat.testBit_div_two_pow, Nat.testBit_div_two_pow]; congr 1; omega
    have h3 : wrap64 (Go.bits .and .u64 (shr .u64 (pr V).1 ((63 - i : Nat) : Int)) 1) = bitv V i := by
      simp only [pr]; rw [shr_u64 _ _ (by omega), and_one _ h1, h2]; rfl
    simp only [word_Bit.f, word_Bit.j0, turnpikeref1_Bit.f, turnpikeref1_Bit.j0, c1, c2, c3, e1, c4, h3, decide_false, Bool.false_eq_true, if_true, if_false, and_self]
  · have e1 : wrap64 (127 - (i : Int)) = ((127 - i : Nat) : Int) := by rw [wrap64_id (by omega) (by omega)]; omega
    have c4 : (0 : Int) ≤ ((127 - i : Nat) : Int) := by omega
    have h1 : V % 2 ^ 64 / 2 ^ (127 - i) < 18446744073709551616 := by have := Nat.div_le_self (V % 2 ^ 64) (2 ^ (127 - i)); omega
    have h2 : (V % 2 ^ 64 / 2 ^ (127 - i)).testBit 0 = V.testBit (127 - i) := by
      rw [Nat.testBit_div_two_pow, Nat.testBit_mod_two_pow]; simp only [Nat.add_zero, Nat.zero_add, decide_eq_true_eq, show 127 - i < 64 by omega, decide_true, Bool.true_and]
    have h3 : wrap64 (Go.bits .and .u64 (shr .u64 (pr V).2 ((127 - i : Nat) : Int)) 1) = bitv V i := by
      simp only [pr]; rw [shr_u64 _ _ (by omega), and_one _ h1, h2]; rfl
    simp only [word_Bit.f, word_Bit.j0, turnpikeref1_Bit.f, turnpikeref1_Bit.j0, c1, c2, c3, e1, c4, h3, decide_false, Bool.false_eq_true, if_true, if_false, and_self]
theorem bit_ev {V i : Nat} (hV : V < 2 ^ 128) (hi : i < 128) : Ev (fun k => word_Bit.f k (pr V).1 (pr V).2 (i : Int)) (bitv V i) := Ev.succ (Ev.of_eq (fun k => (bit_core hV hi k).1))
theorem rbit_ev {V i : Nat} (hV : V < 2 ^ 128) (hi : i < 128) : Ev (fun k => turnpikeref1_Bit.f k (pr V).1 (pr V).2 (i : Int)) (bitv V i) := Ev.succ (Ev.of_eq (fun k => (bit_core hV hi k).2))
theorem bitv_eq (V U i : Nat) : bitv V i = bitv U i ↔ V.testBit (127 - i) = U.testBit (127 - i) := by
  unfold bitv; cases V.testBit (127 - i) <;> cases U.testBit (127 - i) <;> simp

/-- How many first bits two words share: told by its law. -/
theorem common_loop {V U : Nat} (hV : V < 2 ^ 128) (hU : U < 2 ^ 128) : ∀ (d i : Nat), i + d = 128 → ∃ n : Nat, i ≤ n ∧ n ≤ 128 ∧ (∀ t, i ≤ t → t < n → bitv V t = bitv U t) ∧ (n < 128 → bitv V n ≠ bitv U n) ∧ Ev (fun k => turnpikeref1_Common.l0 k (i : Int) (pr V).1 (pr V).2 (pr U).1 (pr U).2) (n : Int) := by
  intro d
  induction d with
  | zero =>
    intro i hi
    refine ⟨i, Nat.le_refl _, by omega, fun t h1 h2 => absurd h2 (by omega), fun h => absurd h (by omega), Ev.succ (Ev.of_eq (fun k => ?_))⟩
    simp only [turnpikeref1_Common.l0]
    rw [if_neg (by omega)]
  | succ d ih =>
    intro i hi
    by_cases c : bitv V i = bitv U i
    · obtain ⟨n, h1, h2, h3, h4, h5⟩ := ih (i + 1) (by omega)
      refine ⟨n, by omega, h2, fun t ht1 ht2 => ?_, h4, Ev.succ ?_⟩
      · by_cases e : t = i
        · subst e; exact c
        · exact h3 t (by omega) ht2
      · have e1 : wrap64 ((i : Int) + 1) = ((i + 1 : Nat) : Int) := by rw [wrap64_id (by omega) (by omega)]; omega
        simp only [turnpikeref1_Common.l0, show (i : Int) < 128 by omega, if_true]
        refine Ev.bind (rbit_ev hV (by omega)) ?_
        refine Ev.bind (rbit_ev hU (by omega)) ?_
        simp only [c, if_true, e1]
        exact h5
    · refine ⟨i, Nat.le_refl _, by omega, fun t h1 h2 => absurd h2 (by omega), fun _ => c, Ev.succ ?_⟩
      simp only [turnpikeref1_Common.l0, show (i : Int) < 128 by omega, if_true]
      refine Ev.bind (rbit_ev hV (by omega)) ?_
      refine Ev.bind (rbit_ev hU (by omega)) ?_
      simp only [c, if_false]
      exact Ev.now _
theorem lead_ev {V : Nat} (hV : V < 2 ^ 128) : ∃ n : Nat, n ≤ 128 ∧ Ev (fun k => turnpikeref1_Lead.f k (pr V).1 (pr V).2) (n : Int) ∧ ∀ m, m ≤ 128 → (n < 128 - m ↔ V / 2 ^ m ≠ 0) := by
  obtain ⟨n, h1, h2, h3, h4, h5⟩ := common_loop hV (by decide : 0 < 2 ^ 128) 128 0 (by omega)
  refine ⟨n, h2, ?_, ?_⟩
  · unfold turnpikeref1_Lead.f turnpikeref1_Common.f
    refine Ev.bind (a := (n : Int)) ?_ (Ev.now _)
    exact h5
  · intro m hm
    have hz : ∀ t, bitv 0 t = 0 := fun t => by simp [bitv]
    constructor
    · intro hlt hdiv
      have hb := h4 (by omega)
      rw [hz] at hb
      have hb2 : V.testBit (127 - n) = true := by
        unfold bitv at hb; by_cases q : V.testBit (127 - n) = true
        · exact q
        · simp [q] at hb
      have : (V / 2 ^ m).testBit (127 - n - m) = true := by
        rw [Nat.testBit_div_two_pow]
        rw [show 127 - n - m + m = 127 - n by omega]
        exact hb2
      rw [hdiv] at this
      simp at this
    · intro hdiv
      refine Classical.byContradiction fun hge => hdiv ?_
      apply Nat.eq_of_testBit_eq
      intro j
      rw [Nat.testBit_div_two_pow, Nat.zero_testBit]
      by_cases c : j + m < 128
      · have := h3 (127 - (j + m)) (by omega) (by omega)
        rw [hz] at this
        unfold bitv at this
        rw [show 127 - (127 - (j + m)) = j + m by omega] at this
        by_cases q : V.testBit (j + m) = true
        · simp [q] at this
        · simpa using q
      · exact Nat.testBit_lt_two_pow (Nat.lt_of_lt_of_le hV (Nat.pow_le_pow_right (by decide) (by omega)))
end Go.Proofs.Ytoobnnkneppgkaa.Pure
