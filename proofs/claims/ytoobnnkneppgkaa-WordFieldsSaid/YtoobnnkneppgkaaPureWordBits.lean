/- WordBits, the pure statement: for all words, every place, every number. No condition beside the kinds' own. -/
import Derived.Test.YtoobnnkneppgkaaLWord
import Derived.Test.YtoobnnkneppgkaaFx10
import Derived.Test.YtoobnnkneppgkaaFx9
import Derived.Test.YtoobnnkneppgkaaFx8
import Derived.Test.YtoobnnkneppgkaaFx11
set_option linter.unusedVariables false
set_option linter.unusedSimpArgs false
namespace Go.Proofs.Ytoobnnkneppgkaa.Pure
open Go.RowKit Go.Proofs.Ytoobnnkneppgkaa.F Go.Proofs.YtoobnnkneppgkaaW.PrintWords Go.Proofs.YtoobnnkneppgkaaW.PrintLast Go.Proofs.YtoobnnkneppgkaaW.PrintMore

theorem Ev.eq_now' {α : Type} {x : Option α} {r : α} (h : x = some r) : Ev (fun _ => x) r := by subst h; exact Ev.now _

theorem Ev.of_eq {α : Type} {g : Nat → Option α} {r : α} (h : ∀ k, g k = some r) : Ev g r := ⟨0, fun k _ => h k⟩
theorem bit_same (a b : Int) {i : Int} (h0 : -9223372036854775808 ≤ i) (h1 : i ≤ 9223372036854775807) : ∃ r, Ev (fun k => word_Bit.f k a b i) r ∧ Ev (fun k => turnpikeref1_Bit.f k a b i) r := by
  by_cases c : i < 0 ∨ i > 127
  · refine ⟨0, Ev.succ ?_, Ev.succ ?_⟩
    · refine Ev.of_eq (fun k => ?_) 
      unfold word_Bit.f; by_cases c1 : i < 0
      · rw [if_pos c1]; simp [word_Bit.j0]
      · rw [if_neg c1, decide_eq_true (by omega : i > 127)]; simp [word_Bit.j0]
    · refine Ev.of_eq (fun k => ?_) 
      unfold turnpikeref1_Bit.f; by_cases c1 : i < 0
      · rw [if_pos c1]; simp [turnpikeref1_Bit.j0]
      · rw [if_neg c1, decide_eq_true (by omega : i > 127)]; simp [turnpikeref1_Bit.j0]
  · have c1 : ¬ i < 0 := by omega
    have c2 : ¬ i > 127 := by omega
    by_cases c3 : i < 64
    · have e1 : wrap64 (63 - i) = 63 - i := wrap64_id (by omega) (by omega)
      have c4 : (0 : Int) ≤ 63 - i := by omega
      refine ⟨wrap64 (Go.bits .and .u64 (shr .u64 a (63 - i)) 1), Ev.succ (Ev.of_eq (fun k => ?_)), Ev.succ (Ev.of_eq (fun k => ?_))⟩
      · simp only [word_Bit.f, word_Bit.j0, c1, c2, c3, e1, c4, decide_false, Bool.false_eq_true, if_true, if_false]
      · simp only [turnpikeref1_Bit.f, turnpikeref1_Bit.j0, c1, c2, c3, e1, c4, decide_false, Bool.false_eq_true, if_true, if_false]
    · have e1 : wrap64 (127 - i) = 127 - i := wrap64_id (by omega) (by omega)
      have c4 : (0 : Int) ≤ 127 - i := by omega
      refine ⟨wrap64 (Go.bits .and .u64 (shr .u64 b (127 - i)) 1), Ev.succ (Ev.of_eq (fun k => ?_)), Ev.succ (Ev.of_eq (fun k => ?_))⟩
      · simp only [word_Bit.f, word_Bit.j0, c1, c2, c3, e1, c4, decide_false, Bool.false_eq_true, if_true, if_false]
      · simp only [turnpikeref1_Bit.f, turnpikeref1_Bit.j0, c1, c2, c3, e1, c4, decide_false, Bool.false_eq_true, if_true, if_false]

/-- The mask whose first n bits are set, by word. -/
def maskM (n : Nat) : Int × Int := (word_Mask.f n).getD (0, 0)
set_option maxRecDepth 100000 in
theorem mask_has : ∀ i : Fin 129, word_Mask.f (i.val : Int) = some (maskM i.val) := by decide +kernel
set_option maxRecDepth 100000 in
theorem mask_step : ∀ i : Fin 128, turnpikeref1_Put.f (maskM i.val).1 (maskM i.val).2 (i.val : Int) 1 = some (maskM (i.val + 1)) := by decide +kernel
theorem mask_zero : maskM 0 = (0, 0) := by decide +kernel
theorem mask_full : maskM 128 = (18446744073709551615, 18446744073709551615) := by decide +kernel
theorem mask_low {n : Int} (h : n ≤ 0) : word_Mask.f n = some (maskM 0) := by
  have : word_Mask.f n = word_Mask.f 0 := by simp [word_Mask.f, word_ones.f, word_Shr.f, h]
  rw [this]; exact mask_has ⟨0, by omega⟩
theorem mask_high {n : Int} (h : 128 ≤ n) : word_Mask.f n = some (maskM 128) := by
  have h1 : ¬ n ≤ 0 := by omega
  have h2 : ¬ n < 64 := by omega
  have h3 : ¬ n < 128 := by omega
  have : word_Mask.f n = word_Mask.f 128 := by simp [word_Mask.f, word_ones.f, word_Shr.f, h1, h2, h3]
  rw [this]; exact mask_has ⟨128, by omega⟩
theorem mask_mid {n : Nat} (h : n ≤ 128) : word_Mask.f (n : Int) = some (maskM n) := mask_has ⟨n, by omega⟩
theorem refMask_loop {n : Int} {m : Nat} (hm : m ≤ 128) (hn : (m : Int) = n ∨ (m = 128 ∧ 128 ≤ n)) : ∀ (d i : Nat), i + d = m → Ev (fun k => turnpikeref1_Mask.l0 k n (i : Int) (maskM i).1 (maskM i).2) (maskM m) := by
  intro d
  induction d with
  | zero =>
    intro i hi
    obtain rfl : i = m := by omega
    refine Ev.succ ?_
    refine Ev.of_eq (fun k => ?_)
    simp only [turnpikeref1_Mask.l0]
    rcases hn with h | ⟨h, h'⟩
    · rw [if_neg (by omega)]
    · by_cases c : (i : Int) < n
      · rw [if_pos c, if_neg (by omega)]
      · rw [if_neg c]
  | succ d ih =>
    intro i hi
    refine Ev.succ ?_
    have e1 : wrap64 ((i : Int) + 1) = ((i + 1 : Nat) : Int) := by rw [wrap64_id (by omega) (by omega)]; omega
    have e2 := mask_step ⟨i, by omega⟩
    simp only at e2
    simp only [turnpikeref1_Mask.l0, show (i : Int) < n by omega, show (i : Int) < 128 by omega, if_true, e1, e2, Option.bind_some]
    exact ih (i + 1) (by omega)
theorem mask_same (n : Int) : ∃ r, word_Mask.f n = some r ∧ Ev (fun k => turnpikeref1_Mask.f k n) r := by
  by_cases h : n ≤ 0
  · refine ⟨_, mask_low h, ?_⟩
    refine Ev.succ (Ev.of_eq (fun k => ?_))
    simp only [turnpikeref1_Mask.f, turnpikeref1_Mask.l0, show ¬ (0 : Int) < n by omega, if_false, mask_zero]
  · by_cases h2 : 128 ≤ n
    · refine ⟨_, mask_high h2, ?_⟩
      have := refMask_loop (n := n) (m := 128) (by omega) (.inr ⟨rfl, h2⟩) 128 0 (by omega)
      simpa only [mask_zero, Int.natCast_zero, turnpikeref1_Mask.f] using this
    · refine ⟨_, ?_, refMask_loop (n := n) (m := n.toNat) (by omega) (.inl (by omega)) n.toNat 0 (by omega) |> fun this => by simpa only [mask_zero, Int.natCast_zero, turnpikeref1_Mask.f] using this⟩
      have := mask_mid (n := n.toNat) (by omega)
      rwa [show ((n.toNat : Nat) : Int) = n by omega] at this
theorem WordBits : turnpikelaw1_WordBits.Pure := by
  intro a b i n ha hb hi hn
  have hi := wf_i64 hi
  obtain ⟨r, e1, e2⟩ := bit_same a b hi.1 hi.2
  obtain ⟨m, e3, e4⟩ := mask_same n
  refine Ev.rounds (r := true) ?_
  unfold turnpikelaw1_WordBits.f
  simp only [known_true, Option.bind_some, if_true]
  refine Ev.bind e1 ?_
  refine Ev.bind e2 ?_
  simp only [if_true, e3, Option.bind_some]
  refine Ev.bind e4 ?_
  exact Ev.eq_now' (by simp)
end Go.Proofs.Ytoobnnkneppgkaa.Pure
