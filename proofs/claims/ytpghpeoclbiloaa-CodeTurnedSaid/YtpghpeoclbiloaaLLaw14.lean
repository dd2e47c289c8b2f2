/- The laws' Same and known of chapter 14, in plain Lean. -/
import Derived.Test.YtpghpeoclbiloaaLRefCode
import Derived.Test.YtpghpeoclbiloaaFx2
import Derived.Test.YtpghpeoclbiloaaFx3
import Derived.Test.YtpghpeoclbiloaaFx4
import Derived.Test.YtpghpeoclbiloaaFx10
import Derived.Test.YtpghpeoclbiloaaFx7
set_option linter.unusedVariables false
set_option linter.unusedSimpArgs false
namespace Go.Proofs.Ytpghpeoclbiloaa.Pure
open Go.RowKit Go.Proofs.Ytpghpeoclbiloaa.F Go.Proofs.YtpghpeoclbiloaaW.PrintWords Go.Proofs.YtpghpeoclbiloaaW.PrintLast Go.Proofs.YtpghpeoclbiloaaW.PrintMore

theorem same_loop {x : List Int} (hn : x.length ≤ 140737488351232) (o n o' n' : Int) (d : Nat) : ∀ i : Nat, i + d = x.length → Ev (fun k => turnpikelaw14_Same.l0 k (i : Int) o n x o' n' x) true := by
  induction d with
  | zero =>
    intro i hi
    refine Ev.succ ?_; simp only [turnpikelaw14_Same.l0, show ¬ (i : Int) < (x.length : Int) by omega, if_false]; exact Ev.now _
  | succ d ih =>
    intro i hi
    refine Ev.succ ?_
    have g1 : (i : Int) < (x.length : Int) := by omega
    have g2 : (0 : Int) ≤ (i : Int) := by omega
    have e1 : wrap64 ((i : Int) + 1) = ((i + 1 : Nat) : Int) := wrap64_id (by omega) (by omega)
    simp only [turnpikelaw14_Same.l0, g1, g2, if_true, e1]
    exact ih (i + 1) (by omega)
theorem same_refl {x : List Int} (hn : x.length ≤ 140737488351232) (o n : Int) : Ev (fun k => turnpikelaw14_Same.f k o n x o n x) true := by
  unfold turnpikelaw14_Same.f
  simp only [if_true, bne_self_eq_false]
  refine Ev.succ ?_; simp only [turnpikelaw14_Same.j0, Bool.false_eq_true, if_false]
  exact same_loop hn o n o n x.length 0 (by omega)

theorem known_ev : Ev (fun k => turnpikelaw14_known.f k) true := by
  refine Ev.of (k := 5) turnpikelaw14_known.mono ?_
  decide +kernel

theorem same_loop2 {x y : List Int} (hn : x.length ≤ 140737488351232) (hl : y.length = x.length) (o n o' n' : Int) (d : Nat) : ∀ i : Nat, i + d = x.length → Ev (fun k => turnpikelaw14_Same.l0 k (i : Int) o n x o' n' y) (decide (x.drop i = y.drop i)) := by
  have hget : ∀ (l : List Int) (i : Nat), i < l.length → l.drop i = rd l (i : Int) :: l.drop (i + 1) := by
    intro l i hi
    rw [List.drop_eq_getElem_cons hi]
    simp [rd, List.getD_eq_getElem?_getD, List.getElem?_eq_getElem hi]
  induction d with
  | zero =>
    intro i hi
    rw [List.drop_eq_nil_of_le (show x.length ≤ i by omega), List.drop_eq_nil_of_le (show y.length ≤ i by omega)]
    refine Ev.succ ?_; simp only [turnpikelaw14_Same.l0, show ¬ (i : Int) < (x.length : Int) by omega, if_false, decide_true]; exact Ev.now _
  | succ d ih =>
    intro i hi
    refine Ev.succ ?_
    have g1 : (i : Int) < (x.length : Int) := by omega
    have g2 : (0 : Int) ≤ (i : Int) := by omega
    have g3 : (i : Int) < (y.length : Int) := by omega
    have e1 : wrap64 ((i : Int) + 1) = ((i + 1 : Nat) : Int) := wrap64_id (by omega) (by omega)
    simp only [turnpikelaw14_Same.l0, g1, g2, g3, if_true, e1]
    rw [hget x i (by omega), hget y i (by omega)]
    by_cases e : rd x (i : Int) = rd y (i : Int)
    · simp only [e, if_true, List.cons.injEq, true_and]
      exact ih (i + 1) (by omega)
    · simp only [e, if_false, List.cons.injEq, false_and, decide_false]; exact Ev.now _
theorem same_ev {x y : List Int} (hn : x.length ≤ 140737488351232) (o n o' n' : Int) : Ev (fun k => turnpikelaw14_Same.f k o n x o' n' y) (decide (o = o' ∧ n = n' ∧ x = y)) := by
  have hj : ∀ b, b = decide (¬ (o = o' ∧ n = n' ∧ x.length = y.length)) → Ev (fun k => turnpikelaw14_Same.j0 k b o n x o' n' y) (decide (o = o' ∧ n = n' ∧ x = y)) := by
    rintro b rfl
    refine Ev.succ ?_; simp only [turnpikelaw14_Same.j0, decide_eq_true_eq]
    by_cases h : o = o' ∧ n = n' ∧ x.length = y.length
    · obtain ⟨rfl, rfl, hl⟩ := h
      simp only [hl, and_self, not_true_eq_false, if_false, true_and]
      have := same_loop2 (x := x) (y := y) hn hl.symm o n o n x.length 0 (by omega)
      simpa using this
    · simp only [h, not_false_eq_true, if_true]
      have : ¬ (o = o' ∧ n = n' ∧ x = y) := fun hh => h ⟨hh.1, hh.2.1, by rw [hh.2.2]⟩
      simp only [this, decide_false]; exact Ev.now _
  unfold turnpikelaw14_Same.f
  by_cases h1 : o = o'
  · by_cases h2 : n = n'
    · simp only [h1, h2, if_true]
      refine hj _ ?_ |> fun h => by simpa [h1, h2] using h
      simp [h1, h2, bne]
      by_cases e : x.length = y.length <;> simp [e] <;> omega
    · simp only [h1, h2, if_true, if_false]
      have := hj true (by simp [h2]); simpa [h1, h2] using this
  · simp only [h1, if_false]
    have := hj true (by simp [h1]); simpa [h1] using this

end Go.Proofs.Ytpghpeoclbiloaa.Pure
