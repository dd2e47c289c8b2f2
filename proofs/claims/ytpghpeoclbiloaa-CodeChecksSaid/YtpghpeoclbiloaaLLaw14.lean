/- The laws' Same and known of chapter 14, in plain Lean. -/
import Derived.Test.YtpghpeoclbiloaaLRefCode
import Derived.Test.YtpghpeoclbiloaaFx2
import Derived.Test.YtpghpeoclbiloaaFx3
import Derived.Test.YtpghpeoclbiloaaFx4
import Derived.Test.YtpghpeoclbiloaaFx10
import Derived.Test.YtpghpeoclbiloaaFx7
set_option linter.unusedVariables false
set_option linter.unusedSimpArgs false
namespace Go.Proofs.Ytpghpeoclbiloaa.Pure
open Go.RowKit Go.Proofs.Ytpghpeoclbiloaa.F Go.Proofs.YtpghpeoclbiloaaW.PrintWords Go.Proofs.YtpghpeoclbiloaaW.PrintLast Go.Proofs.YtpghpeoclbiloaaW.PrintMore

theorem same_loop {x : List Int} (hn : x.length ≤ 140737488351232) (o n o' n' : Int) (d : Nat) : ∀ i : Nat, i + d = x.length → Ev (fun k => turnpikelaw14_Same.l0 k (i : Int) o n x o' n' x) true := by
  induction d with
  | zero =>
    intro i hi
    refine Ev.succ ?_; simp only [turnpikelaw14_Same.l0, show ¬ (i : Int) < (x.length : Int) by omega, if_false]; exact Ev.now _
  | succ d ih =>
    intro i hi
    refine Ev.succ ?_
    have g1 : (i : Int) < (x.length : Int) := by omega
    have g2 : (0 : Int) ≤ (i : Int) := by omega
    have e1 : wrap64 ((i : Int) + 1) = ((i + 1 : Nat) : Int) := wrap64_id (by omega) (by omega)
    simp only [turnpikelaw14_Same.l0, g1, g2, if_true, e1]
    exact ih (i + 1) (by omega)
theorem same_refl {x : List Int} (hn : x.length ≤ 140737488351232) (o n : Int) : Ev (fun k => turnpikelaw14_Same.f k o n x o n x) true := by
  unfold turnpikelaw14_Same.f
  simp only [if_true, bne_self_eq_false]
  refine Ev.succ ?_; simp only [turnpikelaw14_Same.j0, Bool.false_eq_true, if_false]
  exact same_loop hn o n o n x.length 0 (by omega)

theorem known_ev : Ev (fun k => turnpikelaw14_known.f k) true := by
  refine Ev.of (k := 5) turnpikelaw14_known.mono ?_
  decide +kernel

end Go.Proofs.Ytpghpeoclbiloaa.Pure
