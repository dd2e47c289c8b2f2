/- ImageOpens, the pure statement: for all bytes, all places. No condition beside the kinds' own. -/
import Derived.Test.YtkblieonpncacaaLImgRef
import Derived.Test.YtkblieonpncacaaFx13
set_option linter.unusedVariables false
set_option linter.unusedSimpArgs false
namespace Go.Proofs.Ytkblieonpncacaa.Pure
open Go.RowKit Go.Proofs.Ytkblieonpncacaa.F Go.Proofs.YtkblieonpncacaaW.PrintWords Go.Proofs.YtkblieonpncacaaW.PrintLast Go.Proofs.YtkblieonpncacaaW.PrintMore
theorem ImageOpens : turnpikelaw17_ImageOpens.Pure := by
  intro l a _ _ hc ha
  have hB := Bytes.of_wf hc
  refine Ev.rounds (r := true) ?_
  unfold turnpikelaw17_ImageOpens.f
  refine Ev.bind known_ev ?_
  by_cases h1 : (l.length : Int) > 65536
  · simp only [h1, if_true]; exact Ev.now _
  simp only [h1, if_false, if_true, Option.bind_some, List.nil_append, List.length_nil, show 0 + l.length < 140737488355328 by omega]
  refine Ev.bind (open_ev hB (by omega) a) ?_
  refine Ev.bind (ropen_ev hB (by omega) a) ?_
  simp only [beq_self_eq_true, Bool.and_self, if_true]
  exact Ev.now _
end Go.Proofs.Ytkblieonpncacaa.Pure
