/- ImagePacks, the pure statement: for all headers, all bytes. No condition beside the kinds' own. -/
import Derived.Test.YtkblieonpncacaaLImg
import Derived.Test.YtkblieonpncacaaFx11
set_option linter.unusedVariables false
set_option linter.unusedSimpArgs false
namespace Go.Proofs.Ytkblieonpncacaa.Pure
open Go.RowKit Go.Proofs.Ytkblieonpncacaa.F Go.Proofs.YtkblieonpncacaaW.PrintWords Go.Proofs.YtkblieonpncacaaW.PrintLast Go.Proofs.YtkblieonpncacaaW.PrintMore
theorem ImagePacks : turnpikelaw17_ImagePacks.Pure := by
  intro W D S N c hW hD hS hN _ _ hc
  have hB := Bytes.of_wf hc
  refine Ev.rounds (r := true) ?_
  unfold turnpikelaw17_ImagePacks.f
  refine Ev.bind known_ev ?_
  by_cases h1 : (c.length : Int) > 65536
  · simp only [h1, if_true]; exact Ev.now _
  simp only [h1, if_false, if_true, Option.bind_some, List.nil_append, List.length_nil, show 0 + c.length < 140737488355328 by omega]
  refine Ev.bind (pack_ev hB (by omega)) ?_
  refine Ev.bind (rpack_ev hB (by omega)) ?_
  simp only [beq_self_eq_true, if_true]
  exact Ev.now _
end Go.Proofs.Ytkblieonpncacaa.Pure
