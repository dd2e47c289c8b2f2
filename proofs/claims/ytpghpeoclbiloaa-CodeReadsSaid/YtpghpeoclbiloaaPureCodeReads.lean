/- CodeReads, the pure statement: for every row of bytes and every place, what the printed Decode tells is what the printed reference tells. No condition beside the kinds' own. -/
import Derived.Test.YtpghpeoclbiloaaLLaw14
import Derived.Test.YtpghpeoclbiloaaFx13
set_option linter.unusedVariables false
set_option linter.unusedSimpArgs false
namespace Go.Proofs.Ytpghpeoclbiloaa.Pure
open Go.RowKit Go.Proofs.Ytpghpeoclbiloaa.F Go.Proofs.YtpghpeoclbiloaaW.PrintWords Go.Proofs.YtpghpeoclbiloaaW.PrintLast Go.Proofs.YtpghpeoclbiloaaW.PrintMore

theorem CodeReads : turnpikelaw14_CodeReads.Pure := by
  intro l a hl hn hb ha
  have hB := Bytes.of_wf hb
  have hn' : l.length ≤ 140737488351232 := by omega
  refine Ev.rounds (r := true) ?_
  unfold turnpikelaw14_CodeReads.f
  refine Ev.bind known_ev ?_
  simp only [if_true]
  by_cases h : (l.length : Int) > 65536
  · simp only [h, if_true]; exact Ev.now _
  · simp only [h, if_false, Option.bind_some, List.nil_append, List.length_nil, show 0 + l.length < 140737488355328 by omega, if_true]
    refine Ev.bind (decode_ev hB hn' a) ?_
    refine Ev.bind (rdecode_ev hB hn' a) ?_
    refine Ev.bind (same_refl (dec_len hn' a) _ _) ?_
    simp only [if_true, beq_self_eq_true]
    exact Ev.now _

end Go.Proofs.Ytpghpeoclbiloaa.Pure
