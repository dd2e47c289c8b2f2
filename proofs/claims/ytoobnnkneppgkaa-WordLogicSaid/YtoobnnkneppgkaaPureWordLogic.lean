/- WordLogic, the pure statement: for all words and every number. No condition beside the kinds' own. -/
import Derived.Test.YtoobnnkneppgkaaLWord
import Derived.Test.YtoobnnkneppgkaaFx7
set_option linter.unusedVariables false
set_option linter.unusedSimpArgs false
namespace Go.Proofs.Ytoobnnkneppgkaa.Pure
open Go.RowKit Go.Proofs.Ytoobnnkneppgkaa.F Go.Proofs.YtoobnnkneppgkaaW.PrintWords Go.Proofs.YtoobnnkneppgkaaW.PrintLast Go.Proofs.YtoobnnkneppgkaaW.PrintMore

theorem WordLogic : turnpikelaw1_WordLogic.Pure := by
  intro a b c d n ha hb hc hd hn
  have hn := wf_i64 hn
  obtain ⟨r, e1, e2⟩ := shl_same a b hn.1 hn.2
  obtain ⟨s, e3, e4⟩ := shr_same a b hn.1 hn.2
  simp only [turnpikelaw1_WordLogic.f, known_true, Option.bind_some, if_true, word_And.f, turnpikeref1_And.f, word_Or.f, turnpikeref1_Or.f, word_Xor.f, turnpikeref1_Xor.f, word_Not.f, turnpikeref1_Not.f, e1, e2, e3, e4, beq_self_eq_true, Bool.and_self]
end Go.Proofs.Ytoobnnkneppgkaa.Pure
