/- WordTexts, the pure statement: for all words, all texts. No condition beside the kinds' own. -/
import Derived.Test.YtoobnnkneppgkaaLTextAll
import Derived.Test.YtoobnnkneppgkaaFx27
set_option linter.unusedVariables false
set_option linter.unusedSimpArgs false
namespace Go.Proofs.Ytoobnnkneppgkaa.Pure
open Go.RowKit Go.Proofs.Ytoobnnkneppgkaa.F Go.Proofs.YtoobnnkneppgkaaW.PrintWords Go.Proofs.YtoobnnkneppgkaaW.PrintLast Go.Proofs.YtoobnnkneppgkaaW.PrintMore

theorem parse_same (s : ByteArray) : ∃ r, Ev (fun k => word_Parse.f k s) r ∧ Ev (fun k => turnpikeref1_Parse.f k s) r := by
  unfold word_Parse.f turnpikeref1_Parse.f
  by_cases c : (s.size : Int) = 32
  · have hs : s.size = 32 := by omega
    simp only [c, if_true]
    exact ⟨_, wparse hs 32 0 0 (by omega) (by decide), rparse hs 32 0 0 (by omega) (by decide)⟩
  · simp only [c, if_false]
    exact ⟨_, Ev.now _, Ev.now _⟩
theorem WordTexts : turnpikelaw1_WordTexts.Pure := by
  intro a b s ha hb hs
  obtain ⟨W, hW, rfl, rfl⟩ := pr_of (wf_u64 ha) (wf_u64 hb)
  obtain ⟨r, e1, e2⟩ := parse_same s
  refine Ev.rounds (r := true) ?_
  unfold turnpikelaw1_WordTexts.f
  refine Ev.bind e1 ?_
  refine Ev.bind e2 ?_
  simp only [known_true, Option.bind_some, if_true, wtext hW]
  refine Ev.bind (rtext hW) ?_
  simp only [beq_self_eq_true, Bool.and_self, if_true]
  exact Ev.now _
end Go.Proofs.Ytoobnnkneppgkaa.Pure
