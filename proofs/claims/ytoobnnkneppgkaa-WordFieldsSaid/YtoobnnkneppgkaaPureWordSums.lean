/- WordSums, the pure statement: for all words. No condition beside the kinds' own. -/
import Derived.Test.YtoobnnkneppgkaaLWord
import Derived.Test.YtoobnnkneppgkaaFx18
import Derived.Test.YtoobnnkneppgkaaFx20
import Derived.Test.YtoobnnkneppgkaaFx19
import Derived.Test.YtoobnnkneppgkaaFx21
import Derived.Test.YtoobnnkneppgkaaFx22
set_option linter.unusedVariables false
set_option linter.unusedSimpArgs false
namespace Go.Proofs.Ytoobnnkneppgkaa.Pure
open Go.RowKit Go.Proofs.Ytoobnnkneppgkaa.F Go.Proofs.YtoobnnkneppgkaaW.PrintWords Go.Proofs.YtoobnnkneppgkaaW.PrintLast Go.Proofs.YtoobnnkneppgkaaW.PrintMore

theorem wrapu_eq (x : Int) : IntKind.u64.wrap x = x % 18446744073709551616 := by
  simp only [IntKind.wrap]
  rfl
theorem refAdd_same (a b c d : Int) (ha : 0 ≤ a ∧ a < 18446744073709551616) (hb : 0 ≤ b ∧ b < 18446744073709551616) (hc : 0 ≤ c ∧ c < 18446744073709551616) (hd : 0 ≤ d ∧ d < 18446744073709551616) :
    ∃ r, word_Add.f a b c d = some r ∧ turnpikeref1_Add.f a b c d = some r := by
  unfold word_Add.f turnpikeref1_Add.f
  rw [if_pos ⟨ha.1, hb.1, hc.1, hd.1, hb.2, hd.2, hc.2⟩]
  refine ⟨_, rfl, ?_⟩
  simp only [wrapu_eq]
  split
  · split
    · rw [Option.some.injEq, Prod.mk.injEq, Prod.mk.injEq]
      refine ⟨by omega, by omega, ?_⟩
      symm; rw [decide_eq_true_eq]; omega
    · rw [Option.some.injEq, Prod.mk.injEq, Prod.mk.injEq]
      refine ⟨by omega, by omega, ?_⟩
      rw [decide_eq_decide]; omega
  · split
    · rw [Option.some.injEq, Prod.mk.injEq, Prod.mk.injEq]
      refine ⟨by omega, by omega, ?_⟩
      symm; rw [decide_eq_true_eq]; omega
    · rw [Option.some.injEq, Prod.mk.injEq, Prod.mk.injEq]
      refine ⟨by omega, by omega, ?_⟩
      rw [decide_eq_decide]; omega
theorem Ev.eq_now {α : Type} {x : Option α} {r : α} (h : x = some r) : Ev (fun _ => x) r := by subst h; exact Ev.now _
def cmpv (a b c d : Int) : Int := if a < c ∨ (a = c ∧ b < d) then -1 else if a = c ∧ b = d then 0 else 1
theorem refCmp_eq (k : Nat) (a b c d : Int) : turnpikeref1_Cmp.f (k + 1) a b c d = some (cmpv a b c d) := by
  simp only [turnpikeref1_Cmp.f, turnpikeref1_Cmp.j0, cmpv]
  by_cases h1 : a < c
  · simp [h1]
  · by_cases h2 : a = c
    · by_cases h3 : b < d
      · simp [h1, h2, h3]
      · by_cases h4 : b = d
        · simp [h1, h2, h3, h4]
        · simp [h1, h2, h3, h4]
    · simp [h1, h2]
theorem refCmp_ev (a b c d : Int) : Ev (fun k => turnpikeref1_Cmp.f k a b c d) (cmpv a b c d) := by
  refine Ev.succ ?_
  simp only [refCmp_eq]
  exact Ev.now _
theorem cmp_eq (a b c d : Int) : word_Cmp.f a b c d = some (cmpv a b c d) := by
  unfold word_Cmp.f cmpv
  by_cases h1 : a < c
  · have : a ≠ c := by omega
    simp [h1, this]
  · by_cases h2 : a = c
    · by_cases h3 : b < d
      · have : b ≠ d := by omega
        simp [h1, h2, h3, this]
      · by_cases h4 : b = d
        · simp [h1, h2, h3, h4]
        · simp [h1, h2, h3, h4]
    · simp [h1, h2]
def subv (a b c d : Int) : Int × Int × Bool := ((a + 18446744073709551616 - c - (if b < d then 1 else 0)) % 18446744073709551616, (b + 18446744073709551616 - d) % 18446744073709551616, decide (a < c ∨ (a = c ∧ b < d)))
theorem sub_eq (a b c d : Int) (ha : 0 ≤ a ∧ a < 18446744073709551616) (hb : 0 ≤ b ∧ b < 18446744073709551616) (hc : 0 ≤ c ∧ c < 18446744073709551616) (hd : 0 ≤ d ∧ d < 18446744073709551616) :
    word_Sub.f a b c d = some (subv a b c d) := by
  unfold word_Sub.f subv
  rw [if_pos ⟨ha.1, hb.1, hc.1, hd.1, hb.2, hd.2, hc.2⟩]
  simp only [Int.add_zero, Int.sub_zero]
  congr 3
  rw [decide_eq_decide]
  by_cases h : b < d
  · simp only [h, if_true, and_true]
    by_cases h2 : a < c + 1
    · simp only [h2, if_true]; constructor <;> intro _ <;> first | rfl | trivial | omega
    · simp only [h2, if_false]; constructor <;> intro q <;> first | (exact absurd q (by decide)) | omega
  · simp only [h, if_false, and_false, or_false, Int.add_zero]
    by_cases h2 : a < c
    · simp only [h2, if_true]
    · simp only [h2, if_false]; constructor <;> intro q <;> first | (exact absurd q (by decide)) | omega
theorem refSub_ev (a b c d : Int) (ha : 0 ≤ a ∧ a < 18446744073709551616) (hb : 0 ≤ b ∧ b < 18446744073709551616) (hc : 0 ≤ c ∧ c < 18446744073709551616) (hd : 0 ≤ d ∧ d < 18446744073709551616) :
    Ev (fun k => turnpikeref1_Sub.f k a b c d) (subv a b c d) := by
  unfold turnpikeref1_Sub.f subv
  simp only [wrapu_eq]
  have hdec : decide (cmpv a b c d < 0) = decide (a < c ∨ (a = c ∧ b < d)) := by
    rw [decide_eq_decide]; unfold cmpv
    by_cases q : a < c ∨ (a = c ∧ b < d)
    · simp only [q, if_true]; decide
    · simp only [q, if_false, iff_false]
      split <;> decide
  by_cases h : b < d
  · simp only [if_pos h]
    refine Ev.bind (refCmp_ev a b c d) ?_
    rw [hdec]
    refine Ev.eq_now ?_
    simp only [h, Option.some.injEq, Prod.mk.injEq, if_true, if_false]
    exact ⟨by omega, by omega, trivial⟩
  · simp only [if_neg h]
    refine Ev.bind (refCmp_ev a b c d) ?_
    rw [hdec]
    refine Ev.eq_now ?_
    simp only [h, Option.some.injEq, Prod.mk.injEq, if_true, if_false]
    exact ⟨by omega, by omega, trivial⟩
theorem WordSums : turnpikelaw1_WordSums.Pure := by
  intro a b c d ha hb hc hd
  have ha := wf_u64 ha
  have hb := wf_u64 hb
  have hc := wf_u64 hc
  have hd := wf_u64 hd
  obtain ⟨r, e1, e2⟩ := refAdd_same a b c d ha hb hc hd
  refine Ev.rounds (r := true) ?_
  unfold turnpikelaw1_WordSums.f
  simp only [e1, e2, sub_eq a b c d ha hb hc hd, Option.bind_some]
  refine Ev.bind (refSub_ev a b c d ha hb hc hd) ?_
  simp only [known_true, Option.bind_some, beq_self_eq_true, Bool.and_self, if_true, cmp_eq]
  refine Ev.bind (refCmp_ev a b c d) ?_
  exact Ev.eq_now (by simp)
end Go.Proofs.Ytoobnnkneppgkaa.Pure
