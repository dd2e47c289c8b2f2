/- CodeChecks, the pure statement: Check, Size and Encode tell what the reference tells, for every instruction, behind any bytes. No condition beside the kinds' own. -/
import Derived.Test.YtpghpeoclbiloaaLLaw14
import Derived.Test.YtpghpeoclbiloaaLBack
import Derived.Test.YtpghpeoclbiloaaLRefEnc
import Derived.Test.YtpghpeoclbiloaaFx12
set_option linter.unusedVariables false
set_option linter.unusedSimpArgs false
namespace Go.Proofs.Ytpghpeoclbiloaa.Pure
open Go.RowKit Go.Proofs.Ytpghpeoclbiloaa.F Go.Proofs.YtpghpeoclbiloaaW.PrintWords Go.Proofs.YtpghpeoclbiloaaW.PrintLast Go.Proofs.YtpghpeoclbiloaaW.PrintMore

theorem CodeChecks : turnpikelaw14_CodeChecks.Pure := by
  intro op n m b hop hn hml hmw hbl hbl2 hbw
  have hM : Words m := fun x hx => wf_u32 (hmw x hx)
  have hB := Bytes.of_wf hbw
  refine Ev.rounds (r := true) ?_
  unfold turnpikelaw14_CodeChecks.f
  refine Ev.bind known_ev ?_
  simp only [if_true]
  have hj : ∀ c, c = decide ((m.length : Int) > 16384 ∨ (b.length : Int) > 16384) → Ev (fun k => turnpikelaw14_CodeChecks.j0 k b c op n m) true := by
    rintro c rfl
    refine Ev.succ ?_; simp only [turnpikelaw14_CodeChecks.j0, decide_eq_true_eq]
    by_cases h : (m.length : Int) > 16384 ∨ (b.length : Int) > 16384
    · simp only [h, if_true]; exact Ev.now _
    · have e1 : wrap64 ((b.length : Int) + 9) = (b.length : Int) + 9 := wrap64_id (by omega) (by omega)
      simp only [h, if_false, e1, show 0 ≤ (b.length : Int) + 9 by omega, show ((b.length : Int) + 9).toNat ≤ 281474976710656 by omega, if_true, Option.bind_some, List.nil_append, List.length_nil, show 0 + b.length < 140737488355328 by omega, show 0 + m.length < 35184372088832 by omega]
      clear e1
      refine Ev.bind (check_ev op n m) ?_
      refine Ev.bind (size_ev op n m (by omega)) ?_
      refine Ev.bind (encode_ev b op n m (by omega) (by omega)) ?_
      refine Ev.bind (rencode_ev op n m (by omega) (by
        by_cases hc : chk op n m = 0
        · have := chk_zero hc; left; omega
        · exact .inr hc)) ?_
      have hend : ∀ (mine c : List Int) (e f g : Int) (want : ByteArray), mine = b → f = g → e = chk op n m → (strOfNums c).toList = want.toList →
          Ev (fun k => turnpikelaw14_CodeChecks.j1 k b mine e (if chk op n m = 0 then 1 + (m.length : Int) else 0) c f g want op n m op n m) true := by
        rintro mine c e f g want rfl rfl rfl hw
        refine Ev.succ ?_; simp only [turnpikelaw14_CodeChecks.j1]
        refine Ev.bind (same_refl (by omega) _ _) ?_
        simp only [if_true]
        refine Ev.bind (rcheck_ev op n m) ?_
        simp only [if_true]
        refine Ev.bind (rsize_ev op n m (by omega)) ?_
        simp only [if_true, hw, beq_self_eq_true]
        exact Ev.now _
      by_cases hc : chk op n m = 0
      · have hl := encd_length [] op n m
        simp only [hc, if_true, strOfNums_size, show b.length + (encd [] op n m).length ≤ 9223372036854775807 by simp at hl; omega]
        have := hend b (encd b op n m) (chk op n m) 0 0 ((strOfNums b) ++ (strOfNums (encd [] op n m))) rfl rfl rfl (by
          rw [← strOfNums_append]; unfold encd; rw [List.nil_append])
        simp only [hc, if_true] at this
        exact this
      · simp only [hc, if_false]
        have := hend b [] (chk op n m) (chk op n m) (chk op n m) ⟨#[]⟩ rfl rfl rfl (by rfl)
        simp only [hc, if_false] at this
        exact this
  by_cases h1 : (m.length : Int) > 16384
  · simp only [h1, if_true]; exact hj _ (by simp [h1])
  · simp only [h1, if_false]; exact hj _ (by simp [h1])

end Go.Proofs.Ytpghpeoclbiloaa.Pure
