/- CodeBack, the pure statement: what is laid down is read there as it, whatever stands ahead and behind; for every instruction, number and row of bytes. No condition beside the kinds' own. -/
import Derived.Test.YtpghpeoclbiloaaLLaw14
import Derived.Test.YtpghpeoclbiloaaLBack
import Derived.Test.YtpghpeoclbiloaaFx15
import Derived.Test.YtpghpeoclbiloaaFx16
set_option linter.unusedVariables false
set_option linter.unusedSimpArgs false
namespace Go.Proofs.Ytpghpeoclbiloaa.Pure
open Go.RowKit Go.Proofs.Ytpghpeoclbiloaa.F Go.Proofs.YtpghpeoclbiloaaW.PrintWords Go.Proofs.YtpghpeoclbiloaaW.PrintLast Go.Proofs.YtpghpeoclbiloaaW.PrintMore

theorem within_eq14b {a n : Int} (hn : 0 < n) (hn2 : n ≤ 4611686018427387904) : ∃ r, turnpikelaw14_within.f a n = some r ∧ 0 ≤ r ∧ r < n := by
  have h := tmod_range (a := a) hn
  unfold turnpikelaw14_within.f
  rw [if_neg (by omega)]
  by_cases e : Int.tmod a n < 0
  · rw [if_pos e, wrap64_id (by omega) (by omega)]; exact ⟨_, rfl, by omega, by omega⟩
  · rw [if_neg e]; exact ⟨_, rfl, by omega, by omega⟩

theorem CodeBack : turnpikelaw14_CodeBack.Pure := by
  intro op n m ahead behind hop hn hml hmw ha hbl hbl2 hbw
  have hM : Words m := fun x hx => wf_u32 (hmw x hx)
  have hB := Bytes.of_wf hbw
  refine Ev.rounds (r := true) ?_
  unfold turnpikelaw14_CodeBack.f
  refine Ev.bind known_ev ?_
  simp only [if_true]
  have hj : ∀ b, b = decide ((m.length : Int) > 16384 ∨ (behind.length : Int) > 16384) → Ev (fun k => turnpikelaw14_CodeBack.j0 k ahead behind b op n m) true := by
    rintro b rfl
    refine Ev.succ ?_; simp only [turnpikelaw14_CodeBack.j0, decide_eq_true_eq]
    by_cases h : (m.length : Int) > 16384 ∨ (behind.length : Int) > 16384
    · simp only [h, if_true]; exact Ev.now _
    · obtain ⟨r, hr, hr0, hr1⟩ := within_eq14b (a := ahead) (n := 50) (by omega) (by omega)
      simp only [h, if_false, hr, Option.bind_some]
      refine Ev.bind (check_ev op n m) ?_
      by_cases hc : chk op n m = 0
      · have e1 : wrap64 (4 * r) = 4 * r := wrap64_id (by omega) (by omega)
        simp only [hc, if_true, e1, show 0 ≤ 4 * r by omega, show (4 * r).toNat ≤ 281474976710656 by omega]
        clear e1
        obtain ⟨a, rfl⟩ := Int.eq_ofNat_of_zero_le hr0
        have e2 : (4 * (a : Int)).toNat = 4 * a := by omega
        rw [e2]
        refine Ev.bind (encode_ev _ _ _ _ (by simp; omega) (by omega)) ?_
        simp only [hc, if_true]
        refine Ev.bind (size_ev _ _ _ (by omega)) ?_
        simp only [hc, if_true]
        have e3 : wrap64 (4 * (a : Int) + wrap64 (4 * (1 + (m.length : Int)))) = 4 * (a : Int) + 4 * (1 + (m.length : Int)) := by
          rw [wrap64_id (n := 4 * (1 + (m.length : Int))) (by omega) (by omega), wrap64_id (by omega) (by omega)]
        have hz : Bytes (List.replicate (4 * a) (0 : Int)) := by intro x hx; have := List.eq_of_mem_replicate hx; omega
        have hen := encd_length (List.replicate (4 * a) (0 : Int)) op n m
        rw [List.length_replicate] at hen
        have e4 : (((encd (List.replicate (4 * a) 0) op n m).length : Int) != wrap64 (4 * (a : Int) + wrap64 (4 * (1 + (m.length : Int))))) = false := by
          rw [e3, bne_eq_false_iff_eq]; omega
        rw [e4]
        clear e3 e4
        refine Ev.succ ?_
        simp only [turnpikelaw14_CodeBack.j1, Bool.false_eq_true, if_false, Option.bind_some, List.nil_append, List.length_nil, show 0 + (encd (List.replicate (4 * a) 0) op n m).length < 140737488355328 by omega, if_true, show (encd (List.replicate (4 * a) 0) op n m).length + behind.length < 140737488355328 by omega]
        refine Ev.bind (decode_ev (bytes_append (encd_bytes hz _ _ _) hB) (by rw [List.length_append]; omega) _) ?_
        rw [dec_back hz (by simp) hM hB hc]
        simp only [if_true]
        refine Ev.bind (size_ev _ _ _ (by omega)) ?_
        simp only [hc, if_true]
        refine Ev.bind (same_refl (by omega) _ _) ?_
        exact Ev.now _
      · simp only [hc, if_false]
        refine Ev.bind (encode_ev _ _ _ _ (by simp) (by omega)) ?_
        simp only [hc, if_false]
        refine Ev.bind (check_ev op n m) ?_
        simp only [if_true]
        refine Ev.bind (size_ev _ _ _ (by omega)) ?_
        simp only [hc, if_false, beq_self_eq_true]
        exact Ev.now _
  by_cases h1 : (m.length : Int) > 16384
  · simp only [h1, if_true]; exact hj _ (by simp [h1])
  · simp only [h1, if_false]; exact hj _ (by simp [h1])

end Go.Proofs.Ytpghpeoclbiloaa.Pure
