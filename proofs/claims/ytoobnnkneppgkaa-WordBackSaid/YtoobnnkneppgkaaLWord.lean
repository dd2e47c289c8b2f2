/- Words of 128 bits, the pure side: what the printed functions of word and turnpikeref1 come to. -/
import Derived.Test.YtoobnnkneppgkaaLBase
import Derived.Test.YtoobnnkneppgkaaFx3
import Derived.Test.YtoobnnkneppgkaaFx4
import Derived.Test.YtoobnnkneppgkaaFx2
import Derived.Test.YtoobnnkneppgkaaFx5
import Derived.Test.YtoobnnkneppgkaaFx6
set_option linter.unusedVariables false
set_option linter.unusedSimpArgs false
namespace Go.Proofs.Ytoobnnkneppgkaa.Pure
open Go.RowKit Go.Proofs.Ytoobnnkneppgkaa.F Go.Proofs.YtoobnnkneppgkaaW.PrintWords Go.Proofs.YtoobnnkneppgkaaW.PrintLast Go.Proofs.YtoobnnkneppgkaaW.PrintMore

set_option maxRecDepth 100000 in
theorem known_true : turnpikelaw1_known.f = some true := by decide +kernel

theorem shl_same (a b : Int) {n : Int} (h0 : -9223372036854775808 ≤ n) (h1 : n ≤ 9223372036854775807) : ∃ r, word_Shl.f a b n = some r ∧ turnpikeref1_Shl.f a b n = some r := by
  unfold word_Shl.f turnpikeref1_Shl.f
  by_cases c1 : n ≤ 0
  · rw [if_pos c1, if_pos c1]; exact ⟨_, rfl, rfl⟩
  rw [if_neg c1, if_neg c1]
  by_cases c2 : n < 64
  · have e1 : wrap64 (64 - n) = 64 - n := wrap64_id (by omega) (by omega)
    simp only [if_pos c2, show ¬ n > 127 by omega, show ¬ n ≥ 64 by omega, show (0 : Int) ≤ n by omega, e1, show (0 : Int) ≤ 64 - n by omega, if_true, if_false]; exact ⟨_, rfl, rfl⟩
  rw [if_neg c2]
  by_cases c3 : n < 128
  · have e1 : wrap64 (n - 64) = n - 64 := wrap64_id (by omega) (by omega)
    simp only [if_pos c3, show ¬ n > 127 by omega, show n ≥ 64 by omega, e1, show (0 : Int) ≤ n - 64 by omega, if_true, if_false]; exact ⟨_, rfl, rfl⟩
  · rw [if_neg c3, if_pos (by omega)]; exact ⟨_, rfl, rfl⟩
theorem shr_same (a b : Int) {n : Int} (h0 : -9223372036854775808 ≤ n) (h1 : n ≤ 9223372036854775807) : ∃ r, word_Shr.f a b n = some r ∧ turnpikeref1_Shr.f a b n = some r := by
  unfold word_Shr.f turnpikeref1_Shr.f
  by_cases c1 : n ≤ 0
  · rw [if_pos c1, if_pos c1]; exact ⟨_, rfl, rfl⟩
  rw [if_neg c1, if_neg c1]
  by_cases c2 : n < 64
  · have e1 : wrap64 (64 - n) = 64 - n := wrap64_id (by omega) (by omega)
    simp only [if_pos c2, show ¬ n > 127 by omega, show ¬ n ≥ 64 by omega, show (0 : Int) ≤ n by omega, e1, show (0 : Int) ≤ 64 - n by omega, if_true, if_false]; exact ⟨_, rfl, rfl⟩
  rw [if_neg c2]
  by_cases c3 : n < 128
  · have e1 : wrap64 (n - 64) = n - 64 := wrap64_id (by omega) (by omega)
    simp only [if_pos c3, show ¬ n > 127 by omega, show n ≥ 64 by omega, e1, show (0 : Int) ≤ n - 64 by omega, if_true, if_false]; exact ⟨_, rfl, rfl⟩
  · rw [if_neg c3, if_pos (by omega)]; exact ⟨_, rfl, rfl⟩
end Go.Proofs.Ytoobnnkneppgkaa.Pure
