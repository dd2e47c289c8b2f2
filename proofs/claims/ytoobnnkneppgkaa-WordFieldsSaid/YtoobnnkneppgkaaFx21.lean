-- Written by this session's px.sh, a turned copy of the print, out of the translation. Lean checks it.
import Derived.Test.YtoobnnkneppgkaaFx0
import Derived.Test.YtoobnnkneppgkaaFx1
namespace Go.Proofs.Ytoobnnkneppgkaa.F
open Go.RowKit Go.Proofs.YtoobnnkneppgkaaW.PrintWords Go.Proofs.YtoobnnkneppgkaaW.PrintLast Go.Proofs.YtoobnnkneppgkaaW.PrintMore
attribute [local go_sem] max2_int min2_int max_two min_two max_three min_three max_four min_four   -- for this text's walks alone
set_option linter.unusedVariables false
set_option linter.unusedSimpArgs false

/-! ### word_Cmp: function 37 -/
def word_Cmp.f (a0_0 : Int) (a0_1 : Int) (a1_0 : Int) (a1_1 : Int) : Option (Int) := if (a0_0 == a1_0 && (a0_1 == a1_1)) = true then (some 0) else (if a0_0 < a1_0 then (some (-1)) else (if a0_0 = a1_0 then (if a0_1 < a1_1 then (some (-1)) else (some 1)) else (some 1)))
theorem word_Cmp.f_same (a b : Int) : word_Cmp.f a b a b = some 0 := by simp [word_Cmp.f]
theorem word_Cmp.f_less {a c : Int} (b d : Int) (h : a < c) : word_Cmp.f a b c d = some (-1) := by
  have : a ≠ c := by omega
  simp [word_Cmp.f, h, this]
theorem word_Cmp.f_more {a c : Int} (b d : Int) (h : c < a) : word_Cmp.f a b c d = some 1 := by
  have h1 : a ≠ c := by omega
  have h2 : ¬ a < c := by omega
  simp [word_Cmp.f, h1, h2]
theorem word_Cmp.f_low {b d : Int} (a : Int) (h : b < d) : word_Cmp.f a b a d = some (-1) := by
  have : b ≠ d := by omega
  simp [word_Cmp.f, h, this]
theorem word_Cmp.f_high {b d : Int} (a : Int) (h : d < b) : word_Cmp.f a b a d = some 1 := by
  have h1 : b ≠ d := by omega
  have h2 : ¬ b < d := by omega
  simp [word_Cmp.f, h1, h2]
attribute [local go_sem high] eqA24 in
set_option maxHeartbeats 2000000 in
set_option maxRecDepth 100000 in
theorem word_Cmp.calls (a0_0 : Int) (a0_1 : Int) (a1_0 : Int) (a1_1 : Int) (r : Int) (w : World) (h : word_Cmp.f a0_0 a0_1 a1_0 a1_1 = some r) :
    Calls Try.prog 37 #[.agg #[.int .u64 a0_0, .int .u64 a0_1], .agg #[.int .u64 a1_0, .int .u64 a1_1]] w fun e w' => e = .returned (.int .i64 r) ∧ Below w.heap.size w w' := by
  have huW := Try.underlying24
  by_cases c1 : a0_0 = a1_0
  · subst c1
    by_cases c2 : a0_1 = a1_1
    · subst c2
      obtain rfl : 0 = r := by rw [word_Cmp.f_same] at h; exact Option.some.inj h
      go_enter Try.func37, Try.ntmps37
      go_wp2
      go_ret
      exact ⟨rfl, below_alloc (below_alloc (Below.refl _ w) _) _⟩
    · have k1 : (a0_1 == a1_1) = false := by simpa using c2
      by_cases c3 : a0_1 < a1_1
      · obtain rfl : -1 = r := by rw [word_Cmp.f_low _ c3] at h; exact Option.some.inj h
        have k2 : decide (a0_1 < a1_1) = true := decide_eq_true c3
        clear c2 c3
        go_enter Try.func37, Try.ntmps37
        go_wp2
        go_ret
        exact ⟨rfl, below_alloc (below_alloc (Below.refl _ w) _) _⟩
      · obtain rfl : 1 = r := by rw [word_Cmp.f_high _ (by omega)] at h; exact Option.some.inj h
        have k2 : decide (a0_1 < a1_1) = false := decide_eq_false c3
        clear c2 c3
        go_enter Try.func37, Try.ntmps37
        go_wp2
        go_ret
        exact ⟨rfl, below_alloc (below_alloc (Below.refl _ w) _) _⟩
  · have k1 : (a0_0 == a1_0) = false := by simpa using c1
    by_cases c3 : a0_0 < a1_0
    · obtain rfl : -1 = r := by rw [word_Cmp.f_less _ _ c3] at h; exact Option.some.inj h
      have k2 : decide (a0_0 < a1_0) = true := decide_eq_true c3
      clear c1 c3
      go_enter Try.func37, Try.ntmps37
      go_wp2
      go_ret
      exact ⟨rfl, below_alloc (below_alloc (Below.refl _ w) _) _⟩
    · obtain rfl : 1 = r := by rw [word_Cmp.f_more _ _ (by omega)] at h; exact Option.some.inj h
      have k2 : decide (a0_0 < a1_0) = false := decide_eq_false c3
      clear c1 c3
      go_enter Try.func37, Try.ntmps37
      go_wp2
      go_ret
      exact ⟨rfl, below_alloc (below_alloc (Below.refl _ w) _) _⟩

end Go.Proofs.Ytoobnnkneppgkaa.F
