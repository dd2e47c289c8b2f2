-- Written by this session's px.sh, a turned copy of the print, out of the translation. Lean checks it.
import Derived.Test.YtoobnnkneppgkaaFx0
import Derived.Test.YtoobnnkneppgkaaFx1
import Derived.Test.YtoobnnkneppgkaaFx2
import Derived.Test.YtoobnnkneppgkaaFx3
import Derived.Test.YtoobnnkneppgkaaFx4
import Derived.Test.YtoobnnkneppgkaaFx8
import Derived.Test.YtoobnnkneppgkaaFx12
namespace Go.Proofs.Ytoobnnkneppgkaa.F
open Go.RowKit Go.Proofs.YtoobnnkneppgkaaW.PrintWords Go.Proofs.YtoobnnkneppgkaaW.PrintLast Go.Proofs.YtoobnnkneppgkaaW.PrintMore
attribute [local go_sem] max2_int min2_int max_two min_two max_three min_three max_four min_four   -- for this text's walks alone
set_option linter.unusedVariables false
set_option linter.unusedSimpArgs false

attribute [local go_sem high] eqA24
/-! ### turnpikelaw1_WordShifts: function 5 -/
def turnpikelaw1_WordShifts.f (k : Nat) (a0_0 : Int) (a0_1 : Int) (a1 : Int) (a2 : Int) : Option (Bool) := (turnpikelaw1_known.f).bind fun t197 => (if t197 = true then ((turnpikelaw1_within.f a1 140).bind fun t198 => ((turnpikelaw1_within.f a2 140).bind fun t199 => ((word_Shl.f a0_0 a0_1 t198).bind fun bt200 => ((word_Shl.f bt200.1 bt200.2 t199).bind fun bt202 => ((word_Shl.f a0_0 a0_1 (wrap64 (t198 + t199))).bind fun bt204 => (if (!(bt202.1 == bt204.1) || (!(bt202.2 == bt204.2))) = true then (none) else ((word_Shr.f a0_0 a0_1 t198).bind fun bt206 => ((word_Shr.f bt206.1 bt206.2 t199).bind fun bt208 => ((word_Shr.f a0_0 a0_1 (wrap64 (t198 + t199))).bind fun bt210 => (if (!(bt208.1 == bt210.1) || (!(bt208.2 == bt210.2))) = true then (none) else ((word_Shl.f a0_0 a0_1 t198).bind fun bt212 => ((word_Shr.f bt212.1 bt212.2 t198).bind fun bt214 => ((word_Mask.f t198).bind fun bt216 => ((word_Not.f bt216.1 bt216.2).bind fun bt218 => ((word_And.f a0_0 a0_1 bt218.1 bt218.2).bind fun bt220 => (if (!(bt214.1 == bt220.1) || (!(bt214.2 == bt220.2))) = true then (none) else ((word_Shr.f a0_0 a0_1 t198).bind fun bt222 => ((word_Shl.f bt222.1 bt222.2 t198).bind fun bt224 => ((word_Mask.f (wrap64 (128 - t198))).bind fun bt226 => ((word_And.f a0_0 a0_1 bt226.1 bt226.2).bind fun bt228 => (if (!(bt224.1 == bt228.1) || (!(bt224.2 == bt228.2))) = true then (none) else ((word_Add.f a0_0 a0_1 a0_0 a0_1).bind fun bt230 => ((word_Shl.f a0_0 a0_1 1).bind fun bt234 => (if (bt230.1 == bt234.1 && (bt230.2.1 == bt234.2)) = true then ((word_Bit.f k a0_0 a0_1 0).bind fun t236 => (if (bt230.2.2 == (t236 == 1)) = true then ((word_Shl.f a0_0 a0_1 (wrap64 (-t198))).bind fun bt237 => (some (bt237.1 == a0_0 && (bt237.2 == a0_1)))) else (none))) else (none))))))))))))))))))))))))) else (none))
theorem turnpikelaw1_WordShifts.mono : ∀ a0 a1 a2 a3 k, LeO (turnpikelaw1_WordShifts.f k a0 a1 a2 a3) (turnpikelaw1_WordShifts.f (k + 1) a0 a1 a2 a3) := by
  intro a0 a1 a2 a3 k
  unfold turnpikelaw1_WordShifts.f
  repeat' first
      | (with_reducible exact word_Bit.mono _ _ _ _)
      | (with_reducible exact LeO.refl _)
      | (with_reducible exact LeO.none _)
      | (with_reducible refine LeO.ite ?_ ?_)
      | (with_reducible refine LeO.bind ?_ (fun _ => ?_))
      | exact word_Bit.mono _ _ _ _
      | exact LeO.none _
      | refine LeO.ite ?_ ?_
      | refine LeO.bind ?_ (fun _ => ?_)
def turnpikelaw1_WordShifts.T5 : Bool × List (List Nat × List Nat) := (true, [([], []), ([], []), ([0, 1], [0, 1]), ([], []), ([2, 3, 2], [2, 3]), ([], []), ([], []), ([], []), ([6, 7], [6, 7]), ([5, 8, 4], [5, 8]), ([4, 9], [4, 9]), ([10, 9], [10]), ([11], [11]), ([11], [11]), ([12, 13, 11, 11], [11, 12, 13]), ([11], [11]), ([14, 15, 14, 11], [11, 14, 15]), ([11], [11]), ([11], [11]), ([11], [11]), ([18, 19, 11], [11, 18, 19]), ([17, 20, 16, 11], [11, 17, 20]), ([16, 21, 11], [11, 16, 21]), ([11, 22], [11, 22])])
def turnpikelaw1_WordShifts.B5 : List Nat := [0, 0, 3, 0, 15, 0, 0, 0, 192, 511, 1023, 2047, 4095, 4095, 16383, 4095, 65535, 4095, 4095, 4095, 790527, 2097151, 4194303, 8388607]
theorem turnpikelaw1_WordShifts.tab5 : rtab .any (opsOf Try.f5 5) = turnpikelaw1_WordShifts.T5 := by kernel_rfl
theorem turnpikelaw1_WordShifts.bits5 : waitsOk turnpikelaw1_WordShifts.T5.2 turnpikelaw1_WordShifts.B5 = true := by kernel_rfl
def turnpikelaw1_WordShifts.T7 : Bool × List (List Nat × List Nat) := (true, [([], []), ([], []), ([0, 1], [0, 1]), ([], []), ([2, 3, 2], [2, 3]), ([], []), ([], []), ([6, 4], [6]), ([7, 7], [7]), ([5, 8, 8], [5, 8]), ([4, 9], [4, 9]), ([10, 9], [10]), ([11], [11]), ([11], [11]), ([12, 13, 11, 11], [11, 12, 13]), ([11], [11]), ([14, 15, 14, 11], [11, 14, 15]), ([11], [11]), ([11], [11]), ([18, 11], [11, 18]), ([19, 16, 11], [11, 19]), ([17, 20, 20, 11], [11, 17, 20]), ([16, 21, 11], [11, 16, 21]), ([11, 22], [11, 22])])
def turnpikelaw1_WordShifts.B7 : List Nat := [0, 0, 3, 0, 15, 0, 0, 95, 223, 511, 1023, 2047, 4095, 4095, 16383, 4095, 65535, 4095, 4095, 266239, 917503, 2097151, 4194303, 8388607]
theorem turnpikelaw1_WordShifts.tab7 : rtab .any (opsOf Try.f5 7) = turnpikelaw1_WordShifts.T7 := by kernel_rfl
theorem turnpikelaw1_WordShifts.bits7 : waitsOk turnpikelaw1_WordShifts.T7.2 turnpikelaw1_WordShifts.B7 = true := by kernel_rfl
def turnpikelaw1_WordShifts.T10 : Bool × List (List Nat × List Nat) := (true, [([], []), ([], []), ([1], [1]), ([0, 2], [0, 2]), ([3, 2], [3]), ([4], [4]), ([4], [4]), ([6, 4, 4], [4, 6]), ([7, 4], [4, 7]), ([5, 8, 4], [4, 5, 8]), ([4, 9], [4, 9]), ([10, 7], [10]), ([11], [11]), ([11], [11]), ([13, 11], [11, 13]), ([12, 14, 11, 11], [11, 12, 14]), ([11], [11]), ([15, 16, 11], [11, 15, 16]), ([11, 17], [11, 17]), ([18, 15, 0, 1, 2, 3, 4, 5, 6, 7, 8, 9, 10, 11, 12, 13, 14, 15, 16, 17, 18], [18])])
def turnpikelaw1_WordShifts.B10 : List Nat := [0, 0, 2, 7, 15, 31, 31, 95, 223, 511, 1023, 2047, 4095, 4095, 12287, 32767, 4095, 131071, 262143, 524287]
theorem turnpikelaw1_WordShifts.tab10 : rtab .any (opsOf Try.f5 10) = turnpikelaw1_WordShifts.T10 := by kernel_rfl
theorem turnpikelaw1_WordShifts.bits10 : waitsOk turnpikelaw1_WordShifts.T10.2 turnpikelaw1_WordShifts.B10 = true := by kernel_rfl
set_option maxHeartbeats 8000000 in
set_option maxRecDepth 100000 in
theorem turnpikelaw1_WordShifts.calls (k : Nat) (a0_0 : Int) (a0_1 : Int) (a1 : Int) (a2 : Int) (r : Bool) (w : World) (h : turnpikelaw1_WordShifts.f k a0_0 a0_1 a1 a2 = some r) :
    Calls Try.prog 5 #[.agg #[.int .u64 a0_0, .int .u64 a0_1], .int .i64 a1, .int .i64 a2] w fun e w' => e = .returned (.bool r) ∧ Below w.heap.size w w' := by
  have hu24 := Try.underlying24
  have HB := Aside0.mk (Below.refl w.heap.size w)
  have H : ((turnpikelaw1_known.f).bind fun t197 => (if t197 = true then ((turnpikelaw1_within.f a1 140).bind fun t198 => ((turnpikelaw1_within.f a2 140).bind fun t199 => ((word_Shl.f a0_0 a0_1 t198).bind fun bt200 => ((word_Shl.f bt200.1 bt200.2 t199).bind fun bt202 => ((word_Shl.f a0_0 a0_1 (wrap64 (t198 + t199))).bind fun bt204 => (if (!(bt202.1 == bt204.1) || (!(bt202.2 == bt204.2))) = true then (none) else ((word_Shr.f a0_0 a0_1 t198).bind fun bt206 => ((word_Shr.f bt206.1 bt206.2 t199).bind fun bt208 => ((word_Shr.f a0_0 a0_1 (wrap64 (t198 + t199))).bind fun bt210 => (if (!(bt208.1 == bt210.1) || (!(bt208.2 == bt210.2))) = true then (none) else ((word_Shl.f a0_0 a0_1 t198).bind fun bt212 => ((word_Shr.f bt212.1 bt212.2 t198).bind fun bt214 => ((word_Mask.f t198).bind fun bt216 => ((word_Not.f bt216.1 bt216.2).bind fun bt218 => ((word_And.f a0_0 a0_1 bt218.1 bt218.2).bind fun bt220 => (if (!(bt214.1 == bt220.1) || (!(bt214.2 == bt220.2))) = true then (none) else ((word_Shr.f a0_0 a0_1 t198).bind fun bt222 => ((word_Shl.f bt222.1 bt222.2 t198).bind fun bt224 => ((word_Mask.f (wrap64 (128 - t198))).bind fun bt226 => ((word_And.f a0_0 a0_1 bt226.1 bt226.2).bind fun bt228 => (if (!(bt224.1 == bt228.1) || (!(bt224.2 == bt228.2))) = true then (none) else ((word_Add.f a0_0 a0_1 a0_0 a0_1).bind fun bt230 => ((word_Shl.f a0_0 a0_1 1).bind fun bt234 => (if (bt230.1 == bt234.1 && (bt230.2.1 == bt234.2)) = true then ((word_Bit.f k a0_0 a0_1 0).bind fun t236 => (if (bt230.2.2 == (t236 == 1)) = true then ((word_Shl.f a0_0 a0_1 (wrap64 (-t198))).bind fun bt237 => (some (bt237.1 == a0_0 && (bt237.2 == a0_1)))) else (none))) else (none))))))))))))))))))))))))) else (none))) = some r := h
  clear h
  replace H := Option.bind_eq_some_iff.mp H
  obtain ⟨t197, A40, H⟩ := H
  replace H : (if t197 = true then ((turnpikelaw1_within.f a1 140).bind fun t198 => ((turnpikelaw1_within.f a2 140).bind fun t199 => ((word_Shl.f a0_0 a0_1 t198).bind fun bt200 => ((word_Shl.f bt200.1 bt200.2 t199).bind fun bt202 => ((word_Shl.f a0_0 a0_1 (wrap64 (t198 + t199))).bind fun bt204 => (if (!(bt202.1 == bt204.1) || (!(bt202.2 == bt204.2))) = true then (none) else ((word_Shr.f a0_0 a0_1 t198).bind fun bt206 => ((word_Shr.f bt206.1 bt206.2 t199).bind fun bt208 => ((word_Shr.f a0_0 a0_1 (wrap64 (t198 + t199))).bind fun bt210 => (if (!(bt208.1 == bt210.1) || (!(bt208.2 == bt210.2))) = true then (none) else ((word_Shl.f a0_0 a0_1 t198).bind fun bt212 => ((word_Shr.f bt212.1 bt212.2 t198).bind fun bt214 => ((word_Mask.f t198).bind fun bt216 => ((word_Not.f bt216.1 bt216.2).bind fun bt218 => ((word_And.f a0_0 a0_1 bt218.1 bt218.2).bind fun bt220 => (if (!(bt214.1 == bt220.1) || (!(bt214.2 == bt220.2))) = true then (none) else ((word_Shr.f a0_0 a0_1 t198).bind fun bt222 => ((word_Shl.f bt222.1 bt222.2 t198).bind fun bt224 => ((word_Mask.f (wrap64 (128 - t198))).bind fun bt226 => ((word_And.f a0_0 a0_1 bt226.1 bt226.2).bind fun bt228 => (if (!(bt224.1 == bt228.1) || (!(bt224.2 == bt228.2))) = true then (none) else ((word_Add.f a0_0 a0_1 a0_0 a0_1).bind fun bt230 => ((word_Shl.f a0_0 a0_1 1).bind fun bt234 => (if (bt230.1 == bt234.1 && (bt230.2.1 == bt234.2)) = true then ((word_Bit.f k a0_0 a0_1 0).bind fun t236 => (if (bt230.2.2 == (t236 == 1)) = true then ((word_Shl.f a0_0 a0_1 (wrap64 (-t198))).bind fun bt237 => (some (bt237.1 == a0_0 && (bt237.2 == a0_1)))) else (none))) else (none))))))))))))))))))))))))) else (none)) = some r := H
  have A4 := Aside0.mk A40
  clear A40
  by_cases c5 : t197 = true
  · subst c5
    have H1 : ((turnpikelaw1_within.f a1 140).bind fun t198 => ((turnpikelaw1_within.f a2 140).bind fun t199 => ((word_Shl.f a0_0 a0_1 t198).bind fun bt200 => ((word_Shl.f bt200.1 bt200.2 t199).bind fun bt202 => ((word_Shl.f a0_0 a0_1 (wrap64 (t198 + t199))).bind fun bt204 => (if (!(bt202.1 == bt204.1) || (!(bt202.2 == bt204.2))) = true then (none) else ((word_Shr.f a0_0 a0_1 t198).bind fun bt206 => ((word_Shr.f bt206.1 bt206.2 t199).bind fun bt208 => ((word_Shr.f a0_0 a0_1 (wrap64 (t198 + t199))).bind fun bt210 => (if (!(bt208.1 == bt210.1) || (!(bt208.2 == bt210.2))) = true then (none) else ((word_Shl.f a0_0 a0_1 t198).bind fun bt212 => ((word_Shr.f bt212.1 bt212.2 t198).bind fun bt214 => ((word_Mask.f t198).bind fun bt216 => ((word_Not.f bt216.1 bt216.2).bind fun bt218 => ((word_And.f a0_0 a0_1 bt218.1 bt218.2).bind fun bt220 => (if (!(bt214.1 == bt220.1) || (!(bt214.2 == bt220.2))) = true then (none) else ((word_Shr.f a0_0 a0_1 t198).bind fun bt222 => ((word_Shl.f bt222.1 bt222.2 t198).bind fun bt224 => ((word_Mask.f (wrap64 (128 - t198))).bind fun bt226 => ((word_And.f a0_0 a0_1 bt226.1 bt226.2).bind fun bt228 => (if (!(bt224.1 == bt228.1) || (!(bt224.2 == bt228.2))) = true then (none) else ((word_Add.f a0_0 a0_1 a0_0 a0_1).bind fun bt230 => ((word_Shl.f a0_0 a0_1 1).bind fun bt234 => (if (bt230.1 == bt234.1 && (bt230.2.1 == bt234.2)) = true then ((word_Bit.f k a0_0 a0_1 0).bind fun t236 => (if (bt230.2.2 == (t236 == 1)) = true then ((word_Shl.f a0_0 a0_1 (wrap64 (-t198))).bind fun bt237 => (some (bt237.1 == a0_0 && (bt237.2 == a0_1)))) else (none))) else (none))))))))))))))))))))))))) = some r := by rw [if_pos rfl] at H; exact H
    clear H
    have H := H1
    clear H1
    replace H := Option.bind_eq_some_iff.mp H
    obtain ⟨t198, A60, H⟩ := H
    replace H : ((turnpikelaw1_within.f a2 140).bind fun t199 => ((word_Shl.f a0_0 a0_1 t198).bind fun bt200 => ((word_Shl.f bt200.1 bt200.2 t199).bind fun bt202 => ((word_Shl.f a0_0 a0_1 (wrap64 (t198 + t199))).bind fun bt204 => (if (!(bt202.1 == bt204.1) || (!(bt202.2 == bt204.2))) = true then (none) else ((word_Shr.f a0_0 a0_1 t198).bind fun bt206 => ((word_Shr.f bt206.1 bt206.2 t199).bind fun bt208 => ((word_Shr.f a0_0 a0_1 (wrap64 (t198 + t199))).bind fun bt210 => (if (!(bt208.1 == bt210.1) || (!(bt208.2 == bt210.2))) = true then (none) else ((word_Shl.f a0_0 a0_1 t198).bind fun bt212 => ((word_Shr.f bt212.1 bt212.2 t198).bind fun bt214 => ((word_Mask.f t198).bind fun bt216 => ((word_Not.f bt216.1 bt216.2).bind fun bt218 => ((word_And.f a0_0 a0_1 bt218.1 bt218.2).bind fun bt220 => (if (!(bt214.1 == bt220.1) || (!(bt214.2 == bt220.2))) = true then (none) else ((word_Shr.f a0_0 a0_1 t198).bind fun bt222 => ((word_Shl.f bt222.1 bt222.2 t198).bind fun bt224 => ((word_Mask.f (wrap64 (128 - t198))).bind fun bt226 => ((word_And.f a0_0 a0_1 bt226.1 bt226.2).bind fun bt228 => (if (!(bt224.1 == bt228.1) || (!(bt224.2 == bt228.2))) = true then (none) else ((word_Add.f a0_0 a0_1 a0_0 a0_1).bind fun bt230 => ((word_Shl.f a0_0 a0_1 1).bind fun bt234 => (if (bt230.1 == bt234.1 && (bt230.2.1 == bt234.2)) = true then ((word_Bit.f k a0_0 a0_1 0).bind fun t236 => (if (bt230.2.2 == (t236 == 1)) = true then ((word_Shl.f a0_0 a0_1 (wrap64 (-t198))).bind fun bt237 => (some (bt237.1 == a0_0 && (bt237.2 == a0_1)))) else (none))) else (none)))))))))))))))))))))))) = some r := H
    have A6 := Aside0.mk A60
    clear A60
    replace H := Option.bind_eq_some_iff.mp H
    obtain ⟨t199, A70, H⟩ := H
    replace H : ((word_Shl.f a0_0 a0_1 t198).bind fun bt200 => ((word_Shl.f bt200.1 bt200.2 t199).bind fun bt202 => ((word_Shl.f a0_0 a0_1 (wrap64 (t198 + t199))).bind fun bt204 => (if (!(bt202.1 == bt204.1) || (!(bt202.2 == bt204.2))) = true then (none) else ((word_Shr.f a0_0 a0_1 t198).bind fun bt206 => ((word_Shr.f bt206.1 bt206.2 t199).bind fun bt208 => ((word_Shr.f a0_0 a0_1 (wrap64 (t198 + t199))).bind fun bt210 => (if (!(bt208.1 == bt210.1) || (!(bt208.2 == bt210.2))) = true then (none) else ((word_Shl.f a0_0 a0_1 t198).bind fun bt212 => ((word_Shr.f bt212.1 bt212.2 t198).bind fun bt214 => ((word_Mask.f t198).bind fun bt216 => ((word_Not.f bt216.1 bt216.2).bind fun bt218 => ((word_And.f a0_0 a0_1 bt218.1 bt218.2).bind fun bt220 => (if (!(bt214.1 == bt220.1) || (!(bt214.2 == bt220.2))) = true then (none) else ((word_Shr.f a0_0 a0_1 t198).bind fun bt222 => ((word_Shl.f bt222.1 bt222.2 t198).bind fun bt224 => ((word_Mask.f (wrap64 (128 - t198))).bind fun bt226 => ((word_And.f a0_0 a0_1 bt226.1 bt226.2).bind fun bt228 => (if (!(bt224.1 == bt228.1) || (!(bt224.2 == bt228.2))) = true then (none) else ((word_Add.f a0_0 a0_1 a0_0 a0_1).bind fun bt230 => ((word_Shl.f a0_0 a0_1 1).bind fun bt234 => (if (bt230.1 == bt234.1 && (bt230.2.1 == bt234.2)) = true then ((word_Bit.f k a0_0 a0_1 0).bind fun t236 => (if (bt230.2.2 == (t236 == 1)) = true then ((word_Shl.f a0_0 a0_1 (wrap64 (-t198))).bind fun bt237 => (some (bt237.1 == a0_0 && (bt237.2 == a0_1)))) else (none))) else (none))))))))))))))))))))))) = some r := H
    have A7 := Aside0.mk A70
    clear A70
    replace H := Option.bind_eq_some_iff.mp H
    obtain ⟨⟨t200, t201⟩, A80, H⟩ := H
    replace H : ((word_Shl.f t200 t201 t199).bind fun bt202 => ((word_Shl.f a0_0 a0_1 (wrap64 (t198 + t199))).bind fun bt204 => (if (!(bt202.1 == bt204.1) || (!(bt202.2 == bt204.2))) = true then (none) else ((word_Shr.f a0_0 a0_1 t198).bind fun bt206 => ((word_Shr.f bt206.1 bt206.2 t199).bind fun bt208 => ((word_Shr.f a0_0 a0_1 (wrap64 (t198 + t199))).bind fun bt210 => (if (!(bt208.1 == bt210.1) || (!(bt208.2 == bt210.2))) = true then (none) else ((word_Shl.f a0_0 a0_1 t198).bind fun bt212 => ((word_Shr.f bt212.1 bt212.2 t198).bind fun bt214 => ((word_Mask.f t198).bind fun bt216 => ((word_Not.f bt216.1 bt216.2).bind fun bt218 => ((word_And.f a0_0 a0_1 bt218.1 bt218.2).bind fun bt220 => (if (!(bt214.1 == bt220.1) || (!(bt214.2 == bt220.2))) = true then (none) else ((word_Shr.f a0_0 a0_1 t198).bind fun bt222 => ((word_Shl.f bt222.1 bt222.2 t198).bind fun bt224 => ((word_Mask.f (wrap64 (128 - t198))).bind fun bt226 => ((word_And.f a0_0 a0_1 bt226.1 bt226.2).bind fun bt228 => (if (!(bt224.1 == bt228.1) || (!(bt224.2 == bt228.2))) = true then (none) else ((word_Add.f a0_0 a0_1 a0_0 a0_1).bind fun bt230 => ((word_Shl.f a0_0 a0_1 1).bind fun bt234 => (if (bt230.1 == bt234.1 && (bt230.2.1 == bt234.2)) = true then ((word_Bit.f k a0_0 a0_1 0).bind fun t236 => (if (bt230.2.2 == (t236 == 1)) = true then ((word_Shl.f a0_0 a0_1 (wrap64 (-t198))).bind fun bt237 => (some (bt237.1 == a0_0 && (bt237.2 == a0_1)))) else (none))) else (none)))))))))))))))))))))) = some r := H
    have A8 := Aside0.mk A80
    clear A80
    replace H := Option.bind_eq_some_iff.mp H
    obtain ⟨⟨t202, t203⟩, A90, H⟩ := H
    replace H : ((word_Shl.f a0_0 a0_1 (wrap64 (t198 + t199))).bind fun bt204 => (if (!(t202 == bt204.1) || (!(t203 == bt204.2))) = true then (none) else ((word_Shr.f a0_0 a0_1 t198).bind fun bt206 => ((word_Shr.f bt206.1 bt206.2 t199).bind fun bt208 => ((word_Shr.f a0_0 a0_1 (wrap64 (t198 + t199))).bind fun bt210 => (if (!(bt208.1 == bt210.1) || (!(bt208.2 == bt210.2))) = true then (none) else ((word_Shl.f a0_0 a0_1 t198).bind fun bt212 => ((word_Shr.f bt212.1 bt212.2 t198).bind fun bt214 => ((word_Mask.f t198).bind fun bt216 => ((word_Not.f bt216.1 bt216.2).bind fun bt218 => ((word_And.f a0_0 a0_1 bt218.1 bt218.2).bind fun bt220 => (if (!(bt214.1 == bt220.1) || (!(bt214.2 == bt220.2))) = true then (none) else ((word_Shr.f a0_0 a0_1 t198).bind fun bt222 => ((word_Shl.f bt222.1 bt222.2 t198).bind fun bt224 => ((word_Mask.f (wrap64 (128 - t198))).bind fun bt226 => ((word_And.f a0_0 a0_1 bt226.1 bt226.2).bind fun bt228 => (if (!(bt224.1 == bt228.1) || (!(bt224.2 == bt228.2))) = true then (none) else ((word_Add.f a0_0 a0_1 a0_0 a0_1).bind fun bt230 => ((word_Shl.f a0_0 a0_1 1).bind fun bt234 => (if (bt230.1 == bt234.1 && (bt230.2.1 == bt234.2)) = true then ((word_Bit.f k a0_0 a0_1 0).bind fun t236 => (if (bt230.2.2 == (t236 == 1)) = true then ((word_Shl.f a0_0 a0_1 (wrap64 (-t198))).bind fun bt237 => (some (bt237.1 == a0_0 && (bt237.2 == a0_1)))) else (none))) else (none))))))))))))))))))))) = some r := H
    have A9 := Aside0.mk A90
    clear A90
    replace H := Option.bind_eq_some_iff.mp H
    obtain ⟨⟨t204, t205⟩, A100, H⟩ := H
    replace H : (if (!(t202 == t204) || (!(t203 == t205))) = true then (none) else ((word_Shr.f a0_0 a0_1 t198).bind fun bt206 => ((word_Shr.f bt206.1 bt206.2 t199).bind fun bt208 => ((word_Shr.f a0_0 a0_1 (wrap64 (t198 + t199))).bind fun bt210 => (if (!(bt208.1 == bt210.1) || (!(bt208.2 == bt210.2))) = true then (none) else ((word_Shl.f a0_0 a0_1 t198).bind fun bt212 => ((word_Shr.f bt212.1 bt212.2 t198).bind fun bt214 => ((word_Mask.f t198).bind fun bt216 => ((word_Not.f bt216.1 bt216.2).bind fun bt218 => ((word_And.f a0_0 a0_1 bt218.1 bt218.2).bind fun bt220 => (if (!(bt214.1 == bt220.1) || (!(bt214.2 == bt220.2))) = true then (none) else ((word_Shr.f a0_0 a0_1 t198).bind fun bt222 => ((word_Shl.f bt222.1 bt222.2 t198).bind fun bt224 => ((word_Mask.f (wrap64 (128 - t198))).bind fun bt226 => ((word_And.f a0_0 a0_1 bt226.1 bt226.2).bind fun bt228 => (if (!(bt224.1 == bt228.1) || (!(bt224.2 == bt228.2))) = true then (none) else ((word_Add.f a0_0 a0_1 a0_0 a0_1).bind fun bt230 => ((word_Shl.f a0_0 a0_1 1).bind fun bt234 => (if (bt230.1 == bt234.1 && (bt230.2.1 == bt234.2)) = true then ((word_Bit.f k a0_0 a0_1 0).bind fun t236 => (if (bt230.2.2 == (t236 == 1)) = true then ((word_Shl.f a0_0 a0_1 (wrap64 (-t198))).bind fun bt237 => (some (bt237.1 == a0_0 && (bt237.2 == a0_1)))) else (none))) else (none)))))))))))))))))))) = some r := H
    have A10 := Aside0.mk A100
    clear A100
    by_cases c11 : (!(t202 == t204) || (!(t203 == t205))) = true
    · rw [if_pos c11] at H
      exact absurd H (by simp)
    · rw [if_neg c11] at H
      have c11b0 : (!(t202 == t204) || (!(t203 == t205))) = false := by simpa using c11
      clear c11
      replace H := Option.bind_eq_some_iff.mp H
      obtain ⟨⟨t206, t207⟩, A120, H⟩ := H
      replace H : ((word_Shr.f t206 t207 t199).bind fun bt208 => ((word_Shr.f a0_0 a0_1 (wrap64 (t198 + t199))).bind fun bt210 => (if (!(bt208.1 == bt210.1) || (!(bt208.2 == bt210.2))) = true then (none) else ((word_Shl.f a0_0 a0_1 t198).bind fun bt212 => ((word_Shr.f bt212.1 bt212.2 t198).bind fun bt214 => ((word_Mask.f t198).bind fun bt216 => ((word_Not.f bt216.1 bt216.2).bind fun bt218 => ((word_And.f a0_0 a0_1 bt218.1 bt218.2).bind fun bt220 => (if (!(bt214.1 == bt220.1) || (!(bt214.2 == bt220.2))) = true then (none) else ((word_Shr.f a0_0 a0_1 t198).bind fun bt222 => ((word_Shl.f bt222.1 bt222.2 t198).bind fun bt224 => ((word_Mask.f (wrap64 (128 - t198))).bind fun bt226 => ((word_And.f a0_0 a0_1 bt226.1 bt226.2).bind fun bt228 => (if (!(bt224.1 == bt228.1) || (!(bt224.2 == bt228.2))) = true then (none) else ((word_Add.f a0_0 a0_1 a0_0 a0_1).bind fun bt230 => ((word_Shl.f a0_0 a0_1 1).bind fun bt234 => (if (bt230.1 == bt234.1 && (bt230.2.1 == bt234.2)) = true then ((word_Bit.f k a0_0 a0_1 0).bind fun t236 => (if (bt230.2.2 == (t236 == 1)) = true then ((word_Shl.f a0_0 a0_1 (wrap64 (-t198))).bind fun bt237 => (some (bt237.1 == a0_0 && (bt237.2 == a0_1)))) else (none))) else (none)))))))))))))))))) = some r := H
      have A12 := Aside0.mk A120
      clear A120
      replace H := Option.bind_eq_some_iff.mp H
      obtain ⟨⟨t208, t209⟩, A130, H⟩ := H
      replace H : ((word_Shr.f a0_0 a0_1 (wrap64 (t198 + t199))).bind fun bt210 => (if (!(t208 == bt210.1) || (!(t209 == bt210.2))) = true then (none) else ((word_Shl.f a0_0 a0_1 t198).bind fun bt212 => ((word_Shr.f bt212.1 bt212.2 t198).bind fun bt214 => ((word_Mask.f t198).bind fun bt216 => ((word_Not.f bt216.1 bt216.2).bind fun bt218 => ((word_And.f a0_0 a0_1 bt218.1 bt218.2).bind fun bt220 => (if (!(bt214.1 == bt220.1) || (!(bt214.2 == bt220.2))) = true then (none) else ((word_Shr.f a0_0 a0_1 t198).bind fun bt222 => ((word_Shl.f bt222.1 bt222.2 t198).bind fun bt224 => ((word_Mask.f (wrap64 (128 - t198))).bind fun bt226 => ((word_And.f a0_0 a0_1 bt226.1 bt226.2).bind fun bt228 => (if (!(bt224.1 == bt228.1) || (!(bt224.2 == bt228.2))) = true then (none) else ((word_Add.f a0_0 a0_1 a0_0 a0_1).bind fun bt230 => ((word_Shl.f a0_0 a0_1 1).bind fun bt234 => (if (bt230.1 == bt234.1 && (bt230.2.1 == bt234.2)) = true then ((word_Bit.f k a0_0 a0_1 0).bind fun t236 => (if (bt230.2.2 == (t236 == 1)) = true then ((word_Shl.f a0_0 a0_1 (wrap64 (-t198))).bind fun bt237 => (some (bt237.1 == a0_0 && (bt237.2 == a0_1)))) else (none))) else (none))))))))))))))))) = some r := H
      have A13 := Aside0.mk A130
      clear A130
      replace H := Option.bind_eq_some_iff.mp H
      obtain ⟨⟨t210, t211⟩, A140, H⟩ := H
      replace H : (if (!(t208 == t210) || (!(t209 == t211))) = true then (none) else ((word_Shl.f a0_0 a0_1 t198).bind fun bt212 => ((word_Shr.f bt212.1 bt212.2 t198).bind fun bt214 => ((word_Mask.f t198).bind fun bt216 => ((word_Not.f bt216.1 bt216.2).bind fun bt218 => ((word_And.f a0_0 a0_1 bt218.1 bt218.2).bind fun bt220 => (if (!(bt214.1 == bt220.1) || (!(bt214.2 == bt220.2))) = true then (none) else ((word_Shr.f a0_0 a0_1 t198).bind fun bt222 => ((word_Shl.f bt222.1 bt222.2 t198).bind fun bt224 => ((word_Mask.f (wrap64 (128 - t198))).bind fun bt226 => ((word_And.f a0_0 a0_1 bt226.1 bt226.2).bind fun bt228 => (if (!(bt224.1 == bt228.1) || (!(bt224.2 == bt228.2))) = true then (none) else ((word_Add.f a0_0 a0_1 a0_0 a0_1).bind fun bt230 => ((word_Shl.f a0_0 a0_1 1).bind fun bt234 => (if (bt230.1 == bt234.1 && (bt230.2.1 == bt234.2)) = true then ((word_Bit.f k a0_0 a0_1 0).bind fun t236 => (if (bt230.2.2 == (t236 == 1)) = true then ((word_Shl.f a0_0 a0_1 (wrap64 (-t198))).bind fun bt237 => (some (bt237.1 == a0_0 && (bt237.2 == a0_1)))) else (none))) else (none)))))))))))))))) = some r := H
      have A14 := Aside0.mk A140
      clear A140
      by_cases c15 : (!(t208 == t210) || (!(t209 == t211))) = true
      · rw [if_pos c15] at H
        exact absurd H (by simp)
      · rw [if_neg c15] at H
        have c15b0 : (!(t208 == t210) || (!(t209 == t211))) = false := by simpa using c15
        clear c15
        replace H := Option.bind_eq_some_iff.mp H
        obtain ⟨⟨t212, t213⟩, A160, H⟩ := H
        replace H : ((word_Shr.f t212 t213 t198).bind fun bt214 => ((word_Mask.f t198).bind fun bt216 => ((word_Not.f bt216.1 bt216.2).bind fun bt218 => ((word_And.f a0_0 a0_1 bt218.1 bt218.2).bind fun bt220 => (if (!(bt214.1 == bt220.1) || (!(bt214.2 == bt220.2))) = true then (none) else ((word_Shr.f a0_0 a0_1 t198).bind fun bt222 => ((word_Shl.f bt222.1 bt222.2 t198).bind fun bt224 => ((word_Mask.f (wrap64 (128 - t198))).bind fun bt226 => ((word_And.f a0_0 a0_1 bt226.1 bt226.2).bind fun bt228 => (if (!(bt224.1 == bt228.1) || (!(bt224.2 == bt228.2))) = true then (none) else ((word_Add.f a0_0 a0_1 a0_0 a0_1).bind fun bt230 => ((word_Shl.f a0_0 a0_1 1).bind fun bt234 => (if (bt230.1 == bt234.1 && (bt230.2.1 == bt234.2)) = true then ((word_Bit.f k a0_0 a0_1 0).bind fun t236 => (if (bt230.2.2 == (t236 == 1)) = true then ((word_Shl.f a0_0 a0_1 (wrap64 (-t198))).bind fun bt237 => (some (bt237.1 == a0_0 && (bt237.2 == a0_1)))) else (none))) else (none)))))))))))))) = some r := H
        have A16 := Aside0.mk A160
        clear A160
        replace H := Option.bind_eq_some_iff.mp H
        obtain ⟨⟨t214, t215⟩, A170, H⟩ := H
        replace H : ((word_Mask.f t198).bind fun bt216 => ((word_Not.f bt216.1 bt216.2).bind fun bt218 => ((word_And.f a0_0 a0_1 bt218.1 bt218.2).bind fun bt220 => (if (!(t214 == bt220.1) || (!(t215 == bt220.2))) = true then (none) else ((word_Shr.f a0_0 a0_1 t198).bind fun bt222 => ((word_Shl.f bt222.1 bt222.2 t198).bind fun bt224 => ((word_Mask.f (wrap64 (128 - t198))).bind fun bt226 => ((word_And.f a0_0 a0_1 bt226.1 bt226.2).bind fun bt228 => (if (!(bt224.1 == bt228.1) || (!(bt224.2 == bt228.2))) = true then (none) else ((word_Add.f a0_0 a0_1 a0_0 a0_1).bind fun bt230 => ((word_Shl.f a0_0 a0_1 1).bind fun bt234 => (if (bt230.1 == bt234.1 && (bt230.2.1 == bt234.2)) = true then ((word_Bit.f k a0_0 a0_1 0).bind fun t236 => (if (bt230.2.2 == (t236 == 1)) = true then ((word_Shl.f a0_0 a0_1 (wrap64 (-t198))).bind fun bt237 => (some (bt237.1 == a0_0 && (bt237.2 == a0_1)))) else (none))) else (none))))))))))))) = some r := H
        have A17 := Aside0.mk A170
        clear A170
        replace H := Option.bind_eq_some_iff.mp H
        obtain ⟨⟨t216, t217⟩, A180, H⟩ := H
        replace H : ((word_Not.f t216 t217).bind fun bt218 => ((word_And.f a0_0 a0_1 bt218.1 bt218.2).bind fun bt220 => (if (!(t214 == bt220.1) || (!(t215 == bt220.2))) = true then (none) else ((word_Shr.f a0_0 a0_1 t198).bind fun bt222 => ((word_Shl.f bt222.1 bt222.2 t198).bind fun bt224 => ((word_Mask.f (wrap64 (128 - t198))).bind fun bt226 => ((word_And.f a0_0 a0_1 bt226.1 bt226.2).bind fun bt228 => (if (!(bt224.1 == bt228.1) || (!(bt224.2 == bt228.2))) = true then (none) else ((word_Add.f a0_0 a0_1 a0_0 a0_1).bind fun bt230 => ((word_Shl.f a0_0 a0_1 1).bind fun bt234 => (if (bt230.1 == bt234.1 && (bt230.2.1 == bt234.2)) = true then ((word_Bit.f k a0_0 a0_1 0).bind fun t236 => (if (bt230.2.2 == (t236 == 1)) = true then ((word_Shl.f a0_0 a0_1 (wrap64 (-t198))).bind fun bt237 => (some (bt237.1 == a0_0 && (bt237.2 == a0_1)))) else (none))) else (none)))))))))))) = some r := H
        have A18 := Aside0.mk A180
        clear A180
        replace H := Option.bind_eq_some_iff.mp H
        obtain ⟨⟨t218, t219⟩, A190, H⟩ := H
        replace H : ((word_And.f a0_0 a0_1 t218 t219).bind fun bt220 => (if (!(t214 == bt220.1) || (!(t215 == bt220.2))) = true then (none) else ((word_Shr.f a0_0 a0_1 t198).bind fun bt222 => ((word_Shl.f bt222.1 bt222.2 t198).bind fun bt224 => ((word_Mask.f (wrap64 (128 - t198))).bind fun bt226 => ((word_And.f a0_0 a0_1 bt226.1 bt226.2).bind fun bt228 => (if (!(bt224.1 == bt228.1) || (!(bt224.2 == bt228.2))) = true then (none) else ((word_Add.f a0_0 a0_1 a0_0 a0_1).bind fun bt230 => ((word_Shl.f a0_0 a0_1 1).bind fun bt234 => (if (bt230.1 == bt234.1 && (bt230.2.1 == bt234.2)) = true then ((word_Bit.f k a0_0 a0_1 0).bind fun t236 => (if (bt230.2.2 == (t236 == 1)) = true then ((word_Shl.f a0_0 a0_1 (wrap64 (-t198))).bind fun bt237 => (some (bt237.1 == a0_0 && (bt237.2 == a0_1)))) else (none))) else (none))))))))))) = some r := H
        have A19 := Aside0.mk A190
        clear A190
        replace H := Option.bind_eq_some_iff.mp H
        obtain ⟨⟨t220, t221⟩, A200, H⟩ := H
        replace H : (if (!(t214 == t220) || (!(t215 == t221))) = true then (none) else ((word_Shr.f a0_0 a0_1 t198).bind fun bt222 => ((word_Shl.f bt222.1 bt222.2 t198).bind fun bt224 => ((word_Mask.f (wrap64 (128 - t198))).bind fun bt226 => ((word_And.f a0_0 a0_1 bt226.1 bt226.2).bind fun bt228 => (if (!(bt224.1 == bt228.1) || (!(bt224.2 == bt228.2))) = true then (none) else ((word_Add.f a0_0 a0_1 a0_0 a0_1).bind fun bt230 => ((word_Shl.f a0_0 a0_1 1).bind fun bt234 => (if (bt230.1 == bt234.1 && (bt230.2.1 == bt234.2)) = true then ((word_Bit.f k a0_0 a0_1 0).bind fun t236 => (if (bt230.2.2 == (t236 == 1)) = true then ((word_Shl.f a0_0 a0_1 (wrap64 (-t198))).bind fun bt237 => (some (bt237.1 == a0_0 && (bt237.2 == a0_1)))) else (none))) else (none)))))))))) = some r := H
        have A20 := Aside0.mk A200
        clear A200
        by_cases c21 : (!(t214 == t220) || (!(t215 == t221))) = true
        · rw [if_pos c21] at H
          exact absurd H (by simp)
        · rw [if_neg c21] at H
          have c21b0 : (!(t214 == t220) || (!(t215 == t221))) = false := by simpa using c21
          clear c21
          replace H := Option.bind_eq_some_iff.mp H
          obtain ⟨⟨t222, t223⟩, A220, H⟩ := H
          replace H : ((word_Shl.f t222 t223 t198).bind fun bt224 => ((word_Mask.f (wrap64 (128 - t198))).bind fun bt226 => ((word_And.f a0_0 a0_1 bt226.1 bt226.2).bind fun bt228 => (if (!(bt224.1 == bt228.1) || (!(bt224.2 == bt228.2))) = true then (none) else ((word_Add.f a0_0 a0_1 a0_0 a0_1).bind fun bt230 => ((word_Shl.f a0_0 a0_1 1).bind fun bt234 => (if (bt230.1 == bt234.1 && (bt230.2.1 == bt234.2)) = true then ((word_Bit.f k a0_0 a0_1 0).bind fun t236 => (if (bt230.2.2 == (t236 == 1)) = true then ((word_Shl.f a0_0 a0_1 (wrap64 (-t198))).bind fun bt237 => (some (bt237.1 == a0_0 && (bt237.2 == a0_1)))) else (none))) else (none)))))))) = some r := H
          have A22 := Aside0.mk A220
          clear A220
          replace H := Option.bind_eq_some_iff.mp H
          obtain ⟨⟨t224, t225⟩, A230, H⟩ := H
          replace H : ((word_Mask.f (wrap64 (128 - t198))).bind fun bt226 => ((word_And.f a0_0 a0_1 bt226.1 bt226.2).bind fun bt228 => (if (!(t224 == bt228.1) || (!(t225 == bt228.2))) = true then (none) else ((word_Add.f a0_0 a0_1 a0_0 a0_1).bind fun bt230 => ((word_Shl.f a0_0 a0_1 1).bind fun bt234 => (if (bt230.1 == bt234.1 && (bt230.2.1 == bt234.2)) = true then ((word_Bit.f k a0_0 a0_1 0).bind fun t236 => (if (bt230.2.2 == (t236 == 1)) = true then ((word_Shl.f a0_0 a0_1 (wrap64 (-t198))).bind fun bt237 => (some (bt237.1 == a0_0 && (bt237.2 == a0_1)))) else (none))) else (none))))))) = some r := H
          have A23 := Aside0.mk A230
          clear A230
          replace H := Option.bind_eq_some_iff.mp H
          obtain ⟨⟨t226, t227⟩, A240, H⟩ := H
          replace H : ((word_And.f a0_0 a0_1 t226 t227).bind fun bt228 => (if (!(t224 == bt228.1) || (!(t225 == bt228.2))) = true then (none) else ((word_Add.f a0_0 a0_1 a0_0 a0_1).bind fun bt230 => ((word_Shl.f a0_0 a0_1 1).bind fun bt234 => (if (bt230.1 == bt234.1 && (bt230.2.1 == bt234.2)) = true then ((word_Bit.f k a0_0 a0_1 0).bind fun t236 => (if (bt230.2.2 == (t236 == 1)) = true then ((word_Shl.f a0_0 a0_1 (wrap64 (-t198))).bind fun bt237 => (some (bt237.1 == a0_0 && (bt237.2 == a0_1)))) else (none))) else (none)))))) = some r := H
          have A24 := Aside0.mk A240
          clear A240
          replace H := Option.bind_eq_some_iff.mp H
          obtain ⟨⟨t228, t229⟩, A250, H⟩ := H
          replace H : (if (!(t224 == t228) || (!(t225 == t229))) = true then (none) else ((word_Add.f a0_0 a0_1 a0_0 a0_1).bind fun bt230 => ((word_Shl.f a0_0 a0_1 1).bind fun bt234 => (if (bt230.1 == bt234.1 && (bt230.2.1 == bt234.2)) = true then ((word_Bit.f k a0_0 a0_1 0).bind fun t236 => (if (bt230.2.2 == (t236 == 1)) = true then ((word_Shl.f a0_0 a0_1 (wrap64 (-t198))).bind fun bt237 => (some (bt237.1 == a0_0 && (bt237.2 == a0_1)))) else (none))) else (none))))) = some r := H
          have A25 := Aside0.mk A250
          clear A250
          by_cases c26 : (!(t224 == t228) || (!(t225 == t229))) = true
          · rw [if_pos c26] at H
            exact absurd H (by simp)
          · rw [if_neg c26] at H
            have c26b0 : (!(t224 == t228) || (!(t225 == t229))) = false := by simpa using c26
            clear c26
            replace H := Option.bind_eq_some_iff.mp H
            obtain ⟨⟨t230, t231, t232⟩, A270, H⟩ := H
            replace H : ((word_Shl.f a0_0 a0_1 1).bind fun bt234 => (if (t230 == bt234.1 && (t231 == bt234.2)) = true then ((word_Bit.f k a0_0 a0_1 0).bind fun t236 => (if (t232 == (t236 == 1)) = true then ((word_Shl.f a0_0 a0_1 (wrap64 (-t198))).bind fun bt237 => (some (bt237.1 == a0_0 && (bt237.2 == a0_1)))) else (none))) else (none))) = some r := H
            have A27 := Aside0.mk A270
            clear A270
            replace H := Option.bind_eq_some_iff.mp H
            obtain ⟨⟨t234, t235⟩, A280, H⟩ := H
            replace H : (if (t230 == t234 && (t231 == t235)) = true then ((word_Bit.f k a0_0 a0_1 0).bind fun t236 => (if (t232 == (t236 == 1)) = true then ((word_Shl.f a0_0 a0_1 (wrap64 (-t198))).bind fun bt237 => (some (bt237.1 == a0_0 && (bt237.2 == a0_1)))) else (none))) else (none)) = some r := H
            have A28 := Aside0.mk A280
            clear A280
            by_cases c29 : (t230 == t234 && (t231 == t235)) = true
            · rw [if_pos c29] at H
              have c29b0 : (t230 == t234 && (t231 == t235)) = true := c29
              (try (have c29b1 : decide (t230 = t234 && (t231 == t235)) = true := by simpa using c29))
              (try (have c29b2 : (t230 == t234 && (t231 == t235)) = true := by simpa using c29))
              clear c29
              replace H := Option.bind_eq_some_iff.mp H
              obtain ⟨t236, A300, H⟩ := H
              replace H : (if (t232 == (t236 == 1)) = true then ((word_Shl.f a0_0 a0_1 (wrap64 (-t198))).bind fun bt237 => (some (bt237.1 == a0_0 && (bt237.2 == a0_1)))) else (none)) = some r := H
              have A30 := Aside0.mk A300
              clear A300
              by_cases c31 : (t232 == (t236 == 1)) = true
              · rw [if_pos c31] at H
                have c31b0 : (t232 == (t236 == 1)) = true := c31
                (try (have c31b1 : decide (t232 = (t236 == 1)) = true := by simpa using c31))
                (try (have c31b2 : (t232 == (t236 == 1)) = true := by simpa using c31))
                clear c31
                replace H := Option.bind_eq_some_iff.mp H
                obtain ⟨⟨t237, t238⟩, A320, H⟩ := H
                replace H : (some (t237 == a0_0 && (t238 == a0_1))) = some r := H
                have A32 := Aside0.mk A320
                clear A320
                obtain rfl := Option.some.inj H
                go_enter Try.func5, Try.ntmps5
                try go_wp2_with (first | ((with_reducible refine gate_dst (N := 3) rfl ?_); refine box_event ?hg (N := 3) ?hd (cs := #[.int .u64 a0_0, .int .u64 a0_1]) (t := 24) ?hr ?_; (case hd => rfl); (case hg => rfl); (case hr => first | (go_simp; done) | (go_simp; rfl)); intro gb196 hg w33 hbox hb; have n0_ := Aside0.mk (below_step (by repeat (first | (with_reducible first | exact HB.out | apply below_alloc | apply pw_below_drewN | apply below_drew1) | exact HB.out)) hb); have n1_ := Aside0.mk (hbox); have n2_ := Aside0.mk ((by rw [hg]; exact (below_size (by repeat (first | (with_reducible first | exact HB.out | apply below_alloc | apply pw_below_drewN | apply below_drew1) | exact HB.out))) : w.heap.size ≤ gb196)); have n3_ := Aside0.mk ((by rw [hg]; exact (below_size (by repeat (first | (with_reducible first | exact HB.out | apply below_alloc | apply pw_below_drewN | apply below_drew1) | exact HB.out))) : w.heap.size ≤ gb196)); clear HB; have HB := n0_; have BK196 := n1_; have GW196 := n2_; have GE196 := n3_; clear n0_ n1_ n2_ n3_; clear hb hbox hg) | ((with_reducible refine gate_callee (f := 11) rfl ?_); refine goesL_ (some 9) rfl rfl Try.func11 (by kernel_rfl) rfl #[] rfl (by (try simp only [List.map_toArray, List.map_cons, List.map_nil]); first | done | rfl | (simp only [List.length_drop, List.length_take]; rfl)) ?_; (with_reducible refine (turnpikelaw1_known.calls  true _ A4.out).mono ?_); rintro e w34 ⟨rfl, hb⟩; refine ⟨_, rfl, ?_⟩; have n0_ := Aside0.mk (blk_below (g := gb196) (o := .cells #[.int .u64 a0_0, .int .u64 a0_1] 24 (0, 0)) (by (with_reducible repeat (first | refine blk_drewN ?_ _ | refine blk_drew ?_ | refine blk_alloc ?_ _)); exact BK196.out) hb); have n1_ := Aside0.mk (below_step (by repeat (first | (with_reducible first | exact HB.out | apply below_alloc | apply pw_below_drewN | apply below_drew1 | refine below_set ?_ GE196.out) | exact HB.out)) hb); clear BK196; clear HB; have BK196 := n0_; have HB := n1_; clear n0_ n1_; (try clear hb); (try clear hb2); (try clear hk); (try clear hi)) | ((with_reducible refine gate_callee (f := 28) rfl ?_); refine goesL_ (some 12) rfl rfl Try.func28 (by kernel_rfl) rfl #[.int .i64 a1, .int .i64 140] rfl (by (try simp only [List.map_toArray, List.map_cons, List.map_nil]); first | done | rfl | (simp only [List.length_drop, List.length_take]; rfl)) ?_; (with_reducible refine (turnpikelaw1_within.calls a1 140 t198 _ A6.out).mono ?_); rintro e w' ⟨rfl, ⟨nd, rfl⟩⟩; refine ⟨_, rfl, ?_⟩; (try (rw [drewN_self w34]; generalize hq_ : World.drewN w34 _ = w34; have n0_ : Aside0 (w34.heap[gb196]? = some (.cells #[.int .u64 a0_0, .int .u64 a0_1] 24 (0, 0))) := ⟨by rw [← hq_]; exact (by (with_reducible repeat (first | refine blk_drewN ?_ _ | refine blk_drew ?_ | refine blk_alloc ?_ _)); exact BK196.out)⟩; have n1_ : Aside0 (Below w.heap.size w w34) := ⟨by rw [← hq_]; exact (by repeat (first | (with_reducible first | exact HB.out | apply below_alloc | apply pw_below_drewN | apply below_drew1 | refine below_set ?_ GE196.out) | exact HB.out))⟩; clear BK196 HB hq_; have BK196 := n0_; have HB := n1_; clear n0_ n1_))) | ((with_reducible refine gate_callee (f := 28) rfl ?_); refine goesL_ (some 14) rfl rfl Try.func28 (by kernel_rfl) rfl #[.int .i64 a2, .int .i64 140] rfl (by (try simp only [List.map_toArray, List.map_cons, List.map_nil]); first | done | rfl | (simp only [List.length_drop, List.length_take]; rfl)) ?_; (with_reducible refine (turnpikelaw1_within.calls a2 140 t199 _ A7.out).mono ?_); rintro e w' ⟨rfl, ⟨nd, rfl⟩⟩; refine ⟨_, rfl, ?_⟩; (try (rw [drewN_self w34]; generalize hq_ : World.drewN w34 _ = w34; have n0_ : Aside0 (w34.heap[gb196]? = some (.cells #[.int .u64 a0_0, .int .u64 a0_1] 24 (0, 0))) := ⟨by rw [← hq_]; exact (by (with_reducible repeat (first | refine blk_drewN ?_ _ | refine blk_drew ?_ | refine blk_alloc ?_ _)); exact BK196.out)⟩; have n1_ : Aside0 (Below w.heap.size w w34) := ⟨by rw [← hq_]; exact (by repeat (first | (with_reducible first | exact HB.out | apply below_alloc | apply pw_below_drewN | apply below_drew1 | refine below_set ?_ GE196.out) | exact HB.out))⟩; clear BK196 HB hq_; have BK196 := n0_; have HB := n1_; clear n0_ n1_))))
                have n0_ := Aside0.mk (blk_drew BK196.out)
                have n1_ := Aside0.mk (below_drew1 HB.out)
                clear BK196
                clear HB
                have BK196 := n0_
                have HB := n1_
                clear n0_ n1_
                refine start_ (n := 24) (S := fun w' => w'.cell? ⟨gb196, 0, none⟩ = some (.int .u64 a0_0) ∧ w'.cell? ⟨gb196, 1, none⟩ = some (.int .u64 a0_1)) (ds := []) #[false, false, false, false, false, false, false, false, false, false, false, false, false, false, false, false, false, false, false, false, false, false, false, false] (by kernel_rfl) rfl rfl ⟨(blk_cell BK196.out 0).trans rfl, (blk_cell BK196.out 1).trans rfl⟩ (fun hHeld => ?_); refine with_tabW turnpikelaw1_WordShifts.tab5 turnpikelaw1_WordShifts.bits5 (fun HT_ HW_ => ?_)
                generalize w34.drew = w35 at BK196 HB hHeld ⊢
                refine pure_ (i := 1) (N := some 16) (v := ?_) (a' := ?_) #[false, true, false, false, false, false, false, false, false, false, false, false, false, false, false, false, false, false, false, false, false, false, false, false] rfl rfl (any_of HT_.out (by kernel_rfl)) (fun _ _ _ h => h) (Or.inl ⟨by rfl, ?_⟩) ?_ ?_
                rotate_left
                · intro w'
                  go_simp
                  with_reducible rfl
                rotate_left
                · simp only [Act.put, List.setIfInBounds_toArray, List.set_cons_zero, List.set_cons_succ, i64_w, i32_w]
                  rfl
                refine pure_ (i := 3) (N := some 18) (v := ?_) (a' := ?_) #[false, true, false, true, false, false, false, false, false, false, false, false, false, false, false, false, false, false, false, false, false, false, false, false] rfl rfl (any_of HT_.out (by kernel_rfl)) (fun _ _ _ h => h) (Or.inl ⟨by rfl, ?_⟩) ?_ ?_
                rotate_left
                · intro w'
                  go_simp
                  with_reducible rfl
                rotate_left
                · simp only [Act.put, List.setIfInBounds_toArray, List.set_cons_zero, List.set_cons_succ, i64_w, i32_w]
                  rfl
                refine pure_ (i := 6) (N := some 21) (v := ?_) (a' := ?_) #[false, true, false, true, false, false, true, false, false, false, false, false, false, false, false, false, false, false, false, false, false, false, false, false] rfl rfl (any_of HT_.out (by kernel_rfl)) (fun _ _ _ h => h) (Or.inl ⟨by rfl, ?_⟩) ?_ ?_
                rotate_left
                · intro w'
                  go_simp
                  with_reducible rfl
                rotate_left
                · simp only [Act.put, List.setIfInBounds_toArray, List.set_cons_zero, List.set_cons_succ, i64_w, i32_w]
                  rfl
                refine pure_ (i := 7) (N := some 22) (v := ?_) (a' := ?_) #[false, true, false, true, false, false, true, true, false, false, false, false, false, false, false, false, false, false, false, false, false, false, false, false] rfl rfl (any_of HT_.out (by kernel_rfl)) (fun _ _ _ h => h) (Or.inl ⟨by rfl, ?_⟩) ?_ ?_
                rotate_left
                · intro w'
                  go_simp
                  with_reducible rfl
                rotate_left
                · simp only [Act.put, List.setIfInBounds_toArray, List.set_cons_zero, List.set_cons_succ, i64_w, i32_w]
                  rfl
                refine pure_ (i := 8) (N := some 23) (v := ?_) (a' := ?_) #[false, true, false, true, false, false, true, true, true, false, false, false, false, false, false, false, false, false, false, false, false, false, false, false] rfl rfl (any_of HT_.out (by kernel_rfl)) (fun _ _ _ h => h) (Or.inl ⟨by rfl, ?_⟩) ?_ ?_
                rotate_left
                · intro w'
                  go_simp
                  with_reducible rfl
                rotate_left
                · simp only [Act.put, List.setIfInBounds_toArray, List.set_cons_zero, List.set_cons_succ, i64_w, i32_w]
                  rfl
                refine take_ (i := 0) (N := some 15) (v := ?_) (a' := ?_) #[true, true, false, true, false, false, true, true, true, false, false, false, false, false, false, false, false, false, false, false, false, false, false, false] rfl rfl (take_ofW HT_.out HW_.out (by kernel_rfl)) (fun _ _ _ h => h) (Or.inl ⟨by rfl, ?_⟩) hHeld ?_ ?_
                rotate_left
                · rintro w' ⟨s0, s1⟩
                  go_simp
                  with_reducible rfl
                rotate_left
                · simp only [Act.put, List.setIfInBounds_toArray, List.set_cons_zero, List.set_cons_succ, i64_w, i32_w]
                  rfl
                refine take_ (i := 5) (N := some 20) (v := ?_) (a' := ?_) #[true, true, false, true, false, true, true, true, true, false, false, false, false, false, false, false, false, false, false, false, false, false, false, false] rfl rfl (take_ofW HT_.out HW_.out (by kernel_rfl)) (fun _ _ _ h => h) (Or.inl ⟨by rfl, ?_⟩) hHeld ?_ ?_
                rotate_left
                · rintro w' ⟨s0, s1⟩
                  go_simp
                  with_reducible rfl
                rotate_left
                · simp only [Act.put, List.setIfInBounds_toArray, List.set_cons_zero, List.set_cons_succ, i64_w, i32_w]
                  rfl
                refine one_ (i := 2) (N := some 17) #[true, true, true, true, false, true, true, true, true, false, false, false, false, false, false, false, false, false, false, false, false, false, false, false] rfl rfl (one_of HT_.out (by kernel_rfl)) (by decide) (fun K hK => ?_)
                refine goes_ Try.func20 (by kernel_rfl) rfl #[.agg #[.int .u64 a0_0, .int .u64 a0_1], .int .i64 t198] (by rfl) rfl rfl (by (try simp only [List.map_toArray, List.map_cons, List.map_nil]); first | done | rfl | (simp only [List.length_drop, List.length_take]; rfl)) ?_
                with_reducible refine (word_Shl.calls a0_0 a0_1 t198 t200 t201 _ A8.out).mono ?_
                rintro e w36 ⟨rfl, hb⟩
                refine ⟨_, rfl, ?_⟩
                have n0_ := Aside0.mk (blk_below (g := gb196) (o := .cells #[.int .u64 a0_0, .int .u64 a0_1] 24 (0, 0)) (by (with_reducible repeat (first | refine blk_drewN ?_ _ | refine blk_drew ?_ | refine blk_alloc ?_ _)); exact BK196.out) hb)
                have n1_ := Aside0.mk (below_step (by repeat (first | (with_reducible first | exact HB.out | apply below_alloc | apply pw_below_drewN | apply below_drew1 | refine below_set ?_ GE196.out) | exact HB.out)) hb)
                clear BK196
                clear HB
                have BK196 := n0_
                have HB := n1_
                clear n0_ n1_
                (try clear hb)
                (try clear hb2)
                (try clear hk)
                (try clear hi)
                refine hK.out _ _ ⟨(blk_cell BK196.out 0).trans rfl, (blk_cell BK196.out 1).trans rfl⟩ (fun hHeld => ?_)
                clear hK K
                refine norm_ (a' := ?_) ?_ ?_
                rotate_left
                · show Act.put _ (some 17) _ = _
                  simp only [Act.put, List.setIfInBounds_toArray, List.set_cons_zero, List.set_cons_succ, i64_w, i32_w]
                  rfl
                refine one_ (i := 4) (N := some 19) #[true, true, true, true, true, true, true, true, true, false, false, false, false, false, false, false, false, false, false, false, false, false, false, false] rfl rfl (one_of HT_.out (by kernel_rfl)) (by decide) (fun K hK => ?_)
                refine goes_ Try.func20 (by kernel_rfl) rfl #[.agg #[.int .u64 t200, .int .u64 t201], .int .i64 t199] (by rfl) rfl rfl (by (try simp only [List.map_toArray, List.map_cons, List.map_nil]); first | done | rfl | (simp only [List.length_drop, List.length_take]; rfl)) ?_
                with_reducible refine (word_Shl.calls t200 t201 t199 t202 t203 _ A9.out).mono ?_
                rintro e w37 ⟨rfl, hb⟩
                refine ⟨_, rfl, ?_⟩
                have n0_ := Aside0.mk (blk_below (g := gb196) (o := .cells #[.int .u64 a0_0, .int .u64 a0_1] 24 (0, 0)) (by (with_reducible repeat (first | refine blk_drewN ?_ _ | refine blk_drew ?_ | refine blk_alloc ?_ _)); exact BK196.out) hb)
                have n1_ := Aside0.mk (below_step (by repeat (first | (with_reducible first | exact HB.out | apply below_alloc | apply pw_below_drewN | apply below_drew1 | refine below_set ?_ GE196.out) | exact HB.out)) hb)
                clear BK196
                clear HB
                have BK196 := n0_
                have HB := n1_
                clear n0_ n1_
                (try clear hb)
                (try clear hb2)
                (try clear hk)
                (try clear hi)
                refine hK.out _ _ ⟨(blk_cell BK196.out 0).trans rfl, (blk_cell BK196.out 1).trans rfl⟩ (fun hHeld => ?_)
                clear hK K
                refine norm_ (a' := ?_) ?_ ?_
                rotate_left
                · show Act.put _ (some 19) _ = _
                  simp only [Act.put, List.setIfInBounds_toArray, List.set_cons_zero, List.set_cons_succ, i64_w, i32_w]
                  rfl
                refine one_ (i := 9) (N := some 24) #[true, true, true, true, true, true, true, true, true, true, false, false, false, false, false, false, false, false, false, false, false, false, false, false] rfl rfl (one_of HT_.out (by kernel_rfl)) (by decide) (fun K hK => ?_)
                refine goes_ Try.func20 (by kernel_rfl) rfl #[.agg #[.int .u64 a0_0, .int .u64 a0_1], .int .i64 (wrap64 (t198 + t199))] (by rfl) rfl rfl (by (try simp only [List.map_toArray, List.map_cons, List.map_nil]); first | done | rfl | (simp only [List.length_drop, List.length_take]; rfl)) ?_
                with_reducible refine (word_Shl.calls a0_0 a0_1 (wrap64 (t198 + t199)) t204 t205 _ A10.out).mono ?_
                rintro e w38 ⟨rfl, hb⟩
                refine ⟨_, rfl, ?_⟩
                have n0_ := Aside0.mk (blk_below (g := gb196) (o := .cells #[.int .u64 a0_0, .int .u64 a0_1] 24 (0, 0)) (by (with_reducible repeat (first | refine blk_drewN ?_ _ | refine blk_drew ?_ | refine blk_alloc ?_ _)); exact BK196.out) hb)
                have n1_ := Aside0.mk (below_step (by repeat (first | (with_reducible first | exact HB.out | apply below_alloc | apply pw_below_drewN | apply below_drew1 | refine below_set ?_ GE196.out) | exact HB.out)) hb)
                clear BK196
                clear HB
                have BK196 := n0_
                have HB := n1_
                clear n0_ n1_
                (try clear hb)
                (try clear hb2)
                (try clear hk)
                (try clear hi)
                refine hK.out _ _ ⟨(blk_cell BK196.out 0).trans rfl, (blk_cell BK196.out 1).trans rfl⟩ (fun hHeld => ?_)
                clear hK K
                refine norm_ (a' := ?_) ?_ ?_
                rotate_left
                · show Act.put _ (some 24) _ = _
                  simp only [Act.put, List.setIfInBounds_toArray, List.set_cons_zero, List.set_cons_succ, i64_w, i32_w]
                  rfl
                refine pure_ (i := 10) (N := some 25) (v := ?_) (a' := ?_) #[true, true, true, true, true, true, true, true, true, true, true, false, false, false, false, false, false, false, false, false, false, false, false, false] rfl rfl (any_of HT_.out (by kernel_rfl)) (fun _ _ _ h => h) (Or.inl ⟨by rfl, ?_⟩) ?_ ?_
                rotate_left
                · intro w'
                  go_simp
                  with_reducible rfl
                rotate_left
                · simp only [Act.put, List.setIfInBounds_toArray, List.set_cons_zero, List.set_cons_succ, i64_w, i32_w]
                  rfl
                refine pure_ (i := 11) (N := some 26) (v := ?_) (a' := ?_) #[true, true, true, true, true, true, true, true, true, true, true, true, false, false, false, false, false, false, false, false, false, false, false, false] rfl rfl (any_of HT_.out (by kernel_rfl)) (fun _ _ _ h => h) (Or.inl ⟨by rfl, ?_⟩) ?_ ?_
                rotate_left
                · intro w'
                  go_simp
                  with_reducible rfl
                rotate_left
                · simp only [Act.put, List.setIfInBounds_toArray, List.set_cons_zero, List.set_cons_succ, i64_w, i32_w]
                  rfl
                refine pure_ (i := 13) (N := some 28) (v := ?_) (a' := ?_) #[true, true, true, true, true, true, true, true, true, true, true, true, false, true, false, false, false, false, false, false, false, false, false, false] rfl rfl (any_of HT_.out (by kernel_rfl)) (fun _ _ _ h => h) (Or.inl ⟨by rfl, ?_⟩) ?_ ?_
                rotate_left
                · intro w'
                  go_simp
                  with_reducible rfl
                rotate_left
                · simp only [Act.put, List.setIfInBounds_toArray, List.set_cons_zero, List.set_cons_succ, i64_w, i32_w]
                  rfl
                refine pure_ (i := 15) (N := some 30) (v := ?_) (a' := ?_) #[true, true, true, true, true, true, true, true, true, true, true, true, false, true, false, true, false, false, false, false, false, false, false, false] rfl rfl (any_of HT_.out (by kernel_rfl)) (fun _ _ _ h => h) (Or.inl ⟨by rfl, ?_⟩) ?_ ?_
                rotate_left
                · intro w'
                  go_simp
                  with_reducible rfl
                rotate_left
                · simp only [Act.put, List.setIfInBounds_toArray, List.set_cons_zero, List.set_cons_succ, i64_w, i32_w]
                  rfl
                refine pure_ (i := 18) (N := some 33) (v := ?_) (a' := ?_) #[true, true, true, true, true, true, true, true, true, true, true, true, false, true, false, true, false, false, true, false, false, false, false, false] rfl rfl (any_of HT_.out (by kernel_rfl)) (fun _ _ _ h => h) (Or.inl ⟨by rfl, ?_⟩) ?_ ?_
                rotate_left
                · intro w'
                  go_simp
                  with_reducible rfl
                rotate_left
                · simp only [Act.put, List.setIfInBounds_toArray, List.set_cons_zero, List.set_cons_succ, i64_w, i32_w]
                  rfl
                refine pure_ (i := 19) (N := some 34) (v := ?_) (a' := ?_) #[true, true, true, true, true, true, true, true, true, true, true, true, false, true, false, true, false, false, true, true, false, false, false, false] rfl rfl (any_of HT_.out (by kernel_rfl)) (fun _ _ _ h => h) (Or.inl ⟨by rfl, ?_⟩) ?_ ?_
                rotate_left
                · intro w'
                  go_simp
                  with_reducible rfl
                rotate_left
                · simp only [Act.put, List.setIfInBounds_toArray, List.set_cons_zero, List.set_cons_succ, i64_w, i32_w]
                  rfl
                refine pure_ (i := 20) (N := some 35) (v := ?_) (a' := ?_) #[true, true, true, true, true, true, true, true, true, true, true, true, false, true, false, true, false, false, true, true, true, false, false, false] rfl rfl (any_of HT_.out (by kernel_rfl)) (fun _ _ _ h => h) (Or.inl ⟨by rfl, ?_⟩) ?_ ?_
                rotate_left
                · intro w'
                  go_simp
                  with_reducible rfl
                rotate_left
                · simp only [Act.put, List.setIfInBounds_toArray, List.set_cons_zero, List.set_cons_succ, i64_w, i32_w]
                  rfl
                refine take_ (i := 12) (N := some 27) (v := ?_) (a' := ?_) #[true, true, true, true, true, true, true, true, true, true, true, true, true, true, false, true, false, false, true, true, true, false, false, false] rfl rfl (take_ofW HT_.out HW_.out (by kernel_rfl)) (fun _ _ _ h => h) (Or.inl ⟨by rfl, ?_⟩) hHeld ?_ ?_
                rotate_left
                · rintro w' ⟨s0, s1⟩
                  go_simp
                  with_reducible rfl
                rotate_left
                · simp only [Act.put, List.setIfInBounds_toArray, List.set_cons_zero, List.set_cons_succ, i64_w, i32_w]
                  rfl
                refine take_ (i := 17) (N := some 32) (v := ?_) (a' := ?_) #[true, true, true, true, true, true, true, true, true, true, true, true, true, true, false, true, false, true, true, true, true, false, false, false] rfl rfl (take_ofW HT_.out HW_.out (by kernel_rfl)) (fun _ _ _ h => h) (Or.inl ⟨by rfl, ?_⟩) hHeld ?_ ?_
                rotate_left
                · rintro w' ⟨s0, s1⟩
                  go_simp
                  with_reducible rfl
                rotate_left
                · simp only [Act.put, List.setIfInBounds_toArray, List.set_cons_zero, List.set_cons_succ, i64_w, i32_w]
                  rfl
                refine one_ (i := 14) (N := some 29) #[true, true, true, true, true, true, true, true, true, true, true, true, true, true, true, true, false, true, true, true, true, false, false, false] rfl rfl (one_of HT_.out (by kernel_rfl)) (by decide) (fun K hK => ?_)
                refine goes_ Try.func22 (by kernel_rfl) rfl #[.agg #[.int .u64 a0_0, .int .u64 a0_1], .int .i64 t198] (by rfl) rfl rfl (by (try simp only [List.map_toArray, List.map_cons, List.map_nil]); first | done | rfl | (simp only [List.length_drop, List.length_take]; rfl)) ?_
                with_reducible refine (word_Shr.calls a0_0 a0_1 t198 t206 t207 _ A12.out).mono ?_
                rintro e w39 ⟨rfl, hb⟩
                refine ⟨_, rfl, ?_⟩
                have n0_ := Aside0.mk (blk_below (g := gb196) (o := .cells #[.int .u64 a0_0, .int .u64 a0_1] 24 (0, 0)) (by (with_reducible repeat (first | refine blk_drewN ?_ _ | refine blk_drew ?_ | refine blk_alloc ?_ _)); exact BK196.out) hb)
                have n1_ := Aside0.mk (below_step (by repeat (first | (with_reducible first | exact HB.out | apply below_alloc | apply pw_below_drewN | apply below_drew1 | refine below_set ?_ GE196.out) | exact HB.out)) hb)
                clear BK196
                clear HB
                have BK196 := n0_
                have HB := n1_
                clear n0_ n1_
                (try clear hb)
                (try clear hb2)
                (try clear hk)
                (try clear hi)
                refine hK.out _ _ ⟨(blk_cell BK196.out 0).trans rfl, (blk_cell BK196.out 1).trans rfl⟩ (fun hHeld => ?_)
                clear hK K
                refine norm_ (a' := ?_) ?_ ?_
                rotate_left
                · show Act.put _ (some 29) _ = _
                  simp only [Act.put, List.setIfInBounds_toArray, List.set_cons_zero, List.set_cons_succ, i64_w, i32_w]
                  rfl
                refine one_ (i := 16) (N := some 31) #[true, true, true, true, true, true, true, true, true, true, true, true, true, true, true, true, true, true, true, true, true, false, false, false] rfl rfl (one_of HT_.out (by kernel_rfl)) (by decide) (fun K hK => ?_)
                refine goes_ Try.func22 (by kernel_rfl) rfl #[.agg #[.int .u64 t206, .int .u64 t207], .int .i64 t199] (by rfl) rfl rfl (by (try simp only [List.map_toArray, List.map_cons, List.map_nil]); first | done | rfl | (simp only [List.length_drop, List.length_take]; rfl)) ?_
                with_reducible refine (word_Shr.calls t206 t207 t199 t208 t209 _ A13.out).mono ?_
                rintro e w40 ⟨rfl, hb⟩
                refine ⟨_, rfl, ?_⟩
                have n0_ := Aside0.mk (blk_below (g := gb196) (o := .cells #[.int .u64 a0_0, .int .u64 a0_1] 24 (0, 0)) (by (with_reducible repeat (first | refine blk_drewN ?_ _ | refine blk_drew ?_ | refine blk_alloc ?_ _)); exact BK196.out) hb)
                have n1_ := Aside0.mk (below_step (by repeat (first | (with_reducible first | exact HB.out | apply below_alloc | apply pw_below_drewN | apply below_drew1 | refine below_set ?_ GE196.out) | exact HB.out)) hb)
                clear BK196
                clear HB
                have BK196 := n0_
                have HB := n1_
                clear n0_ n1_
                (try clear hb)
                (try clear hb2)
                (try clear hk)
                (try clear hi)
                refine hK.out _ _ ⟨(blk_cell BK196.out 0).trans rfl, (blk_cell BK196.out 1).trans rfl⟩ (fun hHeld => ?_)
                clear hK K
                refine norm_ (a' := ?_) ?_ ?_
                rotate_left
                · show Act.put _ (some 31) _ = _
                  simp only [Act.put, List.setIfInBounds_toArray, List.set_cons_zero, List.set_cons_succ, i64_w, i32_w]
                  rfl
                refine one_ (i := 21) (N := some 36) #[true, true, true, true, true, true, true, true, true, true, true, true, true, true, true, true, true, true, true, true, true, true, false, false] rfl rfl (one_of HT_.out (by kernel_rfl)) (by decide) (fun K hK => ?_)
                refine goes_ Try.func22 (by kernel_rfl) rfl #[.agg #[.int .u64 a0_0, .int .u64 a0_1], .int .i64 (wrap64 (t198 + t199))] (by rfl) rfl rfl (by (try simp only [List.map_toArray, List.map_cons, List.map_nil]); first | done | rfl | (simp only [List.length_drop, List.length_take]; rfl)) ?_
                with_reducible refine (word_Shr.calls a0_0 a0_1 (wrap64 (t198 + t199)) t210 t211 _ A14.out).mono ?_
                rintro e w41 ⟨rfl, hb⟩
                refine ⟨_, rfl, ?_⟩
                have n0_ := Aside0.mk (blk_below (g := gb196) (o := .cells #[.int .u64 a0_0, .int .u64 a0_1] 24 (0, 0)) (by (with_reducible repeat (first | refine blk_drewN ?_ _ | refine blk_drew ?_ | refine blk_alloc ?_ _)); exact BK196.out) hb)
                have n1_ := Aside0.mk (below_step (by repeat (first | (with_reducible first | exact HB.out | apply below_alloc | apply pw_below_drewN | apply below_drew1 | refine below_set ?_ GE196.out) | exact HB.out)) hb)
                clear BK196
                clear HB
                have BK196 := n0_
                have HB := n1_
                clear n0_ n1_
                (try clear hb)
                (try clear hb2)
                (try clear hk)
                (try clear hi)
                refine hK.out _ _ ⟨(blk_cell BK196.out 0).trans rfl, (blk_cell BK196.out 1).trans rfl⟩ (fun hHeld => ?_)
                clear hK K
                refine norm_ (a' := ?_) ?_ ?_
                rotate_left
                · show Act.put _ (some 36) _ = _
                  simp only [Act.put, List.setIfInBounds_toArray, List.set_cons_zero, List.set_cons_succ, i64_w, i32_w]
                  rfl
                refine pure_ (i := 22) (N := some 37) (v := ?_) (a' := ?_) #[true, true, true, true, true, true, true, true, true, true, true, true, true, true, true, true, true, true, true, true, true, true, true, false] rfl rfl (any_of HT_.out (by kernel_rfl)) (fun _ _ _ h => h) (Or.inl ⟨by rfl, ?_⟩) ?_ ?_
                rotate_left
                · intro w'
                  go_simp
                  with_reducible rfl
                rotate_left
                · simp only [Act.put, List.setIfInBounds_toArray, List.set_cons_zero, List.set_cons_succ, i64_w, i32_w]
                  rfl
                refine pure_ (i := 23) (N := some 38) (v := ?_) (a' := ?_) #[true, true, true, true, true, true, true, true, true, true, true, true, true, true, true, true, true, true, true, true, true, true, true, true] rfl rfl (any_of HT_.out (by kernel_rfl)) (fun _ _ _ h => h) (Or.inl ⟨by rfl, ?_⟩) ?_ ?_
                rotate_left
                · intro w'
                  go_simp
                  with_reducible rfl
                rotate_left
                · simp only [Act.put, List.setIfInBounds_toArray, List.set_cons_zero, List.set_cons_succ, i64_w, i32_w]
                  rfl
                refine done_ (done_of HT_.out (by kernel_rfl)) ?_
                try go_wp2
                have n0_ := Aside0.mk (blk_drew BK196.out)
                have n1_ := Aside0.mk (below_drew1 HB.out)
                clear BK196
                clear HB
                have BK196 := n0_
                have HB := n1_
                clear n0_ n1_
                refine start_ (n := 24) (S := fun w' => w'.cell? ⟨gb196, 0, none⟩ = some (.int .u64 a0_0) ∧ w'.cell? ⟨gb196, 1, none⟩ = some (.int .u64 a0_1)) (ds := []) #[false, false, false, false, false, false, false, false, false, false, false, false, false, false, false, false, false, false, false, false, false, false, false, false] (by kernel_rfl) rfl rfl ⟨(blk_cell BK196.out 0).trans rfl, (blk_cell BK196.out 1).trans rfl⟩ (fun hHeld => ?_); refine with_tabW turnpikelaw1_WordShifts.tab7 turnpikelaw1_WordShifts.bits7 (fun HT_ HW_ => ?_)
                generalize w41.drew = w42 at BK196 HB hHeld ⊢
                refine pure_ (i := 1) (N := some 40) (v := ?_) (a' := ?_) #[false, true, false, false, false, false, false, false, false, false, false, false, false, false, false, false, false, false, false, false, false, false, false, false] rfl rfl (any_of HT_.out (by kernel_rfl)) (fun _ _ _ h => h) (Or.inl ⟨by rfl, ?_⟩) ?_ ?_
                rotate_left
                · intro w'
                  go_simp
                  with_reducible rfl
                rotate_left
                · simp only [Act.put, List.setIfInBounds_toArray, List.set_cons_zero, List.set_cons_succ, i64_w, i32_w]
                  rfl
                refine pure_ (i := 3) (N := some 42) (v := ?_) (a' := ?_) #[false, true, false, true, false, false, false, false, false, false, false, false, false, false, false, false, false, false, false, false, false, false, false, false] rfl rfl (any_of HT_.out (by kernel_rfl)) (fun _ _ _ h => h) (Or.inl ⟨by rfl, ?_⟩) ?_ ?_
                rotate_left
                · intro w'
                  go_simp
                  with_reducible rfl
                rotate_left
                · simp only [Act.put, List.setIfInBounds_toArray, List.set_cons_zero, List.set_cons_succ, i64_w, i32_w]
                  rfl
                refine pure_ (i := 6) (N := some 45) (v := ?_) (a' := ?_) #[false, true, false, true, false, false, true, false, false, false, false, false, false, false, false, false, false, false, false, false, false, false, false, false] rfl rfl (any_of HT_.out (by kernel_rfl)) (fun _ _ _ h => h) (Or.inl ⟨by rfl, ?_⟩) ?_ ?_
                rotate_left
                · intro w'
                  go_simp
                  with_reducible rfl
                rotate_left
                · simp only [Act.put, List.setIfInBounds_toArray, List.set_cons_zero, List.set_cons_succ, i64_w, i32_w]
                  rfl
                refine take_ (i := 0) (N := some 39) (v := ?_) (a' := ?_) #[true, true, false, true, false, false, true, false, false, false, false, false, false, false, false, false, false, false, false, false, false, false, false, false] rfl rfl (take_ofW HT_.out HW_.out (by kernel_rfl)) (fun _ _ _ h => h) (Or.inl ⟨by rfl, ?_⟩) hHeld ?_ ?_
                rotate_left
                · rintro w' ⟨s0, s1⟩
                  go_simp
                  with_reducible rfl
                rotate_left
                · simp only [Act.put, List.setIfInBounds_toArray, List.set_cons_zero, List.set_cons_succ, i64_w, i32_w]
                  rfl
                refine take_ (i := 5) (N := some 44) (v := ?_) (a' := ?_) #[true, true, false, true, false, true, true, false, false, false, false, false, false, false, false, false, false, false, false, false, false, false, false, false] rfl rfl (take_ofW HT_.out HW_.out (by kernel_rfl)) (fun _ _ _ h => h) (Or.inl ⟨by rfl, ?_⟩) hHeld ?_ ?_
                rotate_left
                · rintro w' ⟨s0, s1⟩
                  go_simp
                  with_reducible rfl
                rotate_left
                · simp only [Act.put, List.setIfInBounds_toArray, List.set_cons_zero, List.set_cons_succ, i64_w, i32_w]
                  rfl
                refine one_ (i := 2) (N := some 41) #[true, true, true, true, false, true, true, false, false, false, false, false, false, false, false, false, false, false, false, false, false, false, false, false] rfl rfl (one_of HT_.out (by kernel_rfl)) (by decide) (fun K hK => ?_)
                refine goes_ Try.func20 (by kernel_rfl) rfl #[.agg #[.int .u64 a0_0, .int .u64 a0_1], .int .i64 t198] (by rfl) rfl rfl (by (try simp only [List.map_toArray, List.map_cons, List.map_nil]); first | done | rfl | (simp only [List.length_drop, List.length_take]; rfl)) ?_
                with_reducible refine (word_Shl.calls a0_0 a0_1 t198 t212 t213 _ A16.out).mono ?_
                rintro e w43 ⟨rfl, hb⟩
                refine ⟨_, rfl, ?_⟩
                have n0_ := Aside0.mk (blk_below (g := gb196) (o := .cells #[.int .u64 a0_0, .int .u64 a0_1] 24 (0, 0)) (by (with_reducible repeat (first | refine blk_drewN ?_ _ | refine blk_drew ?_ | refine blk_alloc ?_ _)); exact BK196.out) hb)
                have n1_ := Aside0.mk (below_step (by repeat (first | (with_reducible first | exact HB.out | apply below_alloc | apply pw_below_drewN | apply below_drew1 | refine below_set ?_ GE196.out) | exact HB.out)) hb)
                clear BK196
                clear HB
                have BK196 := n0_
                have HB := n1_
                clear n0_ n1_
                (try clear hb)
                (try clear hb2)
                (try clear hk)
                (try clear hi)
                refine hK.out _ _ ⟨(blk_cell BK196.out 0).trans rfl, (blk_cell BK196.out 1).trans rfl⟩ (fun hHeld => ?_)
                clear hK K
                refine norm_ (a' := ?_) ?_ ?_
                rotate_left
                · show Act.put _ (some 41) _ = _
                  simp only [Act.put, List.setIfInBounds_toArray, List.set_cons_zero, List.set_cons_succ, i64_w, i32_w]
                  rfl
                refine one_ (i := 4) (N := some 43) #[true, true, true, true, true, true, true, false, false, false, false, false, false, false, false, false, false, false, false, false, false, false, false, false] rfl rfl (one_of HT_.out (by kernel_rfl)) (by decide) (fun K hK => ?_)
                refine goes_ Try.func22 (by kernel_rfl) rfl #[.agg #[.int .u64 t212, .int .u64 t213], .int .i64 t198] (by rfl) rfl rfl (by (try simp only [List.map_toArray, List.map_cons, List.map_nil]); first | done | rfl | (simp only [List.length_drop, List.length_take]; rfl)) ?_
                with_reducible refine (word_Shr.calls t212 t213 t198 t214 t215 _ A17.out).mono ?_
                rintro e w44 ⟨rfl, hb⟩
                refine ⟨_, rfl, ?_⟩
                have n0_ := Aside0.mk (blk_below (g := gb196) (o := .cells #[.int .u64 a0_0, .int .u64 a0_1] 24 (0, 0)) (by (with_reducible repeat (first | refine blk_drewN ?_ _ | refine blk_drew ?_ | refine blk_alloc ?_ _)); exact BK196.out) hb)
                have n1_ := Aside0.mk (below_step (by repeat (first | (with_reducible first | exact HB.out | apply below_alloc | apply pw_below_drewN | apply below_drew1 | refine below_set ?_ GE196.out) | exact HB.out)) hb)
                clear BK196
                clear HB
                have BK196 := n0_
                have HB := n1_
                clear n0_ n1_
                (try clear hb)
                (try clear hb2)
                (try clear hk)
                (try clear hi)
                refine hK.out _ _ ⟨(blk_cell BK196.out 0).trans rfl, (blk_cell BK196.out 1).trans rfl⟩ (fun hHeld => ?_)
                clear hK K
                refine norm_ (a' := ?_) ?_ ?_
                rotate_left
                · show Act.put _ (some 43) _ = _
                  simp only [Act.put, List.setIfInBounds_toArray, List.set_cons_zero, List.set_cons_succ, i64_w, i32_w]
                  rfl
                refine one_ (i := 7) (N := some 46) #[true, true, true, true, true, true, true, true, false, false, false, false, false, false, false, false, false, false, false, false, false, false, false, false] rfl rfl (one_of HT_.out (by kernel_rfl)) (by decide) (fun K hK => ?_)
                refine goes_ Try.func26 (by kernel_rfl) rfl #[.int .i64 t198] (by rfl) rfl rfl (by (try simp only [List.map_toArray, List.map_cons, List.map_nil]); first | done | rfl | (simp only [List.length_drop, List.length_take]; rfl)) ?_
                with_reducible refine (word_Mask.calls t198 t216 t217 _ A18.out).mono ?_
                rintro e w45 ⟨rfl, hb⟩
                refine ⟨_, rfl, ?_⟩
                have n0_ := Aside0.mk (blk_below (g := gb196) (o := .cells #[.int .u64 a0_0, .int .u64 a0_1] 24 (0, 0)) (by (with_reducible repeat (first | refine blk_drewN ?_ _ | refine blk_drew ?_ | refine blk_alloc ?_ _)); exact BK196.out) hb)
                have n1_ := Aside0.mk (below_step (by repeat (first | (with_reducible first | exact HB.out | apply below_alloc | apply pw_below_drewN | apply below_drew1 | refine below_set ?_ GE196.out) | exact HB.out)) hb)
                clear BK196
                clear HB
                have BK196 := n0_
                have HB := n1_
                clear n0_ n1_
                (try clear hb)
                (try clear hb2)
                (try clear hk)
                (try clear hi)
                refine hK.out _ _ ⟨(blk_cell BK196.out 0).trans rfl, (blk_cell BK196.out 1).trans rfl⟩ (fun hHeld => ?_)
                clear hK K
                refine norm_ (a' := ?_) ?_ ?_
                rotate_left
                · show Act.put _ (some 46) _ = _
                  simp only [Act.put, List.setIfInBounds_toArray, List.set_cons_zero, List.set_cons_succ, i64_w, i32_w]
                  rfl
                refine one_ (i := 8) (N := some 47) #[true, true, true, true, true, true, true, true, true, false, false, false, false, false, false, false, false, false, false, false, false, false, false, false] rfl rfl (one_of HT_.out (by kernel_rfl)) (by decide) (fun K hK => ?_)
                refine goes_ Try.func18 (by kernel_rfl) rfl #[.agg #[.int .u64 t216, .int .u64 t217]] (by rfl) rfl rfl (by (try simp only [List.map_toArray, List.map_cons, List.map_nil]); first | done | rfl | (simp only [List.length_drop, List.length_take]; rfl)) ?_
                with_reducible refine (word_Not.calls t216 t217 t218 t219 _ A19.out).mono ?_
                rintro e w46 ⟨rfl, hb⟩
                refine ⟨_, rfl, ?_⟩
                have n0_ := Aside0.mk (blk_below (g := gb196) (o := .cells #[.int .u64 a0_0, .int .u64 a0_1] 24 (0, 0)) (by (with_reducible repeat (first | refine blk_drewN ?_ _ | refine blk_drew ?_ | refine blk_alloc ?_ _)); exact BK196.out) hb)
                have n1_ := Aside0.mk (below_step (by repeat (first | (with_reducible first | exact HB.out | apply below_alloc | apply pw_below_drewN | apply below_drew1 | refine below_set ?_ GE196.out) | exact HB.out)) hb)
                clear BK196
                clear HB
                have BK196 := n0_
                have HB := n1_
                clear n0_ n1_
                (try clear hb)
                (try clear hb2)
                (try clear hk)
                (try clear hi)
                refine hK.out _ _ ⟨(blk_cell BK196.out 0).trans rfl, (blk_cell BK196.out 1).trans rfl⟩ (fun hHeld => ?_)
                clear hK K
                refine norm_ (a' := ?_) ?_ ?_
                rotate_left
                · show Act.put _ (some 47) _ = _
                  simp only [Act.put, List.setIfInBounds_toArray, List.set_cons_zero, List.set_cons_succ, i64_w, i32_w]
                  rfl
                refine one_ (i := 9) (N := some 48) #[true, true, true, true, true, true, true, true, true, true, false, false, false, false, false, false, false, false, false, false, false, false, false, false] rfl rfl (one_of HT_.out (by kernel_rfl)) (by decide) (fun K hK => ?_)
                refine goes_ Try.func12 (by kernel_rfl) rfl #[.agg #[.int .u64 a0_0, .int .u64 a0_1], .agg #[.int .u64 t218, .int .u64 t219]] (by rfl) rfl rfl (by (try simp only [List.map_toArray, List.map_cons, List.map_nil]); first | done | rfl | (simp only [List.length_drop, List.length_take]; rfl)) ?_
                with_reducible refine (word_And.calls a0_0 a0_1 t218 t219 t220 t221 _ A20.out).mono ?_
                rintro e w47 ⟨rfl, hb⟩
                refine ⟨_, rfl, ?_⟩
                have n0_ := Aside0.mk (blk_below (g := gb196) (o := .cells #[.int .u64 a0_0, .int .u64 a0_1] 24 (0, 0)) (by (with_reducible repeat (first | refine blk_drewN ?_ _ | refine blk_drew ?_ | refine blk_alloc ?_ _)); exact BK196.out) hb)
                have n1_ := Aside0.mk (below_step (by repeat (first | (with_reducible first | exact HB.out | apply below_alloc | apply pw_below_drewN | apply below_drew1 | refine below_set ?_ GE196.out) | exact HB.out)) hb)
                clear BK196
                clear HB
                have BK196 := n0_
                have HB := n1_
                clear n0_ n1_
                (try clear hb)
                (try clear hb2)
                (try clear hk)
                (try clear hi)
                refine hK.out _ _ ⟨(blk_cell BK196.out 0).trans rfl, (blk_cell BK196.out 1).trans rfl⟩ (fun hHeld => ?_)
                clear hK K
                refine norm_ (a' := ?_) ?_ ?_
                rotate_left
                · show Act.put _ (some 48) _ = _
                  simp only [Act.put, List.setIfInBounds_toArray, List.set_cons_zero, List.set_cons_succ, i64_w, i32_w]
                  rfl
                refine pure_ (i := 10) (N := some 49) (v := ?_) (a' := ?_) #[true, true, true, true, true, true, true, true, true, true, true, false, false, false, false, false, false, false, false, false, false, false, false, false] rfl rfl (any_of HT_.out (by kernel_rfl)) (fun _ _ _ h => h) (Or.inl ⟨by rfl, ?_⟩) ?_ ?_
                rotate_left
                · intro w'
                  go_simp
                  with_reducible rfl
                rotate_left
                · simp only [Act.put, List.setIfInBounds_toArray, List.set_cons_zero, List.set_cons_succ, i64_w, i32_w]
                  rfl
                refine pure_ (i := 11) (N := some 50) (v := ?_) (a' := ?_) #[true, true, true, true, true, true, true, true, true, true, true, true, false, false, false, false, false, false, false, false, false, false, false, false] rfl rfl (any_of HT_.out (by kernel_rfl)) (fun _ _ _ h => h) (Or.inl ⟨by rfl, ?_⟩) ?_ ?_
                rotate_left
                · intro w'
                  go_simp
                  with_reducible rfl
                rotate_left
                · simp only [Act.put, List.setIfInBounds_toArray, List.set_cons_zero, List.set_cons_succ, i64_w, i32_w]
                  rfl
                refine pure_ (i := 13) (N := some 52) (v := ?_) (a' := ?_) #[true, true, true, true, true, true, true, true, true, true, true, true, false, true, false, false, false, false, false, false, false, false, false, false] rfl rfl (any_of HT_.out (by kernel_rfl)) (fun _ _ _ h => h) (Or.inl ⟨by rfl, ?_⟩) ?_ ?_
                rotate_left
                · intro w'
                  go_simp
                  with_reducible rfl
                rotate_left
                · simp only [Act.put, List.setIfInBounds_toArray, List.set_cons_zero, List.set_cons_succ, i64_w, i32_w]
                  rfl
                refine pure_ (i := 15) (N := some 54) (v := ?_) (a' := ?_) #[true, true, true, true, true, true, true, true, true, true, true, true, false, true, false, true, false, false, false, false, false, false, false, false] rfl rfl (any_of HT_.out (by kernel_rfl)) (fun _ _ _ h => h) (Or.inl ⟨by rfl, ?_⟩) ?_ ?_
                rotate_left
                · intro w'
                  go_simp
                  with_reducible rfl
                rotate_left
                · simp only [Act.put, List.setIfInBounds_toArray, List.set_cons_zero, List.set_cons_succ, i64_w, i32_w]
                  rfl
                refine pure_ (i := 18) (N := some 57) (v := ?_) (a' := ?_) #[true, true, true, true, true, true, true, true, true, true, true, true, false, true, false, true, false, false, true, false, false, false, false, false] rfl rfl (any_of HT_.out (by kernel_rfl)) (fun _ _ _ h => h) (Or.inl ⟨by rfl, ?_⟩) ?_ ?_
                rotate_left
                · intro w'
                  go_simp
                  with_reducible rfl
                rotate_left
                · simp only [Act.put, List.setIfInBounds_toArray, List.set_cons_zero, List.set_cons_succ, i64_w, i32_w]
                  rfl
                refine pure_ (i := 19) (N := some 58) (v := ?_) (a' := ?_) #[true, true, true, true, true, true, true, true, true, true, true, true, false, true, false, true, false, false, true, true, false, false, false, false] rfl rfl (any_of HT_.out (by kernel_rfl)) (fun _ _ _ h => h) (Or.inl ⟨by rfl, ?_⟩) ?_ ?_
                rotate_left
                · intro w'
                  go_simp
                  with_reducible rfl
                rotate_left
                · simp only [Act.put, List.setIfInBounds_toArray, List.set_cons_zero, List.set_cons_succ, i64_w, i32_w]
                  rfl
                refine take_ (i := 12) (N := some 51) (v := ?_) (a' := ?_) #[true, true, true, true, true, true, true, true, true, true, true, true, true, true, false, true, false, false, true, true, false, false, false, false] rfl rfl (take_ofW HT_.out HW_.out (by kernel_rfl)) (fun _ _ _ h => h) (Or.inl ⟨by rfl, ?_⟩) hHeld ?_ ?_
                rotate_left
                · rintro w' ⟨s0, s1⟩
                  go_simp
                  with_reducible rfl
                rotate_left
                · simp only [Act.put, List.setIfInBounds_toArray, List.set_cons_zero, List.set_cons_succ, i64_w, i32_w]
                  rfl
                refine take_ (i := 17) (N := some 56) (v := ?_) (a' := ?_) #[true, true, true, true, true, true, true, true, true, true, true, true, true, true, false, true, false, true, true, true, false, false, false, false] rfl rfl (take_ofW HT_.out HW_.out (by kernel_rfl)) (fun _ _ _ h => h) (Or.inl ⟨by rfl, ?_⟩) hHeld ?_ ?_
                rotate_left
                · rintro w' ⟨s0, s1⟩
                  go_simp
                  with_reducible rfl
                rotate_left
                · simp only [Act.put, List.setIfInBounds_toArray, List.set_cons_zero, List.set_cons_succ, i64_w, i32_w]
                  rfl
                refine one_ (i := 14) (N := some 53) #[true, true, true, true, true, true, true, true, true, true, true, true, true, true, true, true, false, true, true, true, false, false, false, false] rfl rfl (one_of HT_.out (by kernel_rfl)) (by decide) (fun K hK => ?_)
                refine goes_ Try.func22 (by kernel_rfl) rfl #[.agg #[.int .u64 a0_0, .int .u64 a0_1], .int .i64 t198] (by rfl) rfl rfl (by (try simp only [List.map_toArray, List.map_cons, List.map_nil]); first | done | rfl | (simp only [List.length_drop, List.length_take]; rfl)) ?_
                with_reducible refine (word_Shr.calls a0_0 a0_1 t198 t222 t223 _ A22.out).mono ?_
                rintro e w48 ⟨rfl, hb⟩
                refine ⟨_, rfl, ?_⟩
                have n0_ := Aside0.mk (blk_below (g := gb196) (o := .cells #[.int .u64 a0_0, .int .u64 a0_1] 24 (0, 0)) (by (with_reducible repeat (first | refine blk_drewN ?_ _ | refine blk_drew ?_ | refine blk_alloc ?_ _)); exact BK196.out) hb)
                have n1_ := Aside0.mk (below_step (by repeat (first | (with_reducible first | exact HB.out | apply below_alloc | apply pw_below_drewN | apply below_drew1 | refine below_set ?_ GE196.out) | exact HB.out)) hb)
                clear BK196
                clear HB
                have BK196 := n0_
                have HB := n1_
                clear n0_ n1_
                (try clear hb)
                (try clear hb2)
                (try clear hk)
                (try clear hi)
                refine hK.out _ _ ⟨(blk_cell BK196.out 0).trans rfl, (blk_cell BK196.out 1).trans rfl⟩ (fun hHeld => ?_)
                clear hK K
                refine norm_ (a' := ?_) ?_ ?_
                rotate_left
                · show Act.put _ (some 53) _ = _
                  simp only [Act.put, List.setIfInBounds_toArray, List.set_cons_zero, List.set_cons_succ, i64_w, i32_w]
                  rfl
                refine one_ (i := 16) (N := some 55) #[true, true, true, true, true, true, true, true, true, true, true, true, true, true, true, true, true, true, true, true, false, false, false, false] rfl rfl (one_of HT_.out (by kernel_rfl)) (by decide) (fun K hK => ?_)
                refine goes_ Try.func20 (by kernel_rfl) rfl #[.agg #[.int .u64 t222, .int .u64 t223], .int .i64 t198] (by rfl) rfl rfl (by (try simp only [List.map_toArray, List.map_cons, List.map_nil]); first | done | rfl | (simp only [List.length_drop, List.length_take]; rfl)) ?_
                with_reducible refine (word_Shl.calls t222 t223 t198 t224 t225 _ A23.out).mono ?_
                rintro e w49 ⟨rfl, hb⟩
                refine ⟨_, rfl, ?_⟩
                have n0_ := Aside0.mk (blk_below (g := gb196) (o := .cells #[.int .u64 a0_0, .int .u64 a0_1] 24 (0, 0)) (by (with_reducible repeat (first | refine blk_drewN ?_ _ | refine blk_drew ?_ | refine blk_alloc ?_ _)); exact BK196.out) hb)
                have n1_ := Aside0.mk (below_step (by repeat (first | (with_reducible first | exact HB.out | apply below_alloc | apply pw_below_drewN | apply below_drew1 | refine below_set ?_ GE196.out) | exact HB.out)) hb)
                clear BK196
                clear HB
                have BK196 := n0_
                have HB := n1_
                clear n0_ n1_
                (try clear hb)
                (try clear hb2)
                (try clear hk)
                (try clear hi)
                refine hK.out _ _ ⟨(blk_cell BK196.out 0).trans rfl, (blk_cell BK196.out 1).trans rfl⟩ (fun hHeld => ?_)
                clear hK K
                refine norm_ (a' := ?_) ?_ ?_
                rotate_left
                · show Act.put _ (some 55) _ = _
                  simp only [Act.put, List.setIfInBounds_toArray, List.set_cons_zero, List.set_cons_succ, i64_w, i32_w]
                  rfl
                refine one_ (i := 20) (N := some 59) #[true, true, true, true, true, true, true, true, true, true, true, true, true, true, true, true, true, true, true, true, true, false, false, false] rfl rfl (one_of HT_.out (by kernel_rfl)) (by decide) (fun K hK => ?_)
                refine goes_ Try.func26 (by kernel_rfl) rfl #[.int .i64 (wrap64 (128 - t198))] (by rfl) rfl rfl (by (try simp only [List.map_toArray, List.map_cons, List.map_nil]); first | done | rfl | (simp only [List.length_drop, List.length_take]; rfl)) ?_
                with_reducible refine (word_Mask.calls (wrap64 (128 - t198)) t226 t227 _ A24.out).mono ?_
                rintro e w50 ⟨rfl, hb⟩
                refine ⟨_, rfl, ?_⟩
                have n0_ := Aside0.mk (blk_below (g := gb196) (o := .cells #[.int .u64 a0_0, .int .u64 a0_1] 24 (0, 0)) (by (with_reducible repeat (first | refine blk_drewN ?_ _ | refine blk_drew ?_ | refine blk_alloc ?_ _)); exact BK196.out) hb)
                have n1_ := Aside0.mk (below_step (by repeat (first | (with_reducible first | exact HB.out | apply below_alloc | apply pw_below_drewN | apply below_drew1 | refine below_set ?_ GE196.out) | exact HB.out)) hb)
                clear BK196
                clear HB
                have BK196 := n0_
                have HB := n1_
                clear n0_ n1_
                (try clear hb)
                (try clear hb2)
                (try clear hk)
                (try clear hi)
                refine hK.out _ _ ⟨(blk_cell BK196.out 0).trans rfl, (blk_cell BK196.out 1).trans rfl⟩ (fun hHeld => ?_)
                clear hK K
                refine norm_ (a' := ?_) ?_ ?_
                rotate_left
                · show Act.put _ (some 59) _ = _
                  simp only [Act.put, List.setIfInBounds_toArray, List.set_cons_zero, List.set_cons_succ, i64_w, i32_w]
                  rfl
                refine one_ (i := 21) (N := some 60) #[true, true, true, true, true, true, true, true, true, true, true, true, true, true, true, true, true, true, true, true, true, true, false, false] rfl rfl (one_of HT_.out (by kernel_rfl)) (by decide) (fun K hK => ?_)
                refine goes_ Try.func12 (by kernel_rfl) rfl #[.agg #[.int .u64 a0_0, .int .u64 a0_1], .agg #[.int .u64 t226, .int .u64 t227]] (by rfl) rfl rfl (by (try simp only [List.map_toArray, List.map_cons, List.map_nil]); first | done | rfl | (simp only [List.length_drop, List.length_take]; rfl)) ?_
                with_reducible refine (word_And.calls a0_0 a0_1 t226 t227 t228 t229 _ A25.out).mono ?_
                rintro e w51 ⟨rfl, hb⟩
                refine ⟨_, rfl, ?_⟩
                have n0_ := Aside0.mk (blk_below (g := gb196) (o := .cells #[.int .u64 a0_0, .int .u64 a0_1] 24 (0, 0)) (by (with_reducible repeat (first | refine blk_drewN ?_ _ | refine blk_drew ?_ | refine blk_alloc ?_ _)); exact BK196.out) hb)
                have n1_ := Aside0.mk (below_step (by repeat (first | (with_reducible first | exact HB.out | apply below_alloc | apply pw_below_drewN | apply below_drew1 | refine below_set ?_ GE196.out) | exact HB.out)) hb)
                clear BK196
                clear HB
                have BK196 := n0_
                have HB := n1_
                clear n0_ n1_
                (try clear hb)
                (try clear hb2)
                (try clear hk)
                (try clear hi)
                refine hK.out _ _ ⟨(blk_cell BK196.out 0).trans rfl, (blk_cell BK196.out 1).trans rfl⟩ (fun hHeld => ?_)
                clear hK K
                refine norm_ (a' := ?_) ?_ ?_
                rotate_left
                · show Act.put _ (some 60) _ = _
                  simp only [Act.put, List.setIfInBounds_toArray, List.set_cons_zero, List.set_cons_succ, i64_w, i32_w]
                  rfl
                refine pure_ (i := 22) (N := some 61) (v := ?_) (a' := ?_) #[true, true, true, true, true, true, true, true, true, true, true, true, true, true, true, true, true, true, true, true, true, true, true, false] rfl rfl (any_of HT_.out (by kernel_rfl)) (fun _ _ _ h => h) (Or.inl ⟨by rfl, ?_⟩) ?_ ?_
                rotate_left
                · intro w'
                  go_simp
                  with_reducible rfl
                rotate_left
                · simp only [Act.put, List.setIfInBounds_toArray, List.set_cons_zero, List.set_cons_succ, i64_w, i32_w]
                  rfl
                refine pure_ (i := 23) (N := some 62) (v := ?_) (a' := ?_) #[true, true, true, true, true, true, true, true, true, true, true, true, true, true, true, true, true, true, true, true, true, true, true, true] rfl rfl (any_of HT_.out (by kernel_rfl)) (fun _ _ _ h => h) (Or.inl ⟨by rfl, ?_⟩) ?_ ?_
                rotate_left
                · intro w'
                  go_simp
                  with_reducible rfl
                rotate_left
                · simp only [Act.put, List.setIfInBounds_toArray, List.set_cons_zero, List.set_cons_succ, i64_w, i32_w]
                  rfl
                refine done_ (done_of HT_.out (by kernel_rfl)) ?_
                have hcz52_0 : w51.cell? ⟨gb196, 0, none⟩ = some (.int .u64 a0_0) := (blk_cell BK196.out 0).trans rfl
                have hcz52_1 : w51.cell? ⟨gb196, 1, none⟩ = some (.int .u64 a0_1) := (blk_cell BK196.out 1).trans rfl
                have hfz52_0 := blk_frozen BK196.out 0
                have hfz52_1 := blk_frozen BK196.out 1
                try go_wp2_with (first | ((with_reducible refine gate_callee (f := 29) rfl ?_); refine goesL_ (some 66) rfl rfl Try.func29 (by kernel_rfl) rfl #[.agg #[.int .u64 a0_0, .int .u64 a0_1], .agg #[.int .u64 a0_0, .int .u64 a0_1]] rfl (by (try simp only [List.map_toArray, List.map_cons, List.map_nil]); first | done | rfl | (simp only [List.length_drop, List.length_take]; rfl)) ?_; (with_reducible refine (word_Add.calls a0_0 a0_1 a0_0 a0_1 t230 t231 t232 _ A27.out).mono ?_); rintro e w53 ⟨rfl, hb⟩; refine ⟨_, rfl, ?_⟩; have n0_ := Aside0.mk (blk_below (g := gb196) (o := .cells #[.int .u64 a0_0, .int .u64 a0_1] 24 (0, 0)) (by (with_reducible repeat (first | refine blk_drewN ?_ _ | refine blk_drew ?_ | refine blk_alloc ?_ _)); exact BK196.out) hb); have n1_ := Aside0.mk (below_step (by repeat (first | (with_reducible first | exact HB.out | apply below_alloc | apply pw_below_drewN | apply below_drew1 | refine below_set ?_ GE196.out) | exact HB.out)) hb); clear BK196; clear HB; have BK196 := n0_; have HB := n1_; clear n0_ n1_; (try clear hb); (try clear hb2); (try clear hk); (try clear hi)) | ((with_reducible refine gate_dst (N := 7) rfl ?_); refine box_event ?hg (N := 7) ?hd (cs := #[.int .u64 0, .int .u64 0]) (t := 24) ?hr ?_; (case hd => rfl); (case hg => rfl); (case hr => first | (go_simp; done) | (go_simp; rfl)); intro gb233 hg w54 hbox hb; have n0_ := Aside0.mk (blk_below (g := gb196) (o := .cells #[.int .u64 a0_0, .int .u64 a0_1] 24 (0, 0)) (by (with_reducible repeat (first | refine blk_drewN ?_ _ | refine blk_drew ?_ | refine blk_alloc ?_ _)); exact BK196.out) hb); have n1_ := Aside0.mk (below_step (by repeat (first | (with_reducible first | exact HB.out | apply below_alloc | apply pw_below_drewN | apply below_drew1 | refine below_set ?_ GE196.out) | exact HB.out)) hb); have n2_ := Aside0.mk (hbox); have n3_ := Aside0.mk ((by rw [hg]; exact (below_size (by repeat (first | (with_reducible first | exact HB.out | apply below_alloc | apply pw_below_drewN | apply below_drew1 | refine below_set ?_ GE196.out) | exact HB.out))) : w.heap.size ≤ gb233)); have n4_ := Aside0.mk ((by rw [hg]; exact (below_size (by repeat (first | (with_reducible first | exact HB.out | apply below_alloc | apply pw_below_drewN | apply below_drew1 | refine below_set ?_ GE196.out) | exact HB.out))) : w.heap.size ≤ gb233)); have n5_ := Aside0.mk ((by rw [hg]; exact Nat.ne_of_lt (blk_lt (g := gb196) (o := .cells #[.int .u64 a0_0, .int .u64 a0_1] 24 (0, 0)) (by (with_reducible repeat (first | refine blk_drewN ?_ _ | refine blk_drew ?_ | refine blk_alloc ?_ _)); exact BK196.out)) : gb196 ≠ gb233)); have n6_ := Aside0.mk ((by rw [hg]; exact Nat.ne_of_gt (blk_lt (g := gb196) (o := .cells #[.int .u64 a0_0, .int .u64 a0_1] 24 (0, 0)) (by (with_reducible repeat (first | refine blk_drewN ?_ _ | refine blk_drew ?_ | refine blk_alloc ?_ _)); exact BK196.out)) : gb233 ≠ gb196)); clear BK196; clear HB; have BK196 := n0_; have HB := n1_; have BK233 := n2_; have GW233 := n3_; have GE233 := n4_; have NB196_233 := n5_; have NB233_196 := n6_; clear n0_ n1_ n2_ n3_ n4_ n5_ n6_; clear hb hbox hg; have hnb55 := NB233_196.out; have hnc55 := NB196_233.out; have hcz56_0 : w54.cell? ⟨gb233, 0, none⟩ = some (.int .u64 0) := (blk_cell BK233.out 0).trans rfl; have hcz56_1 : w54.cell? ⟨gb233, 1, none⟩ = some (.int .u64 0) := (blk_cell BK233.out 1).trans rfl; have hfz56_0 := blk_frozen BK233.out 0; have hfz56_1 := blk_frozen BK233.out 1))
                have n0_ : Aside0 (((w54.setCell ⟨gb233, 0, none⟩ (.int .u64 t230)).setCell ⟨gb233, 1, none⟩ (.int .u64 t231)).heap[gb196]? = some (.cells #[.int .u64 a0_0, .int .u64 a0_1] 24 (0, 0))) := ⟨by (with_reducible repeat (first | refine blk_drewN ?_ _ | refine blk_drew ?_ | refine blk_alloc ?_ _)); refine blk_far ?_ NB196_233.out _; (with_reducible repeat (first | refine blk_drewN ?_ _ | refine blk_drew ?_ | refine blk_alloc ?_ _)); refine blk_far ?_ NB196_233.out _; (with_reducible repeat (first | refine blk_drewN ?_ _ | refine blk_drew ?_ | refine blk_alloc ?_ _)); exact BK196.out⟩
                have n1_ : Aside0 (((w54.setCell ⟨gb233, 0, none⟩ (.int .u64 t230)).setCell ⟨gb233, 1, none⟩ (.int .u64 t231)).heap[gb233]? = some (.cells #[.int .u64 t230, .int .u64 t231] 24 (0, 0))) := ⟨by (with_reducible repeat (first | refine blk_drewN ?_ _ | refine blk_drew ?_ | refine blk_alloc ?_ _)); refine blk_put (cs := #[.int .u64 t230, .int .u64 0]) ?_ 1 _ rfl; (with_reducible repeat (first | refine blk_drewN ?_ _ | refine blk_drew ?_ | refine blk_alloc ?_ _)); refine blk_put (cs := #[.int .u64 0, .int .u64 0]) ?_ 0 _ rfl; (with_reducible repeat (first | refine blk_drewN ?_ _ | refine blk_drew ?_ | refine blk_alloc ?_ _)); exact BK233.out⟩
                have n2_ : Aside0 (Below w.heap.size w ((w54.setCell ⟨gb233, 0, none⟩ (.int .u64 t230)).setCell ⟨gb233, 1, none⟩ (.int .u64 t231))) := ⟨by repeat (first | (with_reducible first | exact HB.out | apply below_alloc | apply pw_below_drewN | apply below_drew1 | refine below_set ?_ GE196.out | refine below_set ?_ GE233.out) | exact HB.out)⟩
                (try clear BK196)
                (try clear BK233)
                (try clear HB)
                generalize ((w54.setCell ⟨gb233, 0, none⟩ (.int .u64 t230)).setCell ⟨gb233, 1, none⟩ (.int .u64 t231)) = w57 at n0_ n1_ n2_ ⊢
                have BK196 := n0_
                have BK233 := n1_
                have HB := n2_
                clear n0_ n1_ n2_
                have n0_ := Aside0.mk (blk_drew BK196.out)
                have n1_ := Aside0.mk (blk_drew BK233.out)
                have n2_ := Aside0.mk (below_drew1 HB.out)
                clear BK196
                clear BK233
                clear HB
                have BK196 := n0_
                have BK233 := n1_
                have HB := n2_
                clear n0_ n1_ n2_
                refine start_ (n := 20) (S := fun w' => w'.cell? ⟨gb233, 0, none⟩ = some (.int .u64 t230) ∧ w'.cell? ⟨gb233, 1, none⟩ = some (.int .u64 t231) ∧ w'.cell? ⟨gb196, 0, none⟩ = some (.int .u64 a0_0) ∧ w'.cell? ⟨gb196, 1, none⟩ = some (.int .u64 a0_1)) (ds := []) #[false, false, false, false, false, false, false, false, false, false, false, false, false, false, false, false, false, false, false, false] (by kernel_rfl) rfl rfl ⟨(blk_cell BK233.out 0).trans rfl, (blk_cell BK233.out 1).trans rfl, (blk_cell BK196.out 0).trans rfl, (blk_cell BK196.out 1).trans rfl⟩ (fun hHeld => ?_); refine with_tabW turnpikelaw1_WordShifts.tab10 turnpikelaw1_WordShifts.bits10 (fun HT_ HW_ => ?_)
                generalize w57.drew = w58 at BK196 BK233 HB hHeld ⊢
                refine take_ (i := 0) (N := some 69) (v := ?_) (a' := ?_) #[true, false, false, false, false, false, false, false, false, false, false, false, false, false, false, false, false, false, false, false] rfl rfl (take_ofW HT_.out HW_.out (by kernel_rfl)) (fun _ _ _ h => h) (Or.inl ⟨by rfl, ?_⟩) hHeld ?_ ?_
                rotate_left
                · rintro w' ⟨s0, s1, s2, s3⟩
                  go_simp
                  with_reducible rfl
                rotate_left
                · simp only [Act.put, List.setIfInBounds_toArray, List.set_cons_zero, List.set_cons_succ, i64_w, i32_w]
                  rfl
                refine take_ (i := 1) (N := some 70) (v := ?_) (a' := ?_) #[true, true, false, false, false, false, false, false, false, false, false, false, false, false, false, false, false, false, false, false] rfl rfl (take_ofW HT_.out HW_.out (by kernel_rfl)) (fun _ _ _ h => h) (Or.inl ⟨by rfl, ?_⟩) hHeld ?_ ?_
                rotate_left
                · rintro w' ⟨s0, s1, s2, s3⟩
                  go_simp
                  with_reducible rfl
                rotate_left
                · simp only [Act.put, List.setIfInBounds_toArray, List.set_cons_zero, List.set_cons_succ, i64_w, i32_w]
                  rfl
                refine one_ (i := 2) (N := some 71) #[true, true, true, false, false, false, false, false, false, false, false, false, false, false, false, false, false, false, false, false] rfl rfl (one_of HT_.out (by kernel_rfl)) (by decide) (fun K hK => ?_)
                refine goes_ Try.func20 (by kernel_rfl) rfl #[.agg #[.int .u64 a0_0, .int .u64 a0_1], .int .i64 1] (by rfl) rfl rfl (by (try simp only [List.map_toArray, List.map_cons, List.map_nil]); first | done | rfl | (simp only [List.length_drop, List.length_take]; rfl)) ?_
                with_reducible refine (word_Shl.calls a0_0 a0_1 1 t234 t235 _ A28.out).mono ?_
                rintro e w59 ⟨rfl, hb⟩
                refine ⟨_, rfl, ?_⟩
                have n0_ := Aside0.mk (blk_below (g := gb196) (o := .cells #[.int .u64 a0_0, .int .u64 a0_1] 24 (0, 0)) (by (with_reducible repeat (first | refine blk_drewN ?_ _ | refine blk_drew ?_ | refine blk_alloc ?_ _)); exact BK196.out) hb)
                have n1_ := Aside0.mk (blk_below (g := gb233) (o := .cells #[.int .u64 t230, .int .u64 t231] 24 (0, 0)) (by (with_reducible repeat (first | refine blk_drewN ?_ _ | refine blk_drew ?_ | refine blk_alloc ?_ _)); exact BK233.out) hb)
                have n2_ := Aside0.mk (below_step (by repeat (first | (with_reducible first | exact HB.out | apply below_alloc | apply pw_below_drewN | apply below_drew1 | refine below_set ?_ GE196.out | refine below_set ?_ GE233.out) | exact HB.out)) hb)
                clear BK196
                clear BK233
                clear HB
                have BK196 := n0_
                have BK233 := n1_
                have HB := n2_
                clear n0_ n1_ n2_
                (try clear hb)
                (try clear hb2)
                (try clear hk)
                (try clear hi)
                refine hK.out _ _ ⟨(blk_cell BK233.out 0).trans rfl, (blk_cell BK233.out 1).trans rfl, (blk_cell BK196.out 0).trans rfl, (blk_cell BK196.out 1).trans rfl⟩ (fun hHeld => ?_)
                clear hK K
                refine norm_ (a' := ?_) ?_ ?_
                rotate_left
                · show Act.put _ (some 71) _ = _
                  simp only [Act.put, List.setIfInBounds_toArray, List.set_cons_zero, List.set_cons_succ, i64_w, i32_w]
                  rfl
                refine pure_ (i := 3) (N := some 72) (v := ?_) (a' := ?_) #[true, true, true, true, false, false, false, false, false, false, false, false, false, false, false, false, false, false, false, false] rfl rfl (any_of HT_.out (by kernel_rfl)) (fun _ _ _ h => h) (Or.inl ⟨by rfl, ?_⟩) ?_ ?_
                rotate_left
                · intro w'
                  go_simp
                  with_reducible rfl
                rotate_left
                · simp only [Act.put, List.setIfInBounds_toArray, List.set_cons_zero, List.set_cons_succ, i64_w, i32_w]
                  rfl
                refine pure_ (i := 4) (N := some 73) (v := ?_) (a' := ?_) #[true, true, true, true, true, false, false, false, false, false, false, false, false, false, false, false, false, false, false, false] rfl rfl (any_of HT_.out (by kernel_rfl)) (fun _ _ _ h => h) (Or.inl ⟨by rfl, ?_⟩) ?_ ?_
                rotate_left
                · intro w'
                  go_simp
                  with_reducible rfl
                rotate_left
                · simp only [Act.put, List.setIfInBounds_toArray, List.set_cons_zero, List.set_cons_succ, i64_w, i32_w]
                  rfl
                refine pure_ (i := 5) (N := some 74) (v := ?_) (a' := ?_) #[true, true, true, true, true, true, false, false, false, false, false, false, false, false, false, false, false, false, false, false] rfl rfl (any_of HT_.out (by kernel_rfl)) (fun _ _ _ h => h) (Or.inl ⟨by rfl, ?_⟩) ?_ ?_
                rotate_left
                · intro w'
                  go_simp
                  with_reducible rfl
                rotate_left
                · simp only [Act.put, List.setIfInBounds_toArray, List.set_cons_zero, List.set_cons_succ, i64_w, i32_w]
                  rfl
                refine take_ (i := 6) (N := some 75) (v := ?_) (a' := ?_) #[true, true, true, true, true, true, true, false, false, false, false, false, false, false, false, false, false, false, false, false] rfl rfl (take_ofW HT_.out HW_.out (by kernel_rfl)) (fun _ _ _ h => h) (Or.inl ⟨by rfl, ?_⟩) hHeld ?_ ?_
                rotate_left
                · rintro w' ⟨s0, s1, s2, s3⟩
                  go_simp
                  with_reducible rfl
                rotate_left
                · simp only [Act.put, List.setIfInBounds_toArray, List.set_cons_zero, List.set_cons_succ, i64_w, i32_w]
                  rfl
                refine one_ (i := 7) (N := some 76) #[true, true, true, true, true, true, true, true, false, false, false, false, false, false, false, false, false, false, false, false] rfl rfl (one_of HT_.out (by kernel_rfl)) (by decide) (fun K hK => ?_)
                refine goes_ Try.func24 (by kernel_rfl) rfl #[.agg #[.int .u64 a0_0, .int .u64 a0_1], .int .i64 0] (by rfl) rfl rfl (by (try simp only [List.map_toArray, List.map_cons, List.map_nil]); first | done | rfl | (simp only [List.length_drop, List.length_take]; rfl)) ?_
                with_reducible refine (word_Bit.calls k a0_0 a0_1 0 t236 _ A30.out).mono ?_
                rintro e w60 ⟨rfl, hb⟩
                refine ⟨_, rfl, ?_⟩
                have n0_ := Aside0.mk (blk_below (g := gb196) (o := .cells #[.int .u64 a0_0, .int .u64 a0_1] 24 (0, 0)) (by (with_reducible repeat (first | refine blk_drewN ?_ _ | refine blk_drew ?_ | refine blk_alloc ?_ _)); exact BK196.out) hb)
                have n1_ := Aside0.mk (blk_below (g := gb233) (o := .cells #[.int .u64 t230, .int .u64 t231] 24 (0, 0)) (by (with_reducible repeat (first | refine blk_drewN ?_ _ | refine blk_drew ?_ | refine blk_alloc ?_ _)); exact BK233.out) hb)
                have n2_ := Aside0.mk (below_step (by repeat (first | (with_reducible first | exact HB.out | apply below_alloc | apply pw_below_drewN | apply below_drew1 | refine below_set ?_ GE196.out | refine below_set ?_ GE233.out) | exact HB.out)) hb)
                clear BK196
                clear BK233
                clear HB
                have BK196 := n0_
                have BK233 := n1_
                have HB := n2_
                clear n0_ n1_ n2_
                (try clear hb)
                (try clear hb2)
                (try clear hk)
                (try clear hi)
                refine hK.out _ _ ⟨(blk_cell BK233.out 0).trans rfl, (blk_cell BK233.out 1).trans rfl, (blk_cell BK196.out 0).trans rfl, (blk_cell BK196.out 1).trans rfl⟩ (fun hHeld => ?_)
                clear hK K
                refine norm_ (a' := ?_) ?_ ?_
                rotate_left
                · show Act.put _ (some 76) _ = _
                  simp only [Act.put, List.setIfInBounds_toArray, List.set_cons_zero, List.set_cons_succ, i64_w, i32_w]
                  rfl
                refine pure_ (i := 8) (N := some 77) (v := ?_) (a' := ?_) #[true, true, true, true, true, true, true, true, true, false, false, false, false, false, false, false, false, false, false, false] rfl rfl (any_of HT_.out (by kernel_rfl)) (fun _ _ _ h => h) (Or.inl ⟨by rfl, ?_⟩) ?_ ?_
                rotate_left
                · intro w'
                  go_simp
                  with_reducible rfl
                rotate_left
                · simp only [Act.put, List.setIfInBounds_toArray, List.set_cons_zero, List.set_cons_succ, i64_w, i32_w]
                  rfl
                refine pure_ (i := 9) (N := some 78) (v := ?_) (a' := ?_) #[true, true, true, true, true, true, true, true, true, true, false, false, false, false, false, false, false, false, false, false] rfl rfl (any_of HT_.out (by kernel_rfl)) (fun _ _ _ h => h) (Or.inl ⟨by rfl, ?_⟩) ?_ ?_
                rotate_left
                · intro w'
                  go_simp
                  with_reducible rfl
                rotate_left
                · simp only [Act.put, List.setIfInBounds_toArray, List.set_cons_zero, List.set_cons_succ, i64_w, i32_w]
                  rfl
                refine pure_ (i := 10) (N := some 79) (v := ?_) (a' := ?_) #[true, true, true, true, true, true, true, true, true, true, true, false, false, false, false, false, false, false, false, false] rfl rfl (any_of HT_.out (by kernel_rfl)) (fun _ _ _ h => h) (Or.inl ⟨by rfl, ?_⟩) ?_ ?_
                rotate_left
                · intro w'
                  go_simp
                  with_reducible rfl
                rotate_left
                · simp only [Act.put, List.setIfInBounds_toArray, List.set_cons_zero, List.set_cons_succ, i64_w, i32_w]
                  rfl
                refine pure_ (i := 11) (N := some 80) (v := ?_) (a' := ?_) #[true, true, true, true, true, true, true, true, true, true, true, true, false, false, false, false, false, false, false, false] rfl rfl (any_of HT_.out (by kernel_rfl)) (fun _ _ _ h => h) (Or.inl ⟨by rfl, ?_⟩) ?_ ?_
                rotate_left
                · intro w'
                  go_simp
                  with_reducible rfl
                rotate_left
                · simp only [Act.put, List.setIfInBounds_toArray, List.set_cons_zero, List.set_cons_succ, i64_w, i32_w]
                  rfl
                refine pure_ (i := 13) (N := some 82) (v := ?_) (a' := ?_) #[true, true, true, true, true, true, true, true, true, true, true, true, false, true, false, false, false, false, false, false] rfl rfl (any_of HT_.out (by kernel_rfl)) (fun _ _ _ h => h) (Or.inl ⟨by rfl, ?_⟩) ?_ ?_
                rotate_left
                · intro w'
                  go_simp
                  with_reducible rfl
                rotate_left
                · simp only [Act.put, List.setIfInBounds_toArray, List.set_cons_zero, List.set_cons_succ, i64_w, i32_w]
                  rfl
                refine pure_ (i := 14) (N := some 83) (v := ?_) (a' := ?_) #[true, true, true, true, true, true, true, true, true, true, true, true, false, true, true, false, false, false, false, false] rfl rfl (any_of HT_.out (by kernel_rfl)) (fun _ _ _ h => h) (Or.inl ⟨by rfl, ?_⟩) ?_ ?_
                rotate_left
                · intro w'
                  go_simp
                  with_reducible rfl
                rotate_left
                · simp only [Act.put, List.setIfInBounds_toArray, List.set_cons_zero, List.set_cons_succ, i64_w, i32_w]
                  rfl
                refine take_ (i := 12) (N := some 81) (v := ?_) (a' := ?_) #[true, true, true, true, true, true, true, true, true, true, true, true, true, true, true, false, false, false, false, false] rfl rfl (take_ofW HT_.out HW_.out (by kernel_rfl)) (fun _ _ _ h => h) (Or.inl ⟨by rfl, ?_⟩) hHeld ?_ ?_
                rotate_left
                · rintro w' ⟨s0, s1, s2, s3⟩
                  go_simp
                  with_reducible rfl
                rotate_left
                · simp only [Act.put, List.setIfInBounds_toArray, List.set_cons_zero, List.set_cons_succ, i64_w, i32_w]
                  rfl
                refine take_ (i := 16) (N := some 85) (v := ?_) (a' := ?_) #[true, true, true, true, true, true, true, true, true, true, true, true, true, true, true, false, true, false, false, false] rfl rfl (take_ofW HT_.out HW_.out (by kernel_rfl)) (fun _ _ _ h => h) (Or.inl ⟨by rfl, ?_⟩) hHeld ?_ ?_
                rotate_left
                · rintro w' ⟨s0, s1, s2, s3⟩
                  go_simp
                  with_reducible rfl
                rotate_left
                · simp only [Act.put, List.setIfInBounds_toArray, List.set_cons_zero, List.set_cons_succ, i64_w, i32_w]
                  rfl
                refine one_ (i := 15) (N := some 84) #[true, true, true, true, true, true, true, true, true, true, true, true, true, true, true, true, true, false, false, false] rfl rfl (one_of HT_.out (by kernel_rfl)) (by decide) (fun K hK => ?_)
                refine goes_ Try.func20 (by kernel_rfl) rfl #[.agg #[.int .u64 a0_0, .int .u64 a0_1], .int .i64 (wrap64 (-t198))] (by rfl) rfl rfl (by (try simp only [List.map_toArray, List.map_cons, List.map_nil]); first | done | rfl | (simp only [List.length_drop, List.length_take]; rfl)) ?_
                with_reducible refine (word_Shl.calls a0_0 a0_1 (wrap64 (-t198)) t237 t238 _ A32.out).mono ?_
                rintro e w61 ⟨rfl, hb⟩
                refine ⟨_, rfl, ?_⟩
                have n0_ := Aside0.mk (blk_below (g := gb196) (o := .cells #[.int .u64 a0_0, .int .u64 a0_1] 24 (0, 0)) (by (with_reducible repeat (first | refine blk_drewN ?_ _ | refine blk_drew ?_ | refine blk_alloc ?_ _)); exact BK196.out) hb)
                have n1_ := Aside0.mk (blk_below (g := gb233) (o := .cells #[.int .u64 t230, .int .u64 t231] 24 (0, 0)) (by (with_reducible repeat (first | refine blk_drewN ?_ _ | refine blk_drew ?_ | refine blk_alloc ?_ _)); exact BK233.out) hb)
                have n2_ := Aside0.mk (below_step (by repeat (first | (with_reducible first | exact HB.out | apply below_alloc | apply pw_below_drewN | apply below_drew1 | refine below_set ?_ GE196.out | refine below_set ?_ GE233.out) | exact HB.out)) hb)
                clear BK196
                clear BK233
                clear HB
                have BK196 := n0_
                have BK233 := n1_
                have HB := n2_
                clear n0_ n1_ n2_
                (try clear hb)
                (try clear hb2)
                (try clear hk)
                (try clear hi)
                refine hK.out _ _ ⟨(blk_cell BK233.out 0).trans rfl, (blk_cell BK233.out 1).trans rfl, (blk_cell BK196.out 0).trans rfl, (blk_cell BK196.out 1).trans rfl⟩ (fun hHeld => ?_)
                clear hK K
                refine norm_ (a' := ?_) ?_ ?_
                rotate_left
                · show Act.put _ (some 84) _ = _
                  simp only [Act.put, List.setIfInBounds_toArray, List.set_cons_zero, List.set_cons_succ, i64_w, i32_w]
                  rfl
                refine pure_ (i := 17) (N := some 86) (v := ?_) (a' := ?_) #[true, true, true, true, true, true, true, true, true, true, true, true, true, true, true, true, true, true, false, false] rfl rfl (any_of HT_.out (by kernel_rfl)) (fun _ _ _ h => h) (Or.inl ⟨by rfl, ?_⟩) ?_ ?_
                rotate_left
                · intro w'
                  go_simp
                  with_reducible rfl
                rotate_left
                · simp only [Act.put, List.setIfInBounds_toArray, List.set_cons_zero, List.set_cons_succ, i64_w, i32_w]
                  rfl
                refine pure_ (i := 18) (N := some 87) (v := ?_) (a' := ?_) #[true, true, true, true, true, true, true, true, true, true, true, true, true, true, true, true, true, true, true, false] rfl rfl (any_of HT_.out (by kernel_rfl)) (fun _ _ _ h => h) (Or.inl ⟨by rfl, ?_⟩) ?_ ?_
                rotate_left
                · intro w'
                  go_simp
                  with_reducible rfl
                rotate_left
                · simp only [Act.put, List.setIfInBounds_toArray, List.set_cons_zero, List.set_cons_succ, i64_w, i32_w]
                  rfl
                refine pure_ (i := 19) (N := some 6) (v := ?_) (a' := ?_) #[true, true, true, true, true, true, true, true, true, true, true, true, true, true, true, true, true, true, true, true] rfl rfl (any_of HT_.out (by kernel_rfl)) (fun _ _ _ h => h) (Or.inl ⟨by rfl, ?_⟩) ?_ ?_
                rotate_left
                · intro w'
                  go_simp
                  with_reducible rfl
                rotate_left
                · simp only [Act.put, List.setIfInBounds_toArray, List.set_cons_zero, List.set_cons_succ, i64_w, i32_w]
                  rfl
                refine done_ (done_of HT_.out (by kernel_rfl)) ?_
                try go_wp2
                go_ret
                exact ⟨by first | rfl | (simp [errW_none, errW_some] <;> rfl) | (simp [*, errW_none, errW_some] <;> rfl), by repeat (first | (with_reducible first | exact HB.out | apply below_alloc | apply pw_below_drewN | apply below_drew1 | refine below_set ?_ GE196.out | refine below_set ?_ GE233.out) | exact HB.out)⟩
              · rw [if_neg c31] at H
                exact absurd H (by simp)
            · rw [if_neg c29] at H
              exact absurd H (by simp)
  · replace c5 := Bool.eq_false_iff.mpr c5
    subst c5
    have H1 : (none) = some r := by rw [if_neg (show ¬ (false = true) by decide)] at H; exact H
    clear H
    have H := H1
    clear H1
    exact absurd H (by simp)

/-- THE ONE PURE STATEMENT of turnpikelaw1_WordShifts: yours. -/
def turnpikelaw1_WordShifts.Pure : Prop := ∀ (a0_0 : Int) (a0_1 : Int) (a1 : Int) (a2 : Int), (Lit.int .u64 a0_0).wf = true → (Lit.int .u64 a0_1).wf = true → (Lit.int .i64 a1).wf = true → (Lit.int .i64 a2).wf = true → ∃ k, turnpikelaw1_WordShifts.f k a0_0 a0_1 a1 a2 = some true
theorem turnpikelaw1_WordShifts.walk (P : turnpikelaw1_WordShifts.Pure) (a0_0 : Int) (a0_1 : Int) (a1 : Int) (a2 : Int) (w : World) (w0_0 : (Lit.int .u64 a0_0).wf = true) (w0_1 : (Lit.int .u64 a0_1).wf = true) (w1 : (Lit.int .i64 a1).wf = true) (w2 : (Lit.int .i64 a2).wf = true) :
    Calls Try.prog 5 #[.agg #[.int .u64 a0_0, .int .u64 a0_1], .int .i64 a1, .int .i64 a2] w fun e w' => e = .returned (.bool true) ∧ Below w.heap.size w w' := by
  obtain ⟨k, h⟩ := P a0_0 a0_1 a1 a2 w0_0 w0_1 w1 w2
  refine (turnpikelaw1_WordShifts.calls k a0_0 a0_1 a1 a2 true w h).mono ?_
  rintro e w' ⟨rfl, hd⟩
  exact ⟨rfl, hd⟩

end Go.Proofs.Ytoobnnkneppgkaa.F
