-- Written by this session's px.sh, a turned copy of the print, out of the translation. Lean checks it.
import Derived.Test.YtpghpeoclbiloaaFx0
import Derived.Test.YtpghpeoclbiloaaFx7
import Derived.Test.YtpghpeoclbiloaaFx13
namespace Go.Proofs.Ytpghpeoclbiloaa.F
open Go.RowKit Go.Proofs.YtpghpeoclbiloaaW.PrintWords Go.Proofs.YtpghpeoclbiloaaW.PrintLast Go.Proofs.YtpghpeoclbiloaaW.PrintMore
attribute [local go_sem] max2_int min2_int max_two min_two max_three min_three max_four min_four   -- for this text's walks alone
set_option linter.unusedVariables false
set_option linter.unusedSimpArgs false

/-! ### turnpikeref14_Decode: function 19 -/
mutual
def turnpikeref14_Decode.j0 : Nat → List Int → Int → Bool → Option (Int × Int × List Int × Int × Int)
  | 0, _, _, _ => none
  | k + 1, x0, x1, x21 => if x21 = true then (some (0, 0, ([] : List Int), 0, 30)) else ((turnpikeref13_Get.f k x0 (wrap64 (4 * x1)) 4).bind fun bt213 => (if bt213.2 = true then (if (wrap64 (bt213.1 / 16777216)) = 1 then (turnpikeref14_Decode.j1 k x0 x1 (wrap64 (bt213.1 / 16777216)) ((wrap64 (bt213.1 / 16777216)) == 1) (wrap64 (bt213.1 / 16777216)) (wrap64 (Go.bits .and .u32 bt213.1 16777215))) else (turnpikeref14_Decode.j1 k x0 x1 (wrap64 (bt213.1 / 16777216)) ((wrap64 (bt213.1 / 16777216)) == 2) (wrap64 (bt213.1 / 16777216)) (wrap64 (Go.bits .and .u32 bt213.1 16777215)))) else (some (0, 0, ([] : List Int), 0, 30))))
def turnpikeref14_Decode.j2 : Nat → List Int → Int → Int → Int → Option (Int × Int × List Int × Int × Int)
  | 0, _, _, _, _ => none
  | k + 1, x0, x1, x216000, x216001 => if x216000 ≤ 2 then (if x216001 < 1 then (turnpikeref14_Decode.j3 k x0 x1 true x216000 x216001) else (if x216001 > 24 then (turnpikeref14_Decode.j3 k x0 x1 true x216000 x216001) else (if x216000 = 3 then (turnpikeref14_Decode.j3 k x0 x1 (decide (x216001 < 1)) x216000 x216001) else (turnpikeref14_Decode.j3 k x0 x1 false x216000 x216001)))) else (if x216000 = 3 then (turnpikeref14_Decode.j3 k x0 x1 (decide (x216001 < 1)) x216000 x216001) else (turnpikeref14_Decode.j3 k x0 x1 false x216000 x216001))
def turnpikeref14_Decode.j3 : Nat → List Int → Int → Bool → Int → Int → Option (Int × Int × List Int × Int × Int)
  | 0, _, _, _, _, _ => none
  | k + 1, x0, x1, x80, x216000, x216001 => if x80 = true then (some (0, 0, ([] : List Int), 0, 1)) else (if x216000 = 2 then ((turnpikeref14_MapWords.f x216001).bind fun t216 => (if (wrap64 ((wrap64 ((wrap64 ((x0.length : Int) / 4)) - x1)) - 1)) < t216 then (some (0, 0, ([] : List Int), 0, 30)) else (turnpikeref14_Decode.l0 k x0 x1 t216 1 x216000 x216001 ([] : List Int)))) else (some (x216000, x216001, ([] : List Int), 1, 0)))
def turnpikeref14_Decode.l0 : Nat → List Int → Int → Int → Int → Int → Int → List Int → Option (Int × Int × List Int × Int × Int)
  | 0, _, _, _, _, _, _, _ => none
  | k + 1, x0, x1, x10, x11, x216000, x216001, x216002 => if x11 ≤ x10 then ((turnpikeref13_Get.f k x0 (wrap64 (4 * (wrap64 (x1 + x11)))) 4).bind fun bt217 => (if x216002.length < 35184372088832 then (turnpikeref14_Decode.l0 k x0 x1 x10 (wrap64 (x11 + 1)) x216000 x216001 (x216002 ++ [bt217.1])) else (none))) else ((turnpikeref14_isMap.f x216002 x216001).bind fun t222 => (if t222 = true then (some (x216000, x216001, x216002, wrap64 (1 + x10), 0)) else (some (0, 0, ([] : List Int), 0, 25))))
def turnpikeref14_Decode.j1 : Nat → List Int → Int → Int → Bool → Int → Int → Option (Int × Int × List Int × Int × Int)
  | 0, _, _, _, _, _, _ => none
  | k + 1, x0, x1, x41, x43, x216000, x216001 => if x43 = true then (if x216001 > 255 then (some (0, 0, ([] : List Int), 0, 24)) else (turnpikeref14_Decode.j2 k x0 x1 x216000 x216001)) else (if x41 = 3 then (turnpikeref14_Decode.j2 k x0 x1 x216000 x216001) else (if x41 = 4 then (if x216001 > 65535 then (some (0, 0, ([] : List Int), 0, 24)) else (turnpikeref14_Decode.j2 k x0 x1 x216000 x216001)) else (some (0, 0, ([] : List Int), 0, 24))))
end
def turnpikeref14_Decode.f (k : Nat) (l0 : List Int) (a1 : Int) : Option (Int × Int × List Int × Int × Int) := if a1 < 0 then (turnpikeref14_Decode.j0 k l0 a1 true) else (turnpikeref14_Decode.j0 k l0 a1 (decide (a1 ≥ (l0.length : Int))))
theorem turnpikeref14_Decode.mono_l : ∀ k, (∀ y0 y1 y2, LeO (turnpikeref14_Decode.j0 k y0 y1 y2) (turnpikeref14_Decode.j0 (k + 1) y0 y1 y2)) ∧ (∀ y0 y1 y2 y3, LeO (turnpikeref14_Decode.j2 k y0 y1 y2 y3) (turnpikeref14_Decode.j2 (k + 1) y0 y1 y2 y3)) ∧ (∀ y0 y1 y2 y3 y4, LeO (turnpikeref14_Decode.j3 k y0 y1 y2 y3 y4) (turnpikeref14_Decode.j3 (k + 1) y0 y1 y2 y3 y4)) ∧ (∀ y0 y1 y2 y3 y4 y5 y6, LeO (turnpikeref14_Decode.l0 k y0 y1 y2 y3 y4 y5 y6) (turnpikeref14_Decode.l0 (k + 1) y0 y1 y2 y3 y4 y5 y6)) ∧ (∀ y0 y1 y2 y3 y4 y5, LeO (turnpikeref14_Decode.j1 k y0 y1 y2 y3 y4 y5) (turnpikeref14_Decode.j1 (k + 1) y0 y1 y2 y3 y4 y5))
  | 0 => ⟨fun _ _ _ r h => by simp [turnpikeref14_Decode.j0] at h, fun _ _ _ _ r h => by simp [turnpikeref14_Decode.j2] at h, fun _ _ _ _ _ r h => by simp [turnpikeref14_Decode.j3] at h, fun _ _ _ _ _ _ _ r h => by simp [turnpikeref14_Decode.l0] at h, fun _ _ _ _ _ _ r h => by simp [turnpikeref14_Decode.j1] at h⟩
  | k + 1 => by
    obtain ⟨ih0, ih1, ih2, ih3, ih4⟩ := turnpikeref14_Decode.mono_l k
    refine ⟨?_, ?_, ?_, ?_, ?_⟩
    · intro y0 y1 y2
      unfold turnpikeref14_Decode.j0
      repeat' first
      | (with_reducible exact ih0 _ _ _)
      | (with_reducible exact ih1 _ _ _ _)
      | (with_reducible exact ih2 _ _ _ _ _)
      | (with_reducible exact ih3 _ _ _ _ _ _ _)
      | (with_reducible exact ih4 _ _ _ _ _ _)
      | (with_reducible exact turnpikeref13_Get.mono _ _ _ _)
      | (with_reducible exact LeO.refl _)
      | (with_reducible exact LeO.none _)
      | (with_reducible refine LeO.ite ?_ ?_)
      | (with_reducible refine LeO.bind ?_ (fun _ => ?_))
      | exact ih0 _ _ _
      | exact ih1 _ _ _ _
      | exact ih2 _ _ _ _ _
      | exact ih3 _ _ _ _ _ _ _
      | exact ih4 _ _ _ _ _ _
      | exact turnpikeref13_Get.mono _ _ _ _
      | exact LeO.none _
      | refine LeO.ite ?_ ?_
      | refine LeO.bind ?_ (fun _ => ?_)
    · intro y0 y1 y2 y3
      unfold turnpikeref14_Decode.j2
      repeat' first
      | (with_reducible exact ih0 _ _ _)
      | (with_reducible exact ih1 _ _ _ _)
      | (with_reducible exact ih2 _ _ _ _ _)
      | (with_reducible exact ih3 _ _ _ _ _ _ _)
      | (with_reducible exact ih4 _ _ _ _ _ _)
      | (with_reducible exact turnpikeref13_Get.mono _ _ _ _)
      | (with_reducible exact LeO.refl _)
      | (with_reducible exact LeO.none _)
      | (with_reducible refine LeO.ite ?_ ?_)
      | (with_reducible refine LeO.bind ?_ (fun _ => ?_))
      | exact ih0 _ _ _
      | exact ih1 _ _ _ _
      | exact ih2 _ _ _ _ _
      | exact ih3 _ _ _ _ _ _ _
      | exact ih4 _ _ _ _ _ _
      | exact turnpikeref13_Get.mono _ _ _ _
      | exact LeO.none _
      | refine LeO.ite ?_ ?_
      | refine LeO.bind ?_ (fun _ => ?_)
    · intro y0 y1 y2 y3 y4
      unfold turnpikeref14_Decode.j3
      repeat' first
      | (with_reducible exact ih0 _ _ _)
      | (with_reducible exact ih1 _ _ _ _)
      | (with_reducible exact ih2 _ _ _ _ _)
      | (with_reducible exact ih3 _ _ _ _ _ _ _)
      | (with_reducible exact ih4 _ _ _ _ _ _)
      | (with_reducible exact turnpikeref13_Get.mono _ _ _ _)
      | (with_reducible exact LeO.refl _)
      | (with_reducible exact LeO.none _)
      | (with_reducible refine LeO.ite ?_ ?_)
      | (with_reducible refine LeO.bind ?_ (fun _ => ?_))
      | exact ih0 _ _ _
      | exact ih1 _ _ _ _
      | exact ih2 _ _ _ _ _
      | exact ih3 _ _ _ _ _ _ _
      | exact ih4 _ _ _ _ _ _
      | exact turnpikeref13_Get.mono _ _ _ _
      | exact LeO.none _
      | refine LeO.ite ?_ ?_
      | refine LeO.bind ?_ (fun _ => ?_)
    · intro y0 y1 y2 y3 y4 y5 y6
      unfold turnpikeref14_Decode.l0
      repeat' first
      | (with_reducible exact ih0 _ _ _)
      | (with_reducible exact ih1 _ _ _ _)
      | (with_reducible exact ih2 _ _ _ _ _)
      | (with_reducible exact ih3 _ _ _ _ _ _ _)
      | (with_reducible exact ih4 _ _ _ _ _ _)
      | (with_reducible exact turnpikeref13_Get.mono _ _ _ _)
      | (with_reducible exact LeO.refl _)
      | (with_reducible exact LeO.none _)
      | (with_reducible refine LeO.ite ?_ ?_)
      | (with_reducible refine LeO.bind ?_ (fun _ => ?_))
      | exact ih0 _ _ _
      | exact ih1 _ _ _ _
      | exact ih2 _ _ _ _ _
      | exact ih3 _ _ _ _ _ _ _
      | exact ih4 _ _ _ _ _ _
      | exact turnpikeref13_Get.mono _ _ _ _
      | exact LeO.none _
      | refine LeO.ite ?_ ?_
      | refine LeO.bind ?_ (fun _ => ?_)
    · intro y0 y1 y2 y3 y4 y5
      unfold turnpikeref14_Decode.j1
      repeat' first
      | (with_reducible exact ih0 _ _ _)
      | (with_reducible exact ih1 _ _ _ _)
      | (with_reducible exact ih2 _ _ _ _ _)
      | (with_reducible exact ih3 _ _ _ _ _ _ _)
      | (with_reducible exact ih4 _ _ _ _ _ _)
      | (with_reducible exact turnpikeref13_Get.mono _ _ _ _)
      | (with_reducible exact LeO.refl _)
      | (with_reducible exact LeO.none _)
      | (with_reducible refine LeO.ite ?_ ?_)
      | (with_reducible refine LeO.bind ?_ (fun _ => ?_))
      | exact ih0 _ _ _
      | exact ih1 _ _ _ _
      | exact ih2 _ _ _ _ _
      | exact ih3 _ _ _ _ _ _ _
      | exact ih4 _ _ _ _ _ _
      | exact turnpikeref13_Get.mono _ _ _ _
      | exact LeO.none _
      | refine LeO.ite ?_ ?_
      | refine LeO.bind ?_ (fun _ => ?_)
theorem turnpikeref14_Decode.mono : ∀ a0 a1 k, LeO (turnpikeref14_Decode.f k a0 a1) (turnpikeref14_Decode.f (k + 1) a0 a1) := by
  intro a0 a1 k
  obtain ⟨ih0, ih1, ih2, ih3, ih4⟩ := turnpikeref14_Decode.mono_l k
  unfold turnpikeref14_Decode.f
  repeat' first
      | (with_reducible exact ih0 _ _ _)
      | (with_reducible exact ih1 _ _ _ _)
      | (with_reducible exact ih2 _ _ _ _ _)
      | (with_reducible exact ih3 _ _ _ _ _ _ _)
      | (with_reducible exact ih4 _ _ _ _ _ _)
      | (with_reducible exact turnpikeref13_Get.mono _ _ _ _)
      | (with_reducible exact LeO.refl _)
      | (with_reducible exact LeO.none _)
      | (with_reducible refine LeO.ite ?_ ?_)
      | (with_reducible refine LeO.bind ?_ (fun _ => ?_))
      | exact ih0 _ _ _
      | exact ih1 _ _ _ _
      | exact ih2 _ _ _ _ _
      | exact ih3 _ _ _ _ _ _ _
      | exact ih4 _ _ _ _ _ _
      | exact turnpikeref13_Get.mono _ _ _ _
      | exact LeO.none _
      | refine LeO.ite ?_ ?_
      | refine LeO.bind ?_ (fun _ => ?_)
set_option maxHeartbeats 8000000 in
set_option maxRecDepth 100000 in
theorem turnpikeref14_Decode.calls (k : Nat) (A0 : Option Addr) (c0 : Nat) (l0 : List Int) (a1 : Int) (r1 : Int) (r2 : Int) (r3 : List Int) (r4 : Int) (r5 : Int) (w : World) (hr0 : Kd.C (Kd.int .u8) w A0 l0.length l0) (hc0 : l0.length ≤ c0) (h : turnpikeref14_Decode.f k l0 a1 = some (r1, r2, r3, r4, r5)) :
    Calls Try.prog 19 #[.slice A0 l0.length c0, .int .i64 a1] w fun e w' => ∃ v2_ : Value, e = .returned (.tuple #[.agg #[.int .i64 r1, .int .i64 r2, v2_], .int .i64 r4, .int .i64 r5]) ∧ Kd.R (Kd.int .u32) 44 w' w.heap.size (fun _ => True) v2_ r3 ∧ Below w.heap.size w w' := by
  have hu24 := Try.underlying24
  have HR0 := Aside0.mk hr0
  have HC0 := Aside0.mk hc0
  clear hr0 hc0
  have HB := Aside0.mk (Below.refl w.heap.size w)
  have H : (if a1 < 0 then (turnpikeref14_Decode.j0 k l0 a1 true) else (turnpikeref14_Decode.j0 k l0 a1 (decide (a1 ≥ (l0.length : Int))))) = some (r1, r2, r3, r4, r5) := h
  clear h
  have HC3 := Aside0.mk H
  clear H
  go_enter Try.func19, Try.ntmps19
  go_upto_region 1 with (first | ((with_reducible refine gate_dst (N := 4) rfl ?_); (try (refine gate_guard (by rfl) ?_; dsimp only)); refine box_event ?hg (N := 4) ?hd (cs := #[.int .i64 0, .int .i64 0, .slice none 0 0]) (t := 24) ?hr ?_; (case hd => rfl); (case hg => rfl); (case hr => first | (go_simp; done) | (go_simp; rfl)); intro gb212 hg w4 hbox hb; have n0_ := Aside0.mk (below_step (by repeat (first | (with_reducible first | exact HB.out | apply below_alloc | apply pw_below_drewN | apply below_drew1) | exact HB.out)) hb); have n1_ := Aside0.mk (hbox); have n2_ := Aside0.mk ((by rw [hg]; exact (below_size (by repeat (first | (with_reducible first | exact HB.out | apply below_alloc | apply pw_below_drewN | apply below_drew1) | exact HB.out))) : w.heap.size ≤ gb212)); have n3_ := Aside0.mk ((by rw [hg]; exact (below_size (by repeat (first | (with_reducible first | exact HB.out | apply below_alloc | apply pw_below_drewN | apply below_drew1) | exact HB.out))) : w.heap.size ≤ gb212)); clear HB; have HB := n0_; have BK212 := n1_; have GW212 := n2_; have GE212 := n3_; clear n0_ n1_ n2_ n3_; clear hb hbox hg))
  (try simp only [Act.put, List.setIfInBounds_toArray, List.set_cons_zero, List.set_cons_succ])
  go_cut [21] (fun v21 wc => ∃ (kq : Nat) (x21_2 : Bool), v21 = .bool x21_2 ∧ Aside0 (turnpikeref14_Decode.j0 kq l0 a1 x21_2 = some (r1, r2, r3, r4, r5)) ∧ Aside0 (kq ≤ k) ∧ Aside0 (wc.heap[gb212]? = some (.cells #[.int .i64 0, .int .i64 0, (.slice none 0 0)] 24 (0, 0))) ∧ Aside0 (Below w.heap.size w wc))
  case first =>
    have H := HC3.out
    clear HC3
    by_cases c5 : a1 < 0
    · rw [if_pos c5] at H
      have c5b0 : decide (a1 < 0) = true := decide_eq_true c5
      clear c5
      (first | rw [c5b0] | (simp only [i64_w, i32_w]; rw [c5b0]) | skip)
      have H' := Aside0.mk H
      clear H
      go_wp2
      go_meet
      case rel => exact ⟨_, (true), (by first | rfl | (simp; done) | (simp [*]; done)), H', ⟨by first | omega | exact Nat.le_refl _⟩, ⟨by (with_reducible repeat (first | refine blk_drewN ?_ _ | refine blk_drew ?_ | refine blk_alloc ?_ _)); exact BK212.out⟩, ⟨by repeat (first | (with_reducible first | exact HB.out | apply below_alloc | apply pw_below_drewN | apply below_drew1 | refine below_set ?_ GE212.out) | exact HB.out)⟩⟩
    · rw [if_neg c5] at H
      have c5b0 : decide (a1 < 0) = false := decide_eq_false c5
      clear c5
      (first | rw [c5b0] | (simp only [i64_w, i32_w]; rw [c5b0]) | skip)
      have H' := Aside0.mk H
      clear H
      go_wp2
      go_meet
      case rel => exact ⟨_, (decide (a1 ≥ (l0.length : Int))), (by first | rfl | (simp; done) | (simp [*]; done)), H', ⟨by first | omega | exact Nat.le_refl _⟩, ⟨by (with_reducible repeat (first | refine blk_drewN ?_ _ | refine blk_drew ?_ | refine blk_alloc ?_ _)); exact BK212.out⟩, ⟨by repeat (first | (with_reducible first | exact HB.out | apply below_alloc | apply pw_below_drewN | apply below_drew1 | refine below_set ?_ GE212.out) | exact HB.out)⟩⟩
  case rest =>
    clear HC3
    try clear c1
    try clear p2
    try clear c5
    try clear c5b0
    obtain ⟨kq, x21_2, rfl, HA, HJ2, BK212, HB⟩ := hcut
    cases kq with
    | zero => exact absurd HA.out (by simp [turnpikeref14_Decode.j0])
    | succ kj2 =>
      have H := HA.out
      clear HA
      simp only [turnpikeref14_Decode.j0] at H
      by_cases c6 : x21_2 = true
      · subst c6
        have H1 : (some (0, 0, ([] : List Int), 0, 30)) = some (r1, r2, r3, r4, r5) := by rw [if_pos rfl] at H; exact H
        clear H
        have H := H1
        clear H1
        simp only [Option.some.injEq, Prod.mk.injEq] at H
        obtain ⟨rfl, rfl, rfl, rfl, rfl⟩ := H
        have hcz7_0 : wc.cell? ⟨gb212, 0, none⟩ = some (.int .i64 0) := (blk_cell BK212.out 0).trans rfl
        have hcz7_1 : wc.cell? ⟨gb212, 1, none⟩ = some (.int .i64 0) := (blk_cell BK212.out 1).trans rfl
        have hcz7_2 : wc.cell? ⟨gb212, 2, none⟩ = some (.slice none 0 0) := (blk_cell BK212.out 2).trans rfl
        have hfz7_0 := blk_frozen BK212.out 0
        have hfz7_1 := blk_frozen BK212.out 1
        have hfz7_2 := blk_frozen BK212.out 2
        go_wp2
        refine bodyPost_ret (results_ctt rfl _ _ gb212 24 #[.int .i64 0, .int .i64 0, .slice none 0 0] (0, 0) _ rfl (by (with_reducible repeat (first | refine blk_drewN ?_ _ | refine blk_drew ?_ | refine blk_alloc ?_ _)); refine blk_put (cs := #[.int .i64 0, .int .i64 0, .slice none 0 0]) ?_ 2 _ rfl; (with_reducible repeat (first | refine blk_drewN ?_ _ | refine blk_drew ?_ | refine blk_alloc ?_ _)); refine blk_put (cs := #[.int .i64 0, .int .i64 0, .slice none 0 0]) ?_ 1 _ rfl; (with_reducible repeat (first | refine blk_drewN ?_ _ | refine blk_drew ?_ | refine blk_alloc ?_ _)); refine blk_put (cs := #[.int .i64 0, .int .i64 0, .slice none 0 0]) ?_ 0 _ rfl; (with_reducible repeat (first | refine blk_drewN ?_ _ | refine blk_drew ?_ | refine blk_alloc ?_ _)); exact BK212.out) Try.underlying24 rfl (by kernel_rfl)) rfl ?_
        exact ⟨_, by first | rfl | (simp [errW_none, errW_some] <;> rfl) | (simp [*, errW_none, errW_some] <;> rfl), by first | exact Kd.R_nil _ _ _ _ _ | exact Kd.N_nil _ _ _ _ _ | exact Kd.V_nil _ _ _ _ _ | exact Kd.Q_nil _ _ _ _ _ | exact Kd.S_nil _ _ _ _ _, by repeat (first | (with_reducible first | exact HB.out | apply below_alloc | apply pw_below_drewN | apply below_drew1 | refine below_set ?_ GE212.out) | exact HB.out)⟩
      · replace c6 := Bool.eq_false_iff.mpr c6
        subst c6
        have H1 : ((turnpikeref13_Get.f kj2 l0 (wrap64 (4 * a1)) 4).bind fun bt213 => (if bt213.2 = true then (if (wrap64 (bt213.1 / 16777216)) = 1 then (turnpikeref14_Decode.j1 kj2 l0 a1 (wrap64 (bt213.1 / 16777216)) ((wrap64 (bt213.1 / 16777216)) == 1) (wrap64 (bt213.1 / 16777216)) (wrap64 (Go.bits .and .u32 bt213.1 16777215))) else (turnpikeref14_Decode.j1 kj2 l0 a1 (wrap64 (bt213.1 / 16777216)) ((wrap64 (bt213.1 / 16777216)) == 2) (wrap64 (bt213.1 / 16777216)) (wrap64 (Go.bits .and .u32 bt213.1 16777215)))) else (some (0, 0, ([] : List Int), 0, 30)))) = some (r1, r2, r3, r4, r5) := by rw [if_neg (show ¬ (false = true) by decide)] at H; exact H
        clear H
        have H := H1
        clear H1
        replace H := Option.bind_eq_some_iff.mp H
        obtain ⟨⟨t213, t214⟩, A80, H⟩ := H
        replace H : (if t214 = true then (if (wrap64 (t213 / 16777216)) = 1 then (turnpikeref14_Decode.j1 kj2 l0 a1 (wrap64 (t213 / 16777216)) ((wrap64 (t213 / 16777216)) == 1) (wrap64 (t213 / 16777216)) (wrap64 (Go.bits .and .u32 t213 16777215))) else (turnpikeref14_Decode.j1 kj2 l0 a1 (wrap64 (t213 / 16777216)) ((wrap64 (t213 / 16777216)) == 2) (wrap64 (t213 / 16777216)) (wrap64 (Go.bits .and .u32 t213 16777215)))) else (some (0, 0, ([] : List Int), 0, 30))) = some (r1, r2, r3, r4, r5) := H
        have A8 := Aside0.mk A80
        clear A80
        by_cases c9 : t214 = true
        · subst c9
          have H1 : (if (wrap64 (t213 / 16777216)) = 1 then (turnpikeref14_Decode.j1 kj2 l0 a1 (wrap64 (t213 / 16777216)) ((wrap64 (t213 / 16777216)) == 1) (wrap64 (t213 / 16777216)) (wrap64 (Go.bits .and .u32 t213 16777215))) else (turnpikeref14_Decode.j1 kj2 l0 a1 (wrap64 (t213 / 16777216)) ((wrap64 (t213 / 16777216)) == 2) (wrap64 (t213 / 16777216)) (wrap64 (Go.bits .and .u32 t213 16777215)))) = some (r1, r2, r3, r4, r5) := by rw [if_pos rfl] at H; exact H
          clear H
          have H := H1
          clear H1
          have HC10 := Aside0.mk H
          clear H
          go_upto_block 0 with (first | ((with_reducible refine gate_callee (f := 28) rfl ?_); refine goesL_ (some 27) rfl rfl Try.func28 (by kernel_rfl) rfl #[.slice A0 l0.length c0, .int .i64 (wrap64 (4 * a1)), .int .i64 4] rfl (by (try simp only [List.map_toArray, List.map_cons, List.map_nil]); first | done | rfl | (simp only [List.length_drop, List.length_take]; rfl)) ?_; (with_reducible refine (turnpikeref13_Get.calls kj2 _ _ l0 (wrap64 (4 * a1)) 4 t213 true _ ?side1 ?side2 A8.out).mono ?_); (case side1 => repeat (first | exact (Kd.C_below HR0.out HB.out) | (with_reducible refine Kd.C_alloc ?_ _) | (with_reducible refine Kd.C_drewN ?_ _) | (with_reducible refine Kd.C_drew ?_))); (case side2 => exact HC0.out); rintro e w' ⟨rfl, ⟨nd, rfl⟩⟩; refine ⟨_, rfl, ?_⟩; (try (rw [drewN_self wc]; generalize hq_ : World.drewN wc _ = wc; have n0_ : Aside0 (wc.heap[gb212]? = some (.cells #[.int .i64 0, .int .i64 0, .slice none 0 0] 24 (0, 0))) := ⟨by rw [← hq_]; exact (by (with_reducible repeat (first | refine blk_drewN ?_ _ | refine blk_drew ?_ | refine blk_alloc ?_ _)); exact BK212.out)⟩; have n1_ : Aside0 (Below w.heap.size w wc) := ⟨by rw [← hq_]; exact (by repeat (first | (with_reducible first | exact HB.out | apply below_alloc | apply pw_below_drewN | apply below_drew1 | refine below_set ?_ GE212.out) | exact HB.out))⟩; clear BK212 HB hq_; have BK212 := n0_; have HB := n1_; clear n0_ n1_))) | ((with_reducible refine gate_dst (N := 9) rfl ?_); (try (refine gate_guard (by rfl) ?_; dsimp only)); refine box_event ?hg (N := 9) ?hd (cs := #[.int .i64 0, .int .i64 0, .slice none 0 0]) (t := 24) ?hr ?_; (case hd => rfl); (case hg => rfl); (case hr => first | (go_simp; done) | (go_simp; rfl)); intro gb215 hg w11 hbox hb; have n0_ := Aside0.mk (blk_below (g := gb212) (o := .cells #[.int .i64 0, .int .i64 0, .slice none 0 0] 24 (0, 0)) (by (with_reducible repeat (first | refine blk_drewN ?_ _ | refine blk_drew ?_ | refine blk_alloc ?_ _)); exact BK212.out) hb); have n1_ := Aside0.mk (below_step (by repeat (first | (with_reducible first | exact HB.out | apply below_alloc | apply pw_below_drewN | apply below_drew1 | refine below_set ?_ GE212.out) | exact HB.out)) hb); have n2_ := Aside0.mk (hbox); have n3_ := Aside0.mk ((by rw [hg]; exact (below_size (by repeat (first | (with_reducible first | exact HB.out | apply below_alloc | apply pw_below_drewN | apply below_drew1 | refine below_set ?_ GE212.out) | exact HB.out))) : w.heap.size ≤ gb215)); have n4_ := Aside0.mk ((by rw [hg]; exact (below_size (by repeat (first | (with_reducible first | exact HB.out | apply below_alloc | apply pw_below_drewN | apply below_drew1 | refine below_set ?_ GE212.out) | exact HB.out))) : w.heap.size ≤ gb215)); have n5_ := Aside0.mk ((by rw [hg]; exact Nat.ne_of_lt (blk_lt (g := gb212) (o := .cells #[.int .i64 0, .int .i64 0, .slice none 0 0] 24 (0, 0)) (by (with_reducible repeat (first | refine blk_drewN ?_ _ | refine blk_drew ?_ | refine blk_alloc ?_ _)); exact BK212.out)) : gb212 ≠ gb215)); have n6_ := Aside0.mk ((by rw [hg]; exact Nat.ne_of_gt (blk_lt (g := gb212) (o := .cells #[.int .i64 0, .int .i64 0, .slice none 0 0] 24 (0, 0)) (by (with_reducible repeat (first | refine blk_drewN ?_ _ | refine blk_drew ?_ | refine blk_alloc ?_ _)); exact BK212.out)) : gb215 ≠ gb212)); clear BK212; clear HB; have BK212 := n0_; have HB := n1_; have BK215 := n2_; have GW215 := n3_; have GE215 := n4_; have NB212_215 := n5_; have NB215_212 := n6_; clear n0_ n1_ n2_ n3_ n4_ n5_ n6_; clear hb hbox hg; have hnb12 := NB215_212.out; have hnc12 := NB212_215.out; have hcz13_0 : w11.cell? ⟨gb215, 0, none⟩ = some (.int .i64 0) := (blk_cell BK215.out 0).trans rfl; have hcz13_1 : w11.cell? ⟨gb215, 1, none⟩ = some (.int .i64 0) := (blk_cell BK215.out 1).trans rfl; have hcz13_2 : w11.cell? ⟨gb215, 2, none⟩ = some (.slice none 0 0) := (blk_cell BK215.out 2).trans rfl; have hfz13_0 := blk_frozen BK215.out 0; have hfz13_1 := blk_frozen BK215.out 1; have hfz13_2 := blk_frozen BK215.out 2))
          (try simp only [Act.put, List.setIfInBounds_toArray, List.set_cons_zero, List.set_cons_succ])
          go_cut [] (fun wc => ∃ (kq : Nat) (x213000_9 : Int) (x213001_9 : Int), Aside0 (turnpikeref14_Decode.j2 kq l0 a1 (wrap64 (t213 / 16777216)) (wrap64 (Go.bits .and .u32 t213 16777215)) = some (r1, r2, r3, r4, r5)) ∧ Aside0 (kq ≤ kj2) ∧ Aside0 (wc.heap[gb212]? = some (.cells #[.int .i64 x213000_9, .int .i64 x213001_9, (.slice none 0 0)] 24 (0, 0))) ∧ Aside0 (wc.heap[gb215]? = some (.cells #[.int .i64 (wrap64 (t213 / 16777216)), .int .i64 (wrap64 (Go.bits .and .u32 t213 16777215)), (.slice none 0 0)] 24 (0, 0))) ∧ Aside0 (Below w.heap.size w wc))
          case first =>
            have H := HC10.out
            clear HC10
            have HC14 := Aside0.mk H
            clear H
            go_upto_if 43 with (fail)
            go_cut [43] (fun v43 wc => ∃ (kq : Nat) (x43_13 : Bool), v43 = .bool x43_13 ∧ Aside0 (turnpikeref14_Decode.j1 kq l0 a1 (wrap64 (t213 / 16777216)) x43_13 (wrap64 (t213 / 16777216)) (wrap64 (Go.bits .and .u32 t213 16777215)) = some (r1, r2, r3, r4, r5)) ∧ Aside0 (kq ≤ kj2) ∧ Aside0 (wc.heap[gb212]? = some (.cells #[.int .i64 0, .int .i64 0, (.slice none 0 0)] 24 (0, 0))) ∧ Aside0 (wc.heap[gb215]? = some (.cells #[.int .i64 (wrap64 (t213 / 16777216)), .int .i64 (wrap64 (Go.bits .and .u32 t213 16777215)), (.slice none 0 0)] 24 (0, 0))) ∧ Aside0 (Below w.heap.size w wc))
            case first =>
              have H := HC14.out
              clear HC14
              by_cases c15 : (wrap64 (t213 / 16777216)) = 1
              · rw [if_pos c15] at H
                have c15b0 : ((wrap64 (t213 / 16777216)) == 1) = true := beq_iff_eq.mpr c15
                have c15b1 : ((wrap64 (t213 / 16777216)) != 1) = false := bne_eq_false_iff_eq.mpr c15
                clear c15
                (first | rw [c15b0] | (simp only [i64_w, i32_w]; rw [c15b0]) | skip)
                have H' := Aside0.mk H
                clear H
                go_wp2
                go_meet
                case rel => exact ⟨_, (((wrap64 (t213 / 16777216)) == 1)), (by first | rfl | (simp; done) | (simp [*]; done)), H', ⟨by have := HJ2.out; first | omega | exact Nat.le_refl _⟩, ⟨by (with_reducible repeat (first | refine blk_drewN ?_ _ | refine blk_drew ?_ | refine blk_alloc ?_ _)); refine blk_far ?_ NB212_215.out _; (with_reducible repeat (first | refine blk_drewN ?_ _ | refine blk_drew ?_ | refine blk_alloc ?_ _)); refine blk_far ?_ NB212_215.out _; (with_reducible repeat (first | refine blk_drewN ?_ _ | refine blk_drew ?_ | refine blk_alloc ?_ _)); refine blk_far ?_ NB212_215.out _; (with_reducible repeat (first | refine blk_drewN ?_ _ | refine blk_drew ?_ | refine blk_alloc ?_ _)); exact BK212.out⟩, ⟨by (with_reducible repeat (first | refine blk_drewN ?_ _ | refine blk_drew ?_ | refine blk_alloc ?_ _)); refine blk_put (cs := #[.int .i64 (wrap64 (t213 / 16777216)), .int .i64 (wrap64 (Go.bits .and .u32 t213 16777215)), .slice none 0 0]) ?_ 2 _ rfl; (with_reducible repeat (first | refine blk_drewN ?_ _ | refine blk_drew ?_ | refine blk_alloc ?_ _)); refine blk_put (cs := #[.int .i64 (wrap64 (t213 / 16777216)), .int .i64 0, .slice none 0 0]) ?_ 1 _ rfl; (with_reducible repeat (first | refine blk_drewN ?_ _ | refine blk_drew ?_ | refine blk_alloc ?_ _)); refine blk_put (cs := #[.int .i64 0, .int .i64 0, .slice none 0 0]) ?_ 0 _ rfl; (with_reducible repeat (first | refine blk_drewN ?_ _ | refine blk_drew ?_ | refine blk_alloc ?_ _)); exact BK215.out⟩, ⟨by repeat (first | (with_reducible first | exact HB.out | apply below_alloc | apply pw_below_drewN | apply below_drew1 | refine below_set ?_ GE212.out | refine below_set ?_ GE215.out) | exact HB.out)⟩⟩
              · rw [if_neg c15] at H
                have c15b0 : ((wrap64 (t213 / 16777216)) == 1) = false := beq_eq_false_iff_ne.mpr c15
                have c15b1 : ((wrap64 (t213 / 16777216)) != 1) = true := bne_iff_ne.mpr c15
                (first | rw [c15b0] | (simp only [i64_w, i32_w]; rw [c15b0]) | skip)
                have H' := Aside0.mk H
                clear H
                go_wp2
                go_meet
                case rel => exact ⟨_, (((wrap64 (t213 / 16777216)) == 2)), (by first | rfl | (simp; done) | (simp [*]; done)), H', ⟨by have := HJ2.out; first | omega | exact Nat.le_refl _⟩, ⟨by (with_reducible repeat (first | refine blk_drewN ?_ _ | refine blk_drew ?_ | refine blk_alloc ?_ _)); refine blk_far ?_ NB212_215.out _; (with_reducible repeat (first | refine blk_drewN ?_ _ | refine blk_drew ?_ | refine blk_alloc ?_ _)); refine blk_far ?_ NB212_215.out _; (with_reducible repeat (first | refine blk_drewN ?_ _ | refine blk_drew ?_ | refine blk_alloc ?_ _)); refine blk_far ?_ NB212_215.out _; (with_reducible repeat (first | refine blk_drewN ?_ _ | refine blk_drew ?_ | refine blk_alloc ?_ _)); exact BK212.out⟩, ⟨by (with_reducible repeat (first | refine blk_drewN ?_ _ | refine blk_drew ?_ | refine blk_alloc ?_ _)); refine blk_put (cs := #[.int .i64 (wrap64 (t213 / 16777216)), .int .i64 (wrap64 (Go.bits .and .u32 t213 16777215)), .slice none 0 0]) ?_ 2 _ rfl; (with_reducible repeat (first | refine blk_drewN ?_ _ | refine blk_drew ?_ | refine blk_alloc ?_ _)); refine blk_put (cs := #[.int .i64 (wrap64 (t213 / 16777216)), .int .i64 0, .slice none 0 0]) ?_ 1 _ rfl; (with_reducible repeat (first | refine blk_drewN ?_ _ | refine blk_drew ?_ | refine blk_alloc ?_ _)); refine blk_put (cs := #[.int .i64 0, .int .i64 0, .slice none 0 0]) ?_ 0 _ rfl; (with_reducible repeat (first | refine blk_drewN ?_ _ | refine blk_drew ?_ | refine blk_alloc ?_ _)); exact BK215.out⟩, ⟨by repeat (first | (with_reducible first | exact HB.out | apply below_alloc | apply pw_below_drewN | apply below_drew1 | refine below_set ?_ GE212.out | refine below_set ?_ GE215.out) | exact HB.out)⟩⟩
            case rest =>
              clear HC14
              try clear c1
              try clear c2
              try clear p2
              try clear c5
              try clear c5b0
              try clear c6
              try clear p6
              try clear c9
              try clear c12
              try clear c15
              try clear c15b0
              try clear c15b1
              try clear hcz13_0
              try clear hcz13_1
              try clear hcz13_2
              try clear hcz7_0
              try clear hcz7_1
              try clear hcz7_2
              try clear hfz13_0
              try clear hfz13_1
              try clear hfz13_2
              try clear hfz7_0
              try clear hfz7_1
              try clear hfz7_2
              try clear p2
              obtain ⟨kq, x43_13, rfl, HA, HJ13, BK212, BK215, HB⟩ := hcut
              cases kq with
              | zero => exact absurd HA.out (by simp [turnpikeref14_Decode.j1])
              | succ kj13 =>
                have H := HA.out
                clear HA
                simp only [turnpikeref14_Decode.j1] at H
                by_cases c16 : x43_13 = true
                · subst c16
                  have H1 : (if (wrap64 (Go.bits .and .u32 t213 16777215)) > 255 then (some (0, 0, ([] : List Int), 0, 24)) else (turnpikeref14_Decode.j2 kj13 l0 a1 (wrap64 (t213 / 16777216)) (wrap64 (Go.bits .and .u32 t213 16777215)))) = some (r1, r2, r3, r4, r5) := by rw [if_pos rfl] at H; exact H
                  clear H
                  have H := H1
                  clear H1
                  by_cases c17 : (wrap64 (Go.bits .and .u32 t213 16777215)) > 255
                  · rw [if_pos c17] at H
                    have c17b0 : decide (255 < (wrap64 (Go.bits .and .u32 t213 16777215))) = true := decide_eq_true c17
                    clear c17
                    simp only [Option.some.injEq, Prod.mk.injEq] at H
                    obtain ⟨rfl, rfl, rfl, rfl, rfl⟩ := H
                    have hnb18 := NB215_212.out
                    have hnc18 := NB212_215.out
                    have hcz19_0 : wc.cell? ⟨gb215, 0, none⟩ = some (.int .i64 (wrap64 (t213 / 16777216))) := (blk_cell BK215.out 0).trans rfl
                    have hcz19_1 : wc.cell? ⟨gb215, 1, none⟩ = some (.int .i64 (wrap64 (Go.bits .and .u32 t213 16777215))) := (blk_cell BK215.out 1).trans rfl
                    have hcz19_2 : wc.cell? ⟨gb215, 2, none⟩ = some (.slice none 0 0) := (blk_cell BK215.out 2).trans rfl
                    have hfz19_0 := blk_frozen BK215.out 0
                    have hfz19_1 := blk_frozen BK215.out 1
                    have hfz19_2 := blk_frozen BK215.out 2
                    have hcz20_0 : wc.cell? ⟨gb212, 0, none⟩ = some (.int .i64 0) := (blk_cell BK212.out 0).trans rfl
                    have hcz20_1 : wc.cell? ⟨gb212, 1, none⟩ = some (.int .i64 0) := (blk_cell BK212.out 1).trans rfl
                    have hcz20_2 : wc.cell? ⟨gb212, 2, none⟩ = some (.slice none 0 0) := (blk_cell BK212.out 2).trans rfl
                    have hfz20_0 := blk_frozen BK212.out 0
                    have hfz20_1 := blk_frozen BK212.out 1
                    have hfz20_2 := blk_frozen BK212.out 2
                    go_wp2
                    refine bodyPost_ret (results_ctt rfl _ _ gb212 24 #[.int .i64 0, .int .i64 0, .slice none 0 0] (0, 0) _ rfl (by (with_reducible repeat (first | refine blk_drewN ?_ _ | refine blk_drew ?_ | refine blk_alloc ?_ _)); refine blk_put (cs := #[.int .i64 0, .int .i64 0, .slice none 0 0]) ?_ 2 _ rfl; (with_reducible repeat (first | refine blk_drewN ?_ _ | refine blk_drew ?_ | refine blk_alloc ?_ _)); refine blk_put (cs := #[.int .i64 0, .int .i64 0, .slice none 0 0]) ?_ 1 _ rfl; (with_reducible repeat (first | refine blk_drewN ?_ _ | refine blk_drew ?_ | refine blk_alloc ?_ _)); refine blk_put (cs := #[.int .i64 0, .int .i64 0, .slice none 0 0]) ?_ 0 _ rfl; (with_reducible repeat (first | refine blk_drewN ?_ _ | refine blk_drew ?_ | refine blk_alloc ?_ _)); exact BK212.out) Try.underlying24 rfl (by kernel_rfl)) rfl ?_
                    exact ⟨_, by first | rfl | (simp [errW_none, errW_some] <;> rfl) | (simp [*, errW_none, errW_some] <;> rfl), by first | exact Kd.R_nil _ _ _ _ _ | exact Kd.N_nil _ _ _ _ _ | exact Kd.V_nil _ _ _ _ _ | exact Kd.Q_nil _ _ _ _ _ | exact Kd.S_nil _ _ _ _ _, by repeat (first | (with_reducible first | exact HB.out | apply below_alloc | apply pw_below_drewN | apply below_drew1 | refine below_set ?_ GE212.out | refine below_set ?_ GE215.out) | exact HB.out)⟩
                  · rw [if_neg c17] at H
                    have c17b0 : decide (255 < (wrap64 (Go.bits .and .u32 t213 16777215))) = false := decide_eq_false c17
                    clear c17
                    have H' := Aside0.mk H
                    clear H
                    have hnb21 := NB215_212.out
                    have hnc21 := NB212_215.out
                    have hcz22_0 : wc.cell? ⟨gb215, 0, none⟩ = some (.int .i64 (wrap64 (t213 / 16777216))) := (blk_cell BK215.out 0).trans rfl
                    have hcz22_1 : wc.cell? ⟨gb215, 1, none⟩ = some (.int .i64 (wrap64 (Go.bits .and .u32 t213 16777215))) := (blk_cell BK215.out 1).trans rfl
                    have hcz22_2 : wc.cell? ⟨gb215, 2, none⟩ = some (.slice none 0 0) := (blk_cell BK215.out 2).trans rfl
                    have hfz22_0 := blk_frozen BK215.out 0
                    have hfz22_1 := blk_frozen BK215.out 1
                    have hfz22_2 := blk_frozen BK215.out 2
                    go_wp2
                    go_meet
                    case rel => exact ⟨_, (0), (0), H', ⟨by have := HJ2.out; have := HJ13.out; first | omega | exact Nat.le_refl _⟩, ⟨by (with_reducible repeat (first | refine blk_drewN ?_ _ | refine blk_drew ?_ | refine blk_alloc ?_ _)); exact BK212.out⟩, ⟨by (with_reducible repeat (first | refine blk_drewN ?_ _ | refine blk_drew ?_ | refine blk_alloc ?_ _)); exact BK215.out⟩, ⟨by repeat (first | (with_reducible first | exact HB.out | apply below_alloc | apply pw_below_drewN | apply below_drew1 | refine below_set ?_ GE212.out | refine below_set ?_ GE215.out) | exact HB.out)⟩⟩
                · replace c16 := Bool.eq_false_iff.mpr c16
                  subst c16
                  have H1 : (if (wrap64 (t213 / 16777216)) = 3 then (turnpikeref14_Decode.j2 kj13 l0 a1 (wrap64 (t213 / 16777216)) (wrap64 (Go.bits .and .u32 t213 16777215))) else (if (wrap64 (t213 / 16777216)) = 4 then (if (wrap64 (Go.bits .and .u32 t213 16777215)) > 65535 then (some (0, 0, ([] : List Int), 0, 24)) else (turnpikeref14_Decode.j2 kj13 l0 a1 (wrap64 (t213 / 16777216)) (wrap64 (Go.bits .and .u32 t213 16777215)))) else (some (0, 0, ([] : List Int), 0, 24)))) = some (r1, r2, r3, r4, r5) := by rw [if_neg (show ¬ (false = true) by decide)] at H; exact H
                  clear H
                  have H := H1
                  clear H1
                  by_cases c23 : (wrap64 (t213 / 16777216)) = 3
                  · rw [if_pos c23] at H
                    have c23b0 : ((wrap64 (t213 / 16777216)) == 3) = true := beq_iff_eq.mpr c23
                    have c23b1 : ((wrap64 (t213 / 16777216)) != 3) = false := bne_eq_false_iff_eq.mpr c23
                    clear c23
                    have H' := Aside0.mk H
                    clear H
                    go_wp2
                    go_meet
                    case rel => exact ⟨_, (0), (0), H', ⟨by have := HJ2.out; have := HJ13.out; first | omega | exact Nat.le_refl _⟩, ⟨by (with_reducible repeat (first | refine blk_drewN ?_ _ | refine blk_drew ?_ | refine blk_alloc ?_ _)); exact BK212.out⟩, ⟨by (with_reducible repeat (first | refine blk_drewN ?_ _ | refine blk_drew ?_ | refine blk_alloc ?_ _)); exact BK215.out⟩, ⟨by repeat (first | (with_reducible first | exact HB.out | apply below_alloc | apply pw_below_drewN | apply below_drew1 | refine below_set ?_ GE212.out | refine below_set ?_ GE215.out) | exact HB.out)⟩⟩
                  · rw [if_neg c23] at H
                    have c23b0 : ((wrap64 (t213 / 16777216)) == 3) = false := beq_eq_false_iff_ne.mpr c23
                    have c23b1 : ((wrap64 (t213 / 16777216)) != 3) = true := bne_iff_ne.mpr c23
                    by_cases c24 : (wrap64 (t213 / 16777216)) = 4
                    · rw [if_pos c24] at H
                      have c24b0 : ((wrap64 (t213 / 16777216)) == 4) = true := beq_iff_eq.mpr c24
                      have c24b1 : ((wrap64 (t213 / 16777216)) != 4) = false := bne_eq_false_iff_eq.mpr c24
                      clear c24
                      by_cases c25 : (wrap64 (Go.bits .and .u32 t213 16777215)) > 65535
                      · rw [if_pos c25] at H
                        have c25b0 : decide (65535 < (wrap64 (Go.bits .and .u32 t213 16777215))) = true := decide_eq_true c25
                        clear c25
                        simp only [Option.some.injEq, Prod.mk.injEq] at H
                        obtain ⟨rfl, rfl, rfl, rfl, rfl⟩ := H
                        have hnb26 := NB215_212.out
                        have hnc26 := NB212_215.out
                        have hcz27_0 : wc.cell? ⟨gb215, 0, none⟩ = some (.int .i64 (wrap64 (t213 / 16777216))) := (blk_cell BK215.out 0).trans rfl
                        have hcz27_1 : wc.cell? ⟨gb215, 1, none⟩ = some (.int .i64 (wrap64 (Go.bits .and .u32 t213 16777215))) := (blk_cell BK215.out 1).trans rfl
                        have hcz27_2 : wc.cell? ⟨gb215, 2, none⟩ = some (.slice none 0 0) := (blk_cell BK215.out 2).trans rfl
                        have hfz27_0 := blk_frozen BK215.out 0
                        have hfz27_1 := blk_frozen BK215.out 1
                        have hfz27_2 := blk_frozen BK215.out 2
                        have hcz28_0 : wc.cell? ⟨gb212, 0, none⟩ = some (.int .i64 0) := (blk_cell BK212.out 0).trans rfl
                        have hcz28_1 : wc.cell? ⟨gb212, 1, none⟩ = some (.int .i64 0) := (blk_cell BK212.out 1).trans rfl
                        have hcz28_2 : wc.cell? ⟨gb212, 2, none⟩ = some (.slice none 0 0) := (blk_cell BK212.out 2).trans rfl
                        have hfz28_0 := blk_frozen BK212.out 0
                        have hfz28_1 := blk_frozen BK212.out 1
                        have hfz28_2 := blk_frozen BK212.out 2
                        go_wp2
                        refine bodyPost_ret (results_ctt rfl _ _ gb212 24 #[.int .i64 0, .int .i64 0, .slice none 0 0] (0, 0) _ rfl (by (with_reducible repeat (first | refine blk_drewN ?_ _ | refine blk_drew ?_ | refine blk_alloc ?_ _)); refine blk_put (cs := #[.int .i64 0, .int .i64 0, .slice none 0 0]) ?_ 2 _ rfl; (with_reducible repeat (first | refine blk_drewN ?_ _ | refine blk_drew ?_ | refine blk_alloc ?_ _)); refine blk_put (cs := #[.int .i64 0, .int .i64 0, .slice none 0 0]) ?_ 1 _ rfl; (with_reducible repeat (first | refine blk_drewN ?_ _ | refine blk_drew ?_ | refine blk_alloc ?_ _)); refine blk_put (cs := #[.int .i64 0, .int .i64 0, .slice none 0 0]) ?_ 0 _ rfl; (with_reducible repeat (first | refine blk_drewN ?_ _ | refine blk_drew ?_ | refine blk_alloc ?_ _)); exact BK212.out) Try.underlying24 rfl (by kernel_rfl)) rfl ?_
                        exact ⟨_, by first | rfl | (simp [errW_none, errW_some] <;> rfl) | (simp [*, errW_none, errW_some] <;> rfl), by first | exact Kd.R_nil _ _ _ _ _ | exact Kd.N_nil _ _ _ _ _ | exact Kd.V_nil _ _ _ _ _ | exact Kd.Q_nil _ _ _ _ _ | exact Kd.S_nil _ _ _ _ _, by repeat (first | (with_reducible first | exact HB.out | apply below_alloc | apply pw_below_drewN | apply below_drew1 | refine below_set ?_ GE212.out | refine below_set ?_ GE215.out) | exact HB.out)⟩
                      · rw [if_neg c25] at H
                        have c25b0 : decide (65535 < (wrap64 (Go.bits .and .u32 t213 16777215))) = false := decide_eq_false c25
                        clear c25
                        have H' := Aside0.mk H
                        clear H
                        have hnb29 := NB215_212.out
                        have hnc29 := NB212_215.out
                        have hcz30_0 : wc.cell? ⟨gb215, 0, none⟩ = some (.int .i64 (wrap64 (t213 / 16777216))) := (blk_cell BK215.out 0).trans rfl
                        have hcz30_1 : wc.cell? ⟨gb215, 1, none⟩ = some (.int .i64 (wrap64 (Go.bits .and .u32 t213 16777215))) := (blk_cell BK215.out 1).trans rfl
                        have hcz30_2 : wc.cell? ⟨gb215, 2, none⟩ = some (.slice none 0 0) := (blk_cell BK215.out 2).trans rfl
                        have hfz30_0 := blk_frozen BK215.out 0
                        have hfz30_1 := blk_frozen BK215.out 1
                        have hfz30_2 := blk_frozen BK215.out 2
                        go_wp2
                        go_meet
                        case rel => exact ⟨_, (0), (0), H', ⟨by have := HJ2.out; have := HJ13.out; first | omega | exact Nat.le_refl _⟩, ⟨by (with_reducible repeat (first | refine blk_drewN ?_ _ | refine blk_drew ?_ | refine blk_alloc ?_ _)); exact BK212.out⟩, ⟨by (with_reducible repeat (first | refine blk_drewN ?_ _ | refine blk_drew ?_ | refine blk_alloc ?_ _)); exact BK215.out⟩, ⟨by repeat (first | (with_reducible first | exact HB.out | apply below_alloc | apply pw_below_drewN | apply below_drew1 | refine below_set ?_ GE212.out | refine below_set ?_ GE215.out) | exact HB.out)⟩⟩
                    · rw [if_neg c24] at H
                      have c24b0 : ((wrap64 (t213 / 16777216)) == 4) = false := beq_eq_false_iff_ne.mpr c24
                      have c24b1 : ((wrap64 (t213 / 16777216)) != 4) = true := bne_iff_ne.mpr c24
                      simp only [Option.some.injEq, Prod.mk.injEq] at H
                      obtain ⟨rfl, rfl, rfl, rfl, rfl⟩ := H
                      have hnb31 := NB212_215.out
                      have hnc31 := NB215_212.out
                      have hcz32_0 : wc.cell? ⟨gb212, 0, none⟩ = some (.int .i64 0) := (blk_cell BK212.out 0).trans rfl
                      have hcz32_1 : wc.cell? ⟨gb212, 1, none⟩ = some (.int .i64 0) := (blk_cell BK212.out 1).trans rfl
                      have hcz32_2 : wc.cell? ⟨gb212, 2, none⟩ = some (.slice none 0 0) := (blk_cell BK212.out 2).trans rfl
                      have hfz32_0 := blk_frozen BK212.out 0
                      have hfz32_1 := blk_frozen BK212.out 1
                      have hfz32_2 := blk_frozen BK212.out 2
                      go_wp2
                      refine bodyPost_ret (results_ctt rfl _ _ gb212 24 #[.int .i64 0, .int .i64 0, .slice none 0 0] (0, 0) _ rfl (by (with_reducible repeat (first | refine blk_drewN ?_ _ | refine blk_drew ?_ | refine blk_alloc ?_ _)); refine blk_put (cs := #[.int .i64 0, .int .i64 0, .slice none 0 0]) ?_ 2 _ rfl; (with_reducible repeat (first | refine blk_drewN ?_ _ | refine blk_drew ?_ | refine blk_alloc ?_ _)); refine blk_put (cs := #[.int .i64 0, .int .i64 0, .slice none 0 0]) ?_ 1 _ rfl; (with_reducible repeat (first | refine blk_drewN ?_ _ | refine blk_drew ?_ | refine blk_alloc ?_ _)); refine blk_put (cs := #[.int .i64 0, .int .i64 0, .slice none 0 0]) ?_ 0 _ rfl; (with_reducible repeat (first | refine blk_drewN ?_ _ | refine blk_drew ?_ | refine blk_alloc ?_ _)); exact BK212.out) Try.underlying24 rfl (by kernel_rfl)) rfl ?_
                      exact ⟨_, by first | rfl | (simp [errW_none, errW_some] <;> rfl) | (simp [*, errW_none, errW_some] <;> rfl), by first | exact Kd.R_nil _ _ _ _ _ | exact Kd.N_nil _ _ _ _ _ | exact Kd.V_nil _ _ _ _ _ | exact Kd.Q_nil _ _ _ _ _ | exact Kd.S_nil _ _ _ _ _, by repeat (first | (with_reducible first | exact HB.out | apply below_alloc | apply pw_below_drewN | apply below_drew1 | refine below_set ?_ GE212.out | refine below_set ?_ GE215.out) | exact HB.out)⟩
          case rest =>
            clear HC10
            try clear c1
            try clear c2
            try clear p2
            try clear c3
            try clear c5
            try clear c5b0
            try clear c6
            try clear p6
            try clear c9
            try clear c12
            try clear c15
            try clear c15b0
            try clear c15b1
            try clear c16
            try clear c17
            try clear c17b0
            try clear c18
            try clear c19
            try clear c21
            try clear c23
            try clear c23b0
            try clear c23b1
            try clear c24
            try clear c24b0
            try clear c24b1
            try clear c25
            try clear c25b0
            try clear c26
            try clear c28
            try clear c29
            try clear c31
            try clear hcz13_0
            try clear hcz13_1
            try clear hcz13_2
            try clear hcz19_0
            try clear hcz19_1
            try clear hcz19_2
            try clear hcz20_0
            try clear hcz20_1
            try clear hcz20_2
            try clear hcz22_0
            try clear hcz22_1
            try clear hcz22_2
            try clear hcz27_0
            try clear hcz27_1
            try clear hcz27_2
            try clear hcz28_0
            try clear hcz28_1
            try clear hcz28_2
            try clear hcz30_0
            try clear hcz30_1
            try clear hcz30_2
            try clear hcz32_0
            try clear hcz32_1
            try clear hcz32_2
            try clear hcz7_0
            try clear hcz7_1
            try clear hcz7_2
            try clear hfz13_0
            try clear hfz13_1
            try clear hfz13_2
            try clear hfz19_0
            try clear hfz19_1
            try clear hfz19_2
            try clear hfz20_0
            try clear hfz20_1
            try clear hfz20_2
            try clear hfz22_0
            try clear hfz22_1
            try clear hfz22_2
            try clear hfz27_0
            try clear hfz27_1
            try clear hfz27_2
            try clear hfz28_0
            try clear hfz28_1
            try clear hfz28_2
            try clear hfz30_0
            try clear hfz30_1
            try clear hfz30_2
            try clear hfz32_0
            try clear hfz32_1
            try clear hfz32_2
            try clear hfz7_0
            try clear hfz7_1
            try clear hfz7_2
            try clear p2
            try clear p6
            obtain ⟨kq, x213000_9, x213001_9, HA, HJ9, BK212, BK215, HB⟩ := hcut
            cases kq with
            | zero => exact absurd HA.out (by simp [turnpikeref14_Decode.j2])
            | succ kj9 =>
              have H := HA.out
              clear HA
              simp only [turnpikeref14_Decode.j2] at H
              have HC33 := Aside0.mk H
              clear H
              go_upto_region 17 with (fail)
              go_cut [80] (fun v80 wc => ∃ (kq : Nat) (x80_32 : Bool), v80 = .bool x80_32 ∧ Aside0 (turnpikeref14_Decode.j3 kq l0 a1 x80_32 (wrap64 (t213 / 16777216)) (wrap64 (Go.bits .and .u32 t213 16777215)) = some (r1, r2, r3, r4, r5)) ∧ Aside0 (kq ≤ kj9) ∧ Aside0 (wc.heap[gb212]? = some (.cells #[.int .i64 x213000_9, .int .i64 x213001_9, (.slice none 0 0)] 24 (0, 0))) ∧ Aside0 (wc.heap[gb215]? = some (.cells #[.int .i64 (wrap64 (t213 / 16777216)), .int .i64 (wrap64 (Go.bits .and .u32 t213 16777215)), (.slice none 0 0)] 24 (0, 0))) ∧ Aside0 (Below w.heap.size w wc))
              case first =>
                have H := HC33.out
                clear HC33
                by_cases c34 : (wrap64 (t213 / 16777216)) ≤ 2
                · rw [if_pos c34] at H
                  have c34b0 : decide ((wrap64 (t213 / 16777216)) ≤ 2) = true := decide_eq_true c34
                  clear c34
                  (first | rw [c34b0] | (simp only [i64_w, i32_w]; rw [c34b0]) | skip)
                  by_cases c35 : (wrap64 (Go.bits .and .u32 t213 16777215)) < 1
                  · rw [if_pos c35] at H
                    have c35b0 : decide ((wrap64 (Go.bits .and .u32 t213 16777215)) < 1) = true := decide_eq_true c35
                    clear c35
                    have H' := Aside0.mk H
                    clear H
                    have hnb36 := NB215_212.out
                    have hnc36 := NB212_215.out
                    have hcz37_0 : wc.cell? ⟨gb215, 0, none⟩ = some (.int .i64 (wrap64 (t213 / 16777216))) := (blk_cell BK215.out 0).trans rfl
                    have hcz37_1 : wc.cell? ⟨gb215, 1, none⟩ = some (.int .i64 (wrap64 (Go.bits .and .u32 t213 16777215))) := (blk_cell BK215.out 1).trans rfl
                    have hcz37_2 : wc.cell? ⟨gb215, 2, none⟩ = some (.slice none 0 0) := (blk_cell BK215.out 2).trans rfl
                    have hfz37_0 := blk_frozen BK215.out 0
                    have hfz37_1 := blk_frozen BK215.out 1
                    have hfz37_2 := blk_frozen BK215.out 2
                    go_wp2
                    go_meet
                    case rel => exact ⟨_, (true), (by first | rfl | (simp; done) | (simp [*]; done)), H', ⟨by have := HJ2.out; have := HJ9.out; first | omega | exact Nat.le_refl _⟩, ⟨by (with_reducible repeat (first | refine blk_drewN ?_ _ | refine blk_drew ?_ | refine blk_alloc ?_ _)); exact BK212.out⟩, ⟨by (with_reducible repeat (first | refine blk_drewN ?_ _ | refine blk_drew ?_ | refine blk_alloc ?_ _)); exact BK215.out⟩, ⟨by repeat (first | (with_reducible first | exact HB.out | apply below_alloc | apply pw_below_drewN | apply below_drew1 | refine below_set ?_ GE212.out | refine below_set ?_ GE215.out) | exact HB.out)⟩⟩
                  · rw [if_neg c35] at H
                    have c35b0 : decide ((wrap64 (Go.bits .and .u32 t213 16777215)) < 1) = false := decide_eq_false c35
                    clear c35
                    by_cases c38 : (wrap64 (Go.bits .and .u32 t213 16777215)) > 24
                    · rw [if_pos c38] at H
                      have c38b0 : decide (24 < (wrap64 (Go.bits .and .u32 t213 16777215))) = true := decide_eq_true c38
                      clear c38
                      have H' := Aside0.mk H
                      clear H
                      have hnb39 := NB215_212.out
                      have hnc39 := NB212_215.out
                      have hcz40_0 : wc.cell? ⟨gb215, 0, none⟩ = some (.int .i64 (wrap64 (t213 / 16777216))) := (blk_cell BK215.out 0).trans rfl
                      have hcz40_1 : wc.cell? ⟨gb215, 1, none⟩ = some (.int .i64 (wrap64 (Go.bits .and .u32 t213 16777215))) := (blk_cell BK215.out 1).trans rfl
                      have hcz40_2 : wc.cell? ⟨gb215, 2, none⟩ = some (.slice none 0 0) := (blk_cell BK215.out 2).trans rfl
                      have hfz40_0 := blk_frozen BK215.out 0
                      have hfz40_1 := blk_frozen BK215.out 1
                      have hfz40_2 := blk_frozen BK215.out 2
                      go_wp2
                      go_meet
                      case rel => exact ⟨_, (true), (by first | rfl | (simp; done) | (simp [*]; done)), H', ⟨by have := HJ2.out; have := HJ9.out; first | omega | exact Nat.le_refl _⟩, ⟨by (with_reducible repeat (first | refine blk_drewN ?_ _ | refine blk_drew ?_ | refine blk_alloc ?_ _)); exact BK212.out⟩, ⟨by (with_reducible repeat (first | refine blk_drewN ?_ _ | refine blk_drew ?_ | refine blk_alloc ?_ _)); exact BK215.out⟩, ⟨by repeat (first | (with_reducible first | exact HB.out | apply below_alloc | apply pw_below_drewN | apply below_drew1 | refine below_set ?_ GE212.out | refine below_set ?_ GE215.out) | exact HB.out)⟩⟩
                    · rw [if_neg c38] at H
                      have c38b0 : decide (24 < (wrap64 (Go.bits .and .u32 t213 16777215))) = false := decide_eq_false c38
                      clear c38
                      by_cases c41 : (wrap64 (t213 / 16777216)) = 3
                      · rw [if_pos c41] at H
                        have c41b0 : ((wrap64 (t213 / 16777216)) == 3) = true := beq_iff_eq.mpr c41
                        have c41b1 : ((wrap64 (t213 / 16777216)) != 3) = false := bne_eq_false_iff_eq.mpr c41
                        clear c41
                        have H' := Aside0.mk H
                        clear H
                        have hnb42 := NB215_212.out
                        have hnc42 := NB212_215.out
                        have hcz43_0 : wc.cell? ⟨gb215, 0, none⟩ = some (.int .i64 (wrap64 (t213 / 16777216))) := (blk_cell BK215.out 0).trans rfl
                        have hcz43_1 : wc.cell? ⟨gb215, 1, none⟩ = some (.int .i64 (wrap64 (Go.bits .and .u32 t213 16777215))) := (blk_cell BK215.out 1).trans rfl
                        have hcz43_2 : wc.cell? ⟨gb215, 2, none⟩ = some (.slice none 0 0) := (blk_cell BK215.out 2).trans rfl
                        have hfz43_0 := blk_frozen BK215.out 0
                        have hfz43_1 := blk_frozen BK215.out 1
                        have hfz43_2 := blk_frozen BK215.out 2
                        go_wp2
                        go_meet
                        case rel => exact ⟨_, (decide ((wrap64 (Go.bits .and .u32 t213 16777215)) < 1)), (by first | rfl | (simp; done) | (simp [*]; done)), H', ⟨by have := HJ2.out; have := HJ9.out; first | omega | exact Nat.le_refl _⟩, ⟨by (with_reducible repeat (first | refine blk_drewN ?_ _ | refine blk_drew ?_ | refine blk_alloc ?_ _)); exact BK212.out⟩, ⟨by (with_reducible repeat (first | refine blk_drewN ?_ _ | refine blk_drew ?_ | refine blk_alloc ?_ _)); exact BK215.out⟩, ⟨by repeat (first | (with_reducible first | exact HB.out | apply below_alloc | apply pw_below_drewN | apply below_drew1 | refine below_set ?_ GE212.out | refine below_set ?_ GE215.out) | exact HB.out)⟩⟩
                      · rw [if_neg c41] at H
                        have c41b0 : ((wrap64 (t213 / 16777216)) == 3) = false := beq_eq_false_iff_ne.mpr c41
                        have c41b1 : ((wrap64 (t213 / 16777216)) != 3) = true := bne_iff_ne.mpr c41
                        have H' := Aside0.mk H
                        clear H
                        have hnb44 := NB215_212.out
                        have hnc44 := NB212_215.out
                        have hcz45_0 : wc.cell? ⟨gb215, 0, none⟩ = some (.int .i64 (wrap64 (t213 / 16777216))) := (blk_cell BK215.out 0).trans rfl
                        have hcz45_1 : wc.cell? ⟨gb215, 1, none⟩ = some (.int .i64 (wrap64 (Go.bits .and .u32 t213 16777215))) := (blk_cell BK215.out 1).trans rfl
                        have hcz45_2 : wc.cell? ⟨gb215, 2, none⟩ = some (.slice none 0 0) := (blk_cell BK215.out 2).trans rfl
                        have hfz45_0 := blk_frozen BK215.out 0
                        have hfz45_1 := blk_frozen BK215.out 1
                        have hfz45_2 := blk_frozen BK215.out 2
                        go_wp2
                        go_meet
                        case rel => exact ⟨_, (false), (by first | rfl | (simp; done) | (simp [*]; done)), H', ⟨by have := HJ2.out; have := HJ9.out; first | omega | exact Nat.le_refl _⟩, ⟨by (with_reducible repeat (first | refine blk_drewN ?_ _ | refine blk_drew ?_ | refine blk_alloc ?_ _)); exact BK212.out⟩, ⟨by (with_reducible repeat (first | refine blk_drewN ?_ _ | refine blk_drew ?_ | refine blk_alloc ?_ _)); exact BK215.out⟩, ⟨by repeat (first | (with_reducible first | exact HB.out | apply below_alloc | apply pw_below_drewN | apply below_drew1 | refine below_set ?_ GE212.out | refine below_set ?_ GE215.out) | exact HB.out)⟩⟩
                · rw [if_neg c34] at H
                  have c34b0 : decide ((wrap64 (t213 / 16777216)) ≤ 2) = false := decide_eq_false c34
                  clear c34
                  (first | rw [c34b0] | (simp only [i64_w, i32_w]; rw [c34b0]) | skip)
                  by_cases c46 : (wrap64 (t213 / 16777216)) = 3
                  · rw [if_pos c46] at H
                    have c46b0 : ((wrap64 (t213 / 16777216)) == 3) = true := beq_iff_eq.mpr c46
                    have c46b1 : ((wrap64 (t213 / 16777216)) != 3) = false := bne_eq_false_iff_eq.mpr c46
                    clear c46
                    have H' := Aside0.mk H
                    clear H
                    have hnb47 := NB215_212.out
                    have hnc47 := NB212_215.out
                    have hcz48_0 : wc.cell? ⟨gb215, 0, none⟩ = some (.int .i64 (wrap64 (t213 / 16777216))) := (blk_cell BK215.out 0).trans rfl
                    have hcz48_1 : wc.cell? ⟨gb215, 1, none⟩ = some (.int .i64 (wrap64 (Go.bits .and .u32 t213 16777215))) := (blk_cell BK215.out 1).trans rfl
                    have hcz48_2 : wc.cell? ⟨gb215, 2, none⟩ = some (.slice none 0 0) := (blk_cell BK215.out 2).trans rfl
                    have hfz48_0 := blk_frozen BK215.out 0
                    have hfz48_1 := blk_frozen BK215.out 1
                    have hfz48_2 := blk_frozen BK215.out 2
                    go_wp2
                    go_meet
                    case rel => exact ⟨_, (decide ((wrap64 (Go.bits .and .u32 t213 16777215)) < 1)), (by first | rfl | (simp; done) | (simp [*]; done)), H', ⟨by have := HJ2.out; have := HJ9.out; first | omega | exact Nat.le_refl _⟩, ⟨by (with_reducible repeat (first | refine blk_drewN ?_ _ | refine blk_drew ?_ | refine blk_alloc ?_ _)); exact BK212.out⟩, ⟨by (with_reducible repeat (first | refine blk_drewN ?_ _ | refine blk_drew ?_ | refine blk_alloc ?_ _)); exact BK215.out⟩, ⟨by repeat (first | (with_reducible first | exact HB.out | apply below_alloc | apply pw_below_drewN | apply below_drew1 | refine below_set ?_ GE212.out | refine below_set ?_ GE215.out) | exact HB.out)⟩⟩
                  · rw [if_neg c46] at H
                    have c46b0 : ((wrap64 (t213 / 16777216)) == 3) = false := beq_eq_false_iff_ne.mpr c46
                    have c46b1 : ((wrap64 (t213 / 16777216)) != 3) = true := bne_iff_ne.mpr c46
                    have H' := Aside0.mk H
                    clear H
                    have hnb49 := NB215_212.out
                    have hnc49 := NB212_215.out
                    have hcz50_0 : wc.cell? ⟨gb215, 0, none⟩ = some (.int .i64 (wrap64 (t213 / 16777216))) := (blk_cell BK215.out 0).trans rfl
                    have hcz50_1 : wc.cell? ⟨gb215, 1, none⟩ = some (.int .i64 (wrap64 (Go.bits .and .u32 t213 16777215))) := (blk_cell BK215.out 1).trans rfl
                    have hcz50_2 : wc.cell? ⟨gb215, 2, none⟩ = some (.slice none 0 0) := (blk_cell BK215.out 2).trans rfl
                    have hfz50_0 := blk_frozen BK215.out 0
                    have hfz50_1 := blk_frozen BK215.out 1
                    have hfz50_2 := blk_frozen BK215.out 2
                    go_wp2
                    go_meet
                    case rel => exact ⟨_, (false), (by first | rfl | (simp; done) | (simp [*]; done)), H', ⟨by have := HJ2.out; have := HJ9.out; first | omega | exact Nat.le_refl _⟩, ⟨by (with_reducible repeat (first | refine blk_drewN ?_ _ | refine blk_drew ?_ | refine blk_alloc ?_ _)); exact BK212.out⟩, ⟨by (with_reducible repeat (first | refine blk_drewN ?_ _ | refine blk_drew ?_ | refine blk_alloc ?_ _)); exact BK215.out⟩, ⟨by repeat (first | (with_reducible first | exact HB.out | apply below_alloc | apply pw_below_drewN | apply below_drew1 | refine below_set ?_ GE212.out | refine below_set ?_ GE215.out) | exact HB.out)⟩⟩
              case rest =>
                clear HC33
                try clear c1
                try clear c2
                try clear p2
                try clear c3
                try clear c4
                try clear c5
                try clear c5b0
                try clear c6
                try clear p6
                try clear c9
                try clear c12
                try clear c15
                try clear c15b0
                try clear c15b1
                try clear c16
                try clear c17
                try clear c17b0
                try clear c18
                try clear c19
                try clear c21
                try clear c23
                try clear c23b0
                try clear c23b1
                try clear c24
                try clear c24b0
                try clear c24b1
                try clear c25
                try clear c25b0
                try clear c26
                try clear c28
                try clear c29
                try clear c31
                try clear c34
                try clear c34b0
                try clear c35
                try clear c35b0
                try clear c36
                try clear c38
                try clear c38b0
                try clear c39
                try clear c41
                try clear c41b0
                try clear c41b1
                try clear c42
                try clear c44
                try clear c46
                try clear c46b0
                try clear c46b1
                try clear c47
                try clear c49
                try clear hcz13_0
                try clear hcz13_1
                try clear hcz13_2
                try clear hcz19_0
                try clear hcz19_1
                try clear hcz19_2
                try clear hcz20_0
                try clear hcz20_1
                try clear hcz20_2
                try clear hcz22_0
                try clear hcz22_1
                try clear hcz22_2
                try clear hcz27_0
                try clear hcz27_1
                try clear hcz27_2
                try clear hcz28_0
                try clear hcz28_1
                try clear hcz28_2
                try clear hcz30_0
                try clear hcz30_1
                try clear hcz30_2
                try clear hcz32_0
                try clear hcz32_1
                try clear hcz32_2
                try clear hcz37_0
                try clear hcz37_1
                try clear hcz37_2
                try clear hcz40_0
                try clear hcz40_1
                try clear hcz40_2
                try clear hcz43_0
                try clear hcz43_1
                try clear hcz43_2
                try clear hcz45_0
                try clear hcz45_1
                try clear hcz45_2
                try clear hcz48_0
                try clear hcz48_1
                try clear hcz48_2
                try clear hcz50_0
                try clear hcz50_1
                try clear hcz50_2
                try clear hcz7_0
                try clear hcz7_1
                try clear hcz7_2
                try clear hfz13_0
                try clear hfz13_1
                try clear hfz13_2
                try clear hfz19_0
                try clear hfz19_1
                try clear hfz19_2
                try clear hfz20_0
                try clear hfz20_1
                try clear hfz20_2
                try clear hfz22_0
                try clear hfz22_1
                try clear hfz22_2
                try clear hfz27_0
                try clear hfz27_1
                try clear hfz27_2
                try clear hfz28_0
                try clear hfz28_1
                try clear hfz28_2
                try clear hfz30_0
                try clear hfz30_1
                try clear hfz30_2
                try clear hfz32_0
                try clear hfz32_1
                try clear hfz32_2
                try clear hfz37_0
                try clear hfz37_1
                try clear hfz37_2
                try clear hfz40_0
                try clear hfz40_1
                try clear hfz40_2
                try clear hfz43_0
                try clear hfz43_1
                try clear hfz43_2
                try clear hfz45_0
                try clear hfz45_1
                try clear hfz45_2
                try clear hfz48_0
                try clear hfz48_1
                try clear hfz48_2
                try clear hfz50_0
                try clear hfz50_1
                try clear hfz50_2
                try clear hfz7_0
                try clear hfz7_1
                try clear hfz7_2
                try clear p2
                try clear p6
                obtain ⟨kq, x80_32, rfl, HA, HJ32, BK212, BK215, HB⟩ := hcut
                cases kq with
                | zero => exact absurd HA.out (by simp [turnpikeref14_Decode.j3])
                | succ kj32 =>
                  have H := HA.out
                  clear HA
                  simp only [turnpikeref14_Decode.j3] at H
                  by_cases c51 : x80_32 = true
                  · subst c51
                    have H1 : (some (0, 0, ([] : List Int), 0, 1)) = some (r1, r2, r3, r4, r5) := by rw [if_pos rfl] at H; exact H
                    clear H
                    have H := H1
                    clear H1
                    simp only [Option.some.injEq, Prod.mk.injEq] at H
                    obtain ⟨rfl, rfl, rfl, rfl, rfl⟩ := H
                    have hnb52 := NB212_215.out
                    have hnc52 := NB215_212.out
                    have hcz53_0 : wc.cell? ⟨gb212, 0, none⟩ = some (.int .i64 x213000_9) := (blk_cell BK212.out 0).trans rfl
                    have hcz53_1 : wc.cell? ⟨gb212, 1, none⟩ = some (.int .i64 x213001_9) := (blk_cell BK212.out 1).trans rfl
                    have hcz53_2 : wc.cell? ⟨gb212, 2, none⟩ = some (.slice none 0 0) := (blk_cell BK212.out 2).trans rfl
                    have hfz53_0 := blk_frozen BK212.out 0
                    have hfz53_1 := blk_frozen BK212.out 1
                    have hfz53_2 := blk_frozen BK212.out 2
                    go_wp2
                    refine bodyPost_ret (results_ctt rfl _ _ gb212 24 #[.int .i64 0, .int .i64 0, .slice none 0 0] (0, 0) _ rfl (by (with_reducible repeat (first | refine blk_drewN ?_ _ | refine blk_drew ?_ | refine blk_alloc ?_ _)); refine blk_put (cs := #[.int .i64 0, .int .i64 0, .slice none 0 0]) ?_ 2 _ rfl; (with_reducible repeat (first | refine blk_drewN ?_ _ | refine blk_drew ?_ | refine blk_alloc ?_ _)); refine blk_put (cs := #[.int .i64 0, .int .i64 x213001_9, .slice none 0 0]) ?_ 1 _ rfl; (with_reducible repeat (first | refine blk_drewN ?_ _ | refine blk_drew ?_ | refine blk_alloc ?_ _)); refine blk_put (cs := #[.int .i64 x213000_9, .int .i64 x213001_9, .slice none 0 0]) ?_ 0 _ rfl; (with_reducible repeat (first | refine blk_drewN ?_ _ | refine blk_drew ?_ | refine blk_alloc ?_ _)); exact BK212.out) Try.underlying24 rfl (by kernel_rfl)) rfl ?_
                    exact ⟨_, by first | rfl | (simp [errW_none, errW_some] <;> rfl) | (simp [*, errW_none, errW_some] <;> rfl), by first | exact Kd.R_nil _ _ _ _ _ | exact Kd.N_nil _ _ _ _ _ | exact Kd.V_nil _ _ _ _ _ | exact Kd.Q_nil _ _ _ _ _ | exact Kd.S_nil _ _ _ _ _, by repeat (first | (with_reducible first | exact HB.out | apply below_alloc | apply pw_below_drewN | apply below_drew1 | refine below_set ?_ GE212.out | refine below_set ?_ GE215.out) | exact HB.out)⟩
                  · replace c51 := Bool.eq_false_iff.mpr c51
                    subst c51
                    have H1 : (if (wrap64 (t213 / 16777216)) = 2 then ((turnpikeref14_MapWords.f (wrap64 (Go.bits .and .u32 t213 16777215))).bind fun t216 => (if (wrap64 ((wrap64 ((wrap64 ((l0.length : Int) / 4)) - a1)) - 1)) < t216 then (some (0, 0, ([] : List Int), 0, 30)) else (turnpikeref14_Decode.l0 kj32 l0 a1 t216 1 (wrap64 (t213 / 16777216)) (wrap64 (Go.bits .and .u32 t213 16777215)) ([] : List Int)))) else (some ((wrap64 (t213 / 16777216)), (wrap64 (Go.bits .and .u32 t213 16777215)), ([] : List Int), 1, 0))) = some (r1, r2, r3, r4, r5) := by rw [if_neg (show ¬ (false = true) by decide)] at H; exact H
                    clear H
                    have H := H1
                    clear H1
                    by_cases c54 : (wrap64 (t213 / 16777216)) = 2
                    · rw [if_pos c54] at H
                      have c54b0 : ((wrap64 (t213 / 16777216)) == 2) = true := beq_iff_eq.mpr c54
                      have c54b1 : ((wrap64 (t213 / 16777216)) != 2) = false := bne_eq_false_iff_eq.mpr c54
                      clear c54
                      replace H := Option.bind_eq_some_iff.mp H
                      obtain ⟨t216, A550, H⟩ := H
                      replace H : (if (wrap64 ((wrap64 ((wrap64 ((l0.length : Int) / 4)) - a1)) - 1)) < t216 then (some (0, 0, ([] : List Int), 0, 30)) else (turnpikeref14_Decode.l0 kj32 l0 a1 t216 1 (wrap64 (t213 / 16777216)) (wrap64 (Go.bits .and .u32 t213 16777215)) ([] : List Int))) = some (r1, r2, r3, r4, r5) := H
                      have A55 := Aside0.mk A550
                      clear A550
                      by_cases c56 : (wrap64 ((wrap64 ((wrap64 ((l0.length : Int) / 4)) - a1)) - 1)) < t216
                      · rw [if_pos c56] at H
                        have c56b0 : decide ((wrap64 ((wrap64 ((wrap64 ((l0.length : Int) / 4)) - a1)) - 1)) < t216) = true := decide_eq_true c56
                        clear c56
                        simp only [Option.some.injEq, Prod.mk.injEq] at H
                        obtain ⟨rfl, rfl, rfl, rfl, rfl⟩ := H
                        have hnb57 := NB215_212.out
                        have hnc57 := NB212_215.out
                        have hcz58_0 : wc.cell? ⟨gb215, 0, none⟩ = some (.int .i64 (wrap64 (t213 / 16777216))) := (blk_cell BK215.out 0).trans rfl
                        have hcz58_1 : wc.cell? ⟨gb215, 1, none⟩ = some (.int .i64 (wrap64 (Go.bits .and .u32 t213 16777215))) := (blk_cell BK215.out 1).trans rfl
                        have hcz58_2 : wc.cell? ⟨gb215, 2, none⟩ = some (.slice none 0 0) := (blk_cell BK215.out 2).trans rfl
                        have hfz58_0 := blk_frozen BK215.out 0
                        have hfz58_1 := blk_frozen BK215.out 1
                        have hfz58_2 := blk_frozen BK215.out 2
                        go_wp2_with (first | ((with_reducible refine gate_callee (f := 29) rfl ?_); refine goesL_ (some 88) rfl rfl Try.func29 (by kernel_rfl) rfl #[.int .i64 (wrap64 (Go.bits .and .u32 t213 16777215))] rfl (by (try simp only [List.map_toArray, List.map_cons, List.map_nil]); first | done | rfl | (simp only [List.length_drop, List.length_take]; rfl)) ?_; (with_reducible refine (turnpikeref14_MapWords.calls (wrap64 (Go.bits .and .u32 t213 16777215)) t216 _ A55.out).mono ?_); rintro e w' ⟨rfl, ⟨nd, rfl⟩⟩; refine ⟨_, rfl, ?_⟩; (try (rw [drewN_self wc]; generalize hq_ : World.drewN wc _ = wc; have n0_ : Aside0 (wc.heap[gb212]? = some (.cells #[.int .i64 x213000_9, .int .i64 x213001_9, .slice none 0 0] 24 (0, 0))) := ⟨by rw [← hq_]; exact (by (with_reducible repeat (first | refine blk_drewN ?_ _ | refine blk_drew ?_ | refine blk_alloc ?_ _)); exact BK212.out)⟩; have n1_ : Aside0 (wc.heap[gb215]? = some (.cells #[.int .i64 (wrap64 (t213 / 16777216)), .int .i64 (wrap64 (Go.bits .and .u32 t213 16777215)), .slice none 0 0] 24 (0, 0))) := ⟨by rw [← hq_]; exact (by (with_reducible repeat (first | refine blk_drewN ?_ _ | refine blk_drew ?_ | refine blk_alloc ?_ _)); exact BK215.out)⟩; have n2_ : Aside0 (Below w.heap.size w wc) := ⟨by rw [← hq_]; exact (by repeat (first | (with_reducible first | exact HB.out | apply below_alloc | apply pw_below_drewN | apply below_drew1 | refine below_set ?_ GE212.out | refine below_set ?_ GE215.out) | exact HB.out))⟩; clear BK212 BK215 HB hq_; have BK212 := n0_; have BK215 := n1_; have HB := n2_; clear n0_ n1_ n2_)); have hcz59_0 : wc.cell? ⟨gb212, 0, none⟩ = some (.int .i64 x213000_9) := (blk_cell BK212.out 0).trans rfl; have hcz59_1 : wc.cell? ⟨gb212, 1, none⟩ = some (.int .i64 x213001_9) := (blk_cell BK212.out 1).trans rfl; have hcz59_2 : wc.cell? ⟨gb212, 2, none⟩ = some (.slice none 0 0) := (blk_cell BK212.out 2).trans rfl; have hfz59_0 := blk_frozen BK212.out 0; have hfz59_1 := blk_frozen BK212.out 1; have hfz59_2 := blk_frozen BK212.out 2))
                        refine bodyPost_ret (results_ctt rfl _ _ gb212 24 #[.int .i64 0, .int .i64 0, .slice none 0 0] (0, 0) _ rfl (by (with_reducible repeat (first | refine blk_drewN ?_ _ | refine blk_drew ?_ | refine blk_alloc ?_ _)); refine blk_put (cs := #[.int .i64 0, .int .i64 0, .slice none 0 0]) ?_ 2 _ rfl; (with_reducible repeat (first | refine blk_drewN ?_ _ | refine blk_drew ?_ | refine blk_alloc ?_ _)); refine blk_put (cs := #[.int .i64 0, .int .i64 x213001_9, .slice none 0 0]) ?_ 1 _ rfl; (with_reducible repeat (first | refine blk_drewN ?_ _ | refine blk_drew ?_ | refine blk_alloc ?_ _)); refine blk_put (cs := #[.int .i64 x213000_9, .int .i64 x213001_9, .slice none 0 0]) ?_ 0 _ rfl; (with_reducible repeat (first | refine blk_drewN ?_ _ | refine blk_drew ?_ | refine blk_alloc ?_ _)); exact BK212.out) Try.underlying24 rfl (by kernel_rfl)) rfl ?_
                        exact ⟨_, by first | rfl | (simp [errW_none, errW_some] <;> rfl) | (simp [*, errW_none, errW_some] <;> rfl), by first | exact Kd.R_nil _ _ _ _ _ | exact Kd.N_nil _ _ _ _ _ | exact Kd.V_nil _ _ _ _ _ | exact Kd.Q_nil _ _ _ _ _ | exact Kd.S_nil _ _ _ _ _, by repeat (first | (with_reducible first | exact HB.out | apply below_alloc | apply pw_below_drewN | apply below_drew1 | refine below_set ?_ GE212.out | refine below_set ?_ GE215.out) | exact HB.out)⟩
                      · rw [if_neg c56] at H
                        have c56b0 : decide ((wrap64 ((wrap64 ((wrap64 ((l0.length : Int) / 4)) - a1)) - 1)) < t216) = false := decide_eq_false c56
                        clear c56
                        have H' := Aside0.mk H
                        clear H
                        have hnb60 := NB215_212.out
                        have hnc60 := NB212_215.out
                        have hcz61_0 : wc.cell? ⟨gb215, 0, none⟩ = some (.int .i64 (wrap64 (t213 / 16777216))) := (blk_cell BK215.out 0).trans rfl
                        have hcz61_1 : wc.cell? ⟨gb215, 1, none⟩ = some (.int .i64 (wrap64 (Go.bits .and .u32 t213 16777215))) := (blk_cell BK215.out 1).trans rfl
                        have hcz61_2 : wc.cell? ⟨gb215, 2, none⟩ = some (.slice none 0 0) := (blk_cell BK215.out 2).trans rfl
                        have hfz61_0 := blk_frozen BK215.out 0
                        have hfz61_1 := blk_frozen BK215.out 1
                        have hfz61_2 := blk_frozen BK215.out 2
                        go_wp2_with (first | ((with_reducible refine gate_callee (f := 29) rfl ?_); refine goesL_ (some 88) rfl rfl Try.func29 (by kernel_rfl) rfl #[.int .i64 (wrap64 (Go.bits .and .u32 t213 16777215))] rfl (by (try simp only [List.map_toArray, List.map_cons, List.map_nil]); first | done | rfl | (simp only [List.length_drop, List.length_take]; rfl)) ?_; (with_reducible refine (turnpikeref14_MapWords.calls (wrap64 (Go.bits .and .u32 t213 16777215)) t216 _ A55.out).mono ?_); rintro e w' ⟨rfl, ⟨nd, rfl⟩⟩; refine ⟨_, rfl, ?_⟩))
                        go_loopg [11] kj32 (fun kq v11 w' => ∃ (x11_4 : Int) (x216002_4 : List Int) (u216002 : Value), v11 = .int .i64 x11_4 ∧ Aside0 (turnpikeref14_Decode.l0 kq l0 a1 t216 x11_4 (wrap64 (t213 / 16777216)) (wrap64 (Go.bits .and .u32 t213 16777215)) x216002_4 = some (r1, r2, r3, r4, r5)) ∧ Aside0 (kq ≤ kj32) ∧ Aside0 (Kd.R (Kd.int .u32) 44 w' w.heap.size (fun _ => True) u216002 x216002_4) ∧ Aside0 (w'.heap[gb212]? = some (.cells #[.int .i64 x213000_9, .int .i64 x213001_9, (.slice none 0 0)] 24 (0, 0))) ∧ Aside0 (w'.heap[gb215]? = some (.cells #[.int .i64 (wrap64 (t213 / 16777216)), .int .i64 (wrap64 (Go.bits .and .u32 t213 16777215)), u216002] 24 (0, 0))) ∧ Aside0 (Below w.heap.size w w'))
                        case atStart => exact ⟨(1), (([] : List Int)), (.slice none 0 0), (by first | rfl | (simp; done) | (simp [*]; done)), H', ⟨Nat.le_refl _⟩, ⟨by first | exact Kd.R_nil _ _ _ _ _ | exact Kd.N_nil _ _ _ _ _ | exact Kd.V_nil _ _ _ _ _ | exact Kd.Q_nil _ _ _ _ _ | exact Kd.S_nil _ _ _ _ _⟩, ⟨by (with_reducible repeat (first | refine blk_drewN ?_ _ | refine blk_drew ?_ | refine blk_alloc ?_ _)); exact BK212.out⟩, ⟨by (with_reducible repeat (first | refine blk_drewN ?_ _ | refine blk_drew ?_ | refine blk_alloc ?_ _)); exact BK215.out⟩, ⟨by repeat (first | (with_reducible first | exact HB.out | apply below_alloc | apply pw_below_drewN | apply below_drew1 | refine below_set ?_ GE212.out | refine below_set ?_ GE215.out) | exact HB.out)⟩⟩
                        case round =>
                          clear H'
                          try clear c1
                          try clear c2
                          try clear p2
                          try clear c3
                          try clear c4
                          try clear c5
                          try clear c5b0
                          try clear c6
                          try clear p6
                          try clear c9
                          try clear c12
                          try clear c15
                          try clear c15b0
                          try clear c15b1
                          try clear c16
                          try clear c17
                          try clear c17b0
                          try clear c18
                          try clear c19
                          try clear c21
                          try clear c23
                          try clear c23b0
                          try clear c23b1
                          try clear c24
                          try clear c24b0
                          try clear c24b1
                          try clear c25
                          try clear c25b0
                          try clear c26
                          try clear c28
                          try clear c29
                          try clear c31
                          try clear c34
                          try clear c34b0
                          try clear c35
                          try clear c35b0
                          try clear c36
                          try clear c38
                          try clear c38b0
                          try clear c39
                          try clear c41
                          try clear c41b0
                          try clear c41b1
                          try clear c42
                          try clear c44
                          try clear c46
                          try clear c46b0
                          try clear c46b1
                          try clear c47
                          try clear c49
                          try clear c51
                          try clear c52
                          try clear c54
                          try clear c54b0
                          try clear c54b1
                          try clear c56
                          try clear c56b0
                          try clear c57
                          try clear c60
                          try clear hcz13_0
                          try clear hcz13_1
                          try clear hcz13_2
                          try clear hcz19_0
                          try clear hcz19_1
                          try clear hcz19_2
                          try clear hcz20_0
                          try clear hcz20_1
                          try clear hcz20_2
                          try clear hcz22_0
                          try clear hcz22_1
                          try clear hcz22_2
                          try clear hcz27_0
                          try clear hcz27_1
                          try clear hcz27_2
                          try clear hcz28_0
                          try clear hcz28_1
                          try clear hcz28_2
                          try clear hcz30_0
                          try clear hcz30_1
                          try clear hcz30_2
                          try clear hcz32_0
                          try clear hcz32_1
                          try clear hcz32_2
                          try clear hcz37_0
                          try clear hcz37_1
                          try clear hcz37_2
                          try clear hcz40_0
                          try clear hcz40_1
                          try clear hcz40_2
                          try clear hcz43_0
                          try clear hcz43_1
                          try clear hcz43_2
                          try clear hcz45_0
                          try clear hcz45_1
                          try clear hcz45_2
                          try clear hcz48_0
                          try clear hcz48_1
                          try clear hcz48_2
                          try clear hcz50_0
                          try clear hcz50_1
                          try clear hcz50_2
                          try clear hcz53_0
                          try clear hcz53_1
                          try clear hcz53_2
                          try clear hcz58_0
                          try clear hcz58_1
                          try clear hcz58_2
                          try clear hcz59_0
                          try clear hcz59_1
                          try clear hcz59_2
                          try clear hcz61_0
                          try clear hcz61_1
                          try clear hcz61_2
                          try clear hcz7_0
                          try clear hcz7_1
                          try clear hcz7_2
                          try clear hfz13_0
                          try clear hfz13_1
                          try clear hfz13_2
                          try clear hfz19_0
                          try clear hfz19_1
                          try clear hfz19_2
                          try clear hfz20_0
                          try clear hfz20_1
                          try clear hfz20_2
                          try clear hfz22_0
                          try clear hfz22_1
                          try clear hfz22_2
                          try clear hfz27_0
                          try clear hfz27_1
                          try clear hfz27_2
                          try clear hfz28_0
                          try clear hfz28_1
                          try clear hfz28_2
                          try clear hfz30_0
                          try clear hfz30_1
                          try clear hfz30_2
                          try clear hfz32_0
                          try clear hfz32_1
                          try clear hfz32_2
                          try clear hfz37_0
                          try clear hfz37_1
                          try clear hfz37_2
                          try clear hfz40_0
                          try clear hfz40_1
                          try clear hfz40_2
                          try clear hfz43_0
                          try clear hfz43_1
                          try clear hfz43_2
                          try clear hfz45_0
                          try clear hfz45_1
                          try clear hfz45_2
                          try clear hfz48_0
                          try clear hfz48_1
                          try clear hfz48_2
                          try clear hfz50_0
                          try clear hfz50_1
                          try clear hfz50_2
                          try clear hfz53_0
                          try clear hfz53_1
                          try clear hfz53_2
                          try clear hfz58_0
                          try clear hfz58_1
                          try clear hfz58_2
                          try clear hfz59_0
                          try clear hfz59_1
                          try clear hfz59_2
                          try clear hfz61_0
                          try clear hfz61_1
                          try clear hfz61_2
                          try clear hfz7_0
                          try clear hfz7_1
                          try clear hfz7_2
                          try clear p2
                          try clear p6
                          obtain ⟨x11_4, x216002_4, u216002, rfl, HA, HK4, HO_216002, BK212, BK215, HB⟩ := hrel
                          cases gk with
                          | zero => exact absurd HA.out (by simp [turnpikeref14_Decode.l0])
                          | succ k4 =>
                            have H := HA.out
                            clear HA
                            simp only [turnpikeref14_Decode.l0] at H
                            by_cases c62 : x11_4 ≤ t216
                            · rw [if_pos c62] at H
                              have c62b0 : decide (x11_4 ≤ t216) = true := decide_eq_true c62
                              clear c62
                              replace H := Option.bind_eq_some_iff.mp H
                              obtain ⟨⟨t217, t218⟩, A630, H⟩ := H
                              replace H : (if x216002_4.length < 35184372088832 then (turnpikeref14_Decode.l0 k4 l0 a1 t216 (wrap64 (x11_4 + 1)) (wrap64 (t213 / 16777216)) (wrap64 (Go.bits .and .u32 t213 16777215)) (x216002_4 ++ [t217])) else (none)) = some (r1, r2, r3, r4, r5) := H
                              have A63 := Aside0.mk A630
                              clear A630
                              by_cases c64 : x216002_4.length < 35184372088832
                              · rw [if_pos c64] at H
                                have LMc64 := Aside0.mk c64
                                clear c64
                                obtain ⟨y219, hy219⟩ : ∃ y_ : List Int, y_ = (x216002_4 ++ [t217]) := ⟨_, rfl⟩
                                replace H : (turnpikeref14_Decode.l0 k4 l0 a1 t216 (wrap64 (x11_4 + 1)) (wrap64 (t213 / 16777216)) (wrap64 (Go.bits .and .u32 t213 16777215)) y219) = some (r1, r2, r3, r4, r5) := by first | (rw [hy219]; with_reducible exact H) | (have H2_ := (Option.bind_some _ _).symm.trans H; rw [hy219]; with_reducible exact H2_) | (have H2_ := (Option.bind_some _ _).symm.trans H; with_reducible exact H2_) | with_reducible exact H | (rw [hy219]; exact H) | exact H
                                have Ny219 := Aside0.mk hy219
                                clear hy219
                                have H' := Aside0.mk H
                                clear H
                                go_wp2_with (first | ((with_reducible refine gate_callee (f := 28) rfl ?_); refine goesL_ (some 109) rfl rfl Try.func28 (by kernel_rfl) rfl #[.slice A0 l0.length c0, .int .i64 (wrap64 (4 * (wrap64 (a1 + x11_4)))), .int .i64 4] rfl (by (try simp only [List.map_toArray, List.map_cons, List.map_nil]); first | done | rfl | (simp only [List.length_drop, List.length_take]; rfl)) ?_; (with_reducible refine (turnpikeref13_Get.calls k4 _ _ l0 (wrap64 (4 * (wrap64 (a1 + x11_4)))) 4 t217 t218 _ ?side1 ?side2 A63.out).mono ?_); (case side1 => repeat (first | exact (Kd.C_below HR0.out HB.out) | (with_reducible refine Kd.C_alloc ?_ _) | (with_reducible refine Kd.C_drewN ?_ _) | (with_reducible refine Kd.C_drew ?_))); (case side2 => exact HC0.out); rintro e w' ⟨rfl, ⟨nd, rfl⟩⟩; refine ⟨_, rfl, ?_⟩; (try (rw [drewN_self wr]; generalize hq_ : World.drewN wr _ = wr; have n0_ : Aside0 (Kd.R (Kd.int .u32) 44 wr w.heap.size (fun _ => True) u216002 x216002_4) := ⟨by rw [← hq_]; exact (by (with_reducible repeat (first | apply Kd.R_alloc | apply Kd.R_drewN | apply Kd.R_drew)); exact HO_216002.out)⟩; have n1_ : Aside0 (wr.heap[gb212]? = some (.cells #[.int .i64 x213000_9, .int .i64 x213001_9, .slice none 0 0] 24 (0, 0))) := ⟨by rw [← hq_]; exact (by (with_reducible repeat (first | refine blk_drewN ?_ _ | refine blk_drew ?_ | refine blk_alloc ?_ _)); exact BK212.out)⟩; have n2_ : Aside0 (wr.heap[gb215]? = some (.cells #[.int .i64 (wrap64 (t213 / 16777216)), .int .i64 (wrap64 (Go.bits .and .u32 t213 16777215)), u216002] 24 (0, 0))) := ⟨by rw [← hq_]; exact (by (with_reducible repeat (first | refine blk_drewN ?_ _ | refine blk_drew ?_ | refine blk_alloc ?_ _)); exact BK215.out)⟩; have n3_ : Aside0 (Below w.heap.size w wr) := ⟨by rw [← hq_]; exact (by repeat (first | (with_reducible first | exact HB.out | apply below_alloc | apply pw_below_drewN | apply below_drew1 | refine below_set ?_ GE212.out | refine below_set ?_ GE215.out) | exact HB.out))⟩; clear HO_216002 BK212 BK215 HB hq_; have HO_216002 := n0_; have BK212 := n1_; have BK215 := n2_; have HB := n3_; clear n0_ n1_ n2_ n3_)); have hnb65 := NB215_212.out; have hnc65 := NB212_215.out; have hcz66_0 : wr.cell? ⟨gb215, 0, none⟩ = some (.int .i64 (wrap64 (t213 / 16777216))) := (blk_cell BK215.out 0).trans rfl; have hcz66_1 : wr.cell? ⟨gb215, 1, none⟩ = some (.int .i64 (wrap64 (Go.bits .and .u32 t213 16777215))) := (blk_cell BK215.out 1).trans rfl; have hcz66_2 : wr.cell? ⟨gb215, 2, none⟩ = some (u216002) := (blk_cell BK215.out 2).trans rfl; have hfz66_0 := blk_frozen BK215.out 0; have hfz66_1 := blk_frozen BK215.out 1; have hfz66_2 := blk_frozen BK215.out 2) | ((with_reducible refine gate_builtin (b := .append) (xs := #[.tmp 113, .tmp 115]) rfl ?_); (try (refine gate_guard (by rfl) ?_; dsimp only)); at_builtin; refine Kd.R_append (Kd.int .u32) (w0 := w) w.heap.size rfl (.tmp 113) (.tmp 115) 22 44 (.int .u32 0) 4 rfl Try.underlying22 info44 rfl (by decide) (by omega) u216002 x216002_4 t217 [.int .u32 t217] (fun _ => True) (fun _ => False) rfl rfl ?aP (fun _ hk => hk.elim) ?aF ?aO ?aB ?aS ?aL ?_; (case aP => exact rfl); (case aB => exact (by repeat (first | (with_reducible first | exact HB.out | apply below_alloc | apply pw_below_drewN | apply below_drew1 | refine below_set ?_ GE212.out | refine below_set ?_ GE215.out) | exact HB.out))); (case aF => exact (fun _ _ => trivial)); (case aO => exact (by (with_reducible repeat (first | apply Kd.R_alloc | apply Kd.R_drewN | apply Kd.R_drew)); exact HO_216002.out)); (case aS => exact (below_size (by repeat (first | (with_reducible first | exact HB.out | apply below_alloc | apply pw_below_drewN | apply below_drew1 | refine below_set ?_ GE212.out | refine below_set ?_ GE215.out) | exact HB.out)))); (case aL => have := LMc64.out; omega); intro v220 w67 ho hb hg hat; rw [← Ny219.out] at ho; have n0_ := Aside0.mk (blk_grown (g := gb212) (o := .cells #[.int .i64 x213000_9, .int .i64 x213001_9, .slice none 0 0] 24 (0, 0)) (by (with_reducible repeat (first | refine blk_drewN ?_ _ | refine blk_drew ?_ | refine blk_alloc ?_ _)); exact BK212.out) hg (Kd.R_ne HO_216002.out BK212.out (by decide))); have n1_ := Aside0.mk (blk_grown (g := gb215) (o := .cells #[.int .i64 (wrap64 (t213 / 16777216)), .int .i64 (wrap64 (Go.bits .and .u32 t213 16777215)), u216002] 24 (0, 0)) (by (with_reducible repeat (first | refine blk_drewN ?_ _ | refine blk_drew ?_ | refine blk_alloc ?_ _)); exact BK215.out) hg (Kd.R_ne HO_216002.out BK215.out (by decide))); have n2_ := Aside0.mk (hb); have n3_ := Aside0.mk (ho); clear BK212; clear BK215; clear HB; clear HO_216002; have BK212 := n0_; have BK215 := n1_; have HB := n2_; have HO221 := n3_; clear n0_ n1_ n2_ n3_; clear ho hb hg hat; obtain ⟨Ao68, co68, eo68⟩ := Kd.R_slice HO221.out; subst eo68; have hcz69_0 : w67.cell? ⟨gb215, 0, none⟩ = some (.int .i64 (wrap64 (t213 / 16777216))) := (blk_cell BK215.out 0).trans rfl; have hcz69_1 : w67.cell? ⟨gb215, 1, none⟩ = some (.int .i64 (wrap64 (Go.bits .and .u32 t213 16777215))) := (blk_cell BK215.out 1).trans rfl; have hcz69_2 : w67.cell? ⟨gb215, 2, none⟩ = some (u216002) := (blk_cell BK215.out 2).trans rfl; have hfz69_0 := blk_frozen BK215.out 0; have hfz69_1 := blk_frozen BK215.out 1; have hfz69_2 := blk_frozen BK215.out 2))
                                go_roundg k4
                                case measure => have := HJ2.out; have := HJ9.out; have := HJ32.out; have := HK4.out; omega
                                case rel => exact ⟨(wrap64 (x11_4 + 1)), (y219), (.slice Ao68 y219.length co68), (by first | rfl | (simp; done) | (simp [*]; done)), H', ⟨by have := HJ2.out; have := HJ9.out; have := HJ32.out; have := HK4.out; omega⟩, ⟨by (with_reducible repeat (first | apply Kd.R_alloc | apply Kd.R_drewN | apply Kd.R_drew)); exact Kd.R_mono (Kd.R_far (p := ⟨gb215, 2, none⟩) (Kd.R_types HO221.out BK215.out (by decide)) (fun _ hk => hk.2) (.slice Ao68 y219.length co68)) (fun _ hk => trivial)⟩, ⟨by (with_reducible repeat (first | refine blk_drewN ?_ _ | refine blk_drew ?_ | refine blk_alloc ?_ _)); refine blk_far ?_ NB212_215.out _; (with_reducible repeat (first | refine blk_drewN ?_ _ | refine blk_drew ?_ | refine blk_alloc ?_ _)); exact BK212.out⟩, ⟨by (with_reducible repeat (first | refine blk_drewN ?_ _ | refine blk_drew ?_ | refine blk_alloc ?_ _)); refine blk_put (cs := #[.int .i64 (wrap64 (t213 / 16777216)), .int .i64 (wrap64 (Go.bits .and .u32 t213 16777215)), u216002]) ?_ 2 _ rfl; (with_reducible repeat (first | refine blk_drewN ?_ _ | refine blk_drew ?_ | refine blk_alloc ?_ _)); exact BK215.out⟩, ⟨by repeat (first | (with_reducible first | exact HB.out | apply below_alloc | apply pw_below_drewN | apply below_drew1 | refine below_set ?_ GE212.out | refine below_set ?_ GE215.out) | exact HB.out)⟩⟩
                              · rw [if_neg c64] at H
                                exact absurd H (by simp)
                            · rw [if_neg c62] at H
                              have c62b0 : decide (x11_4 ≤ t216) = false := decide_eq_false c62
                              clear c62
                              replace H := Option.bind_eq_some_iff.mp H
                              obtain ⟨t222, A700, H⟩ := H
                              replace H : (if t222 = true then (some ((wrap64 (t213 / 16777216)), (wrap64 (Go.bits .and .u32 t213 16777215)), x216002_4, wrap64 (1 + t216), 0)) else (some (0, 0, ([] : List Int), 0, 25))) = some (r1, r2, r3, r4, r5) := H
                              have A70 := Aside0.mk A700
                              clear A700
                              by_cases c71 : t222 = true
                              · subst c71
                                have H1 : (some ((wrap64 (t213 / 16777216)), (wrap64 (Go.bits .and .u32 t213 16777215)), x216002_4, wrap64 (1 + t216), 0)) = some (r1, r2, r3, r4, r5) := by rw [if_pos rfl] at H; exact H
                                clear H
                                have H := H1
                                clear H1
                                simp only [Option.some.injEq, Prod.mk.injEq] at H
                                obtain ⟨rfl, rfl, rfl, rfl, rfl⟩ := H
                                have hnb72 := NB215_212.out
                                have hnc72 := NB212_215.out
                                have hcz73_0 : wr.cell? ⟨gb215, 0, none⟩ = some (.int .i64 (wrap64 (t213 / 16777216))) := (blk_cell BK215.out 0).trans rfl
                                have hcz73_1 : wr.cell? ⟨gb215, 1, none⟩ = some (.int .i64 (wrap64 (Go.bits .and .u32 t213 16777215))) := (blk_cell BK215.out 1).trans rfl
                                have hcz73_2 : wr.cell? ⟨gb215, 2, none⟩ = some (u216002) := (blk_cell BK215.out 2).trans rfl
                                have hfz73_0 := blk_frozen BK215.out 0
                                have hfz73_1 := blk_frozen BK215.out 1
                                have hfz73_2 := blk_frozen BK215.out 2
                                obtain ⟨Ao74, co74, eo74⟩ := Kd.R_slice HO_216002.out
                                subst eo74
                                go_wp2_with (first | ((with_reducible refine gate_callee (f := 25) rfl ?_); refine goesL_ (some 122) rfl rfl Try.func25 (by kernel_rfl) rfl #[.slice Ao74 x216002_4.length co74, .int .i64 (wrap64 (Go.bits .and .u32 t213 16777215))] rfl (by (try simp only [List.map_toArray, List.map_cons, List.map_nil]); first | done | rfl | (simp only [List.length_drop, List.length_take]; rfl)) ?_; (with_reducible refine (turnpikeref14_isMap.calls _ _ x216002_4 (wrap64 (Go.bits .and .u32 t213 16777215)) true _ ?side1 ?side2 A70.out).mono ?_); (case side1 => repeat (first | exact (Kd.R_reads' HO_216002.out).2.2 | (with_reducible refine Kd.C_alloc ?_ _) | (with_reducible refine Kd.C_drewN ?_ _) | (with_reducible refine Kd.C_drew ?_))); (case side2 => exact (Kd.R_reads' HO_216002.out).2.1); rintro e w' ⟨rfl, ⟨nd, rfl⟩⟩; refine ⟨_, rfl, ?_⟩; (try (rw [drewN_self wr]; generalize hq_ : World.drewN wr _ = wr; have n0_ : Aside0 (Kd.R (Kd.int .u32) 44 wr w.heap.size (fun _ => True) (.slice Ao74 x216002_4.length co74) x216002_4) := ⟨by rw [← hq_]; exact (by (with_reducible repeat (first | apply Kd.R_alloc | apply Kd.R_drewN | apply Kd.R_drew)); exact HO_216002.out)⟩; have n1_ : Aside0 (wr.heap[gb212]? = some (.cells #[.int .i64 x213000_9, .int .i64 x213001_9, .slice none 0 0] 24 (0, 0))) := ⟨by rw [← hq_]; exact (by (with_reducible repeat (first | refine blk_drewN ?_ _ | refine blk_drew ?_ | refine blk_alloc ?_ _)); exact BK212.out)⟩; have n2_ : Aside0 (wr.heap[gb215]? = some (.cells #[.int .i64 (wrap64 (t213 / 16777216)), .int .i64 (wrap64 (Go.bits .and .u32 t213 16777215)), .slice Ao74 x216002_4.length co74] 24 (0, 0))) := ⟨by rw [← hq_]; exact (by (with_reducible repeat (first | refine blk_drewN ?_ _ | refine blk_drew ?_ | refine blk_alloc ?_ _)); exact BK215.out)⟩; have n3_ : Aside0 (Below w.heap.size w wr) := ⟨by rw [← hq_]; exact (by repeat (first | (with_reducible first | exact HB.out | apply below_alloc | apply pw_below_drewN | apply below_drew1 | refine below_set ?_ GE212.out | refine below_set ?_ GE215.out) | exact HB.out))⟩; clear HO_216002 BK212 BK215 HB hq_; have HO_216002 := n0_; have BK212 := n1_; have BK215 := n2_; have HB := n3_; clear n0_ n1_ n2_ n3_)); have hcz75_0 : wr.cell? ⟨gb215, 0, none⟩ = some (.int .i64 (wrap64 (t213 / 16777216))) := (blk_cell BK215.out 0).trans rfl; have hcz75_1 : wr.cell? ⟨gb215, 1, none⟩ = some (.int .i64 (wrap64 (Go.bits .and .u32 t213 16777215))) := (blk_cell BK215.out 1).trans rfl; have hcz75_2 : wr.cell? ⟨gb215, 2, none⟩ = some (.slice Ao74 x216002_4.length co74) := (blk_cell BK215.out 2).trans rfl; have hfz75_0 := blk_frozen BK215.out 0; have hfz75_1 := blk_frozen BK215.out 1; have hfz75_2 := blk_frozen BK215.out 2; have hcz76_0 : wr.cell? ⟨gb212, 0, none⟩ = some (.int .i64 x213000_9) := (blk_cell BK212.out 0).trans rfl; have hcz76_1 : wr.cell? ⟨gb212, 1, none⟩ = some (.int .i64 x213001_9) := (blk_cell BK212.out 1).trans rfl; have hcz76_2 : wr.cell? ⟨gb212, 2, none⟩ = some (.slice none 0 0) := (blk_cell BK212.out 2).trans rfl; have hfz76_0 := blk_frozen BK212.out 0; have hfz76_1 := blk_frozen BK212.out 1; have hfz76_2 := blk_frozen BK212.out 2))
                                refine bodyPost_ret (results_ctt rfl _ _ gb212 24 #[.int .i64 (wrap64 (t213 / 16777216)), .int .i64 (wrap64 (Go.bits .and .u32 t213 16777215)), .slice Ao74 x216002_4.length co74] (0, 0) _ rfl (by (with_reducible repeat (first | refine blk_drewN ?_ _ | refine blk_drew ?_ | refine blk_alloc ?_ _)); refine blk_put (cs := #[.int .i64 (wrap64 (t213 / 16777216)), .int .i64 (wrap64 (Go.bits .and .u32 t213 16777215)), .slice none 0 0]) ?_ 2 _ rfl; (with_reducible repeat (first | refine blk_drewN ?_ _ | refine blk_drew ?_ | refine blk_alloc ?_ _)); refine blk_put (cs := #[.int .i64 (wrap64 (t213 / 16777216)), .int .i64 x213001_9, .slice none 0 0]) ?_ 1 _ rfl; (with_reducible repeat (first | refine blk_drewN ?_ _ | refine blk_drew ?_ | refine blk_alloc ?_ _)); refine blk_put (cs := #[.int .i64 x213000_9, .int .i64 x213001_9, .slice none 0 0]) ?_ 0 _ rfl; (with_reducible repeat (first | refine blk_drewN ?_ _ | refine blk_drew ?_ | refine blk_alloc ?_ _)); exact BK212.out) Try.underlying24 rfl (by kernel_rfl)) rfl ?_
                                exact ⟨_, by first | rfl | (simp [errW_none, errW_some] <;> rfl) | (simp [*, errW_none, errW_some] <;> rfl), by (with_reducible repeat (first | apply Kd.R_alloc | apply Kd.R_drewN | apply Kd.R_drew)); exact Kd.R_mono (Kd.R_far (p := ⟨gb212, 2, none⟩) (Kd.R_far (p := ⟨gb212, 1, none⟩) (Kd.R_far (p := ⟨gb212, 0, none⟩) (Kd.R_types HO_216002.out BK212.out (by decide)) (fun _ hk => hk.2) (.int .i64 (wrap64 (t213 / 16777216)))) (fun _ hk => hk.2) (.int .i64 (wrap64 (Go.bits .and .u32 t213 16777215)))) (fun _ hk => hk.2) (.slice Ao74 x216002_4.length co74)) (fun _ hk => trivial), by repeat (first | (with_reducible first | exact HB.out | apply below_alloc | apply pw_below_drewN | apply below_drew1 | refine below_set ?_ GE212.out | refine below_set ?_ GE215.out) | exact HB.out)⟩
                              · replace c71 := Bool.eq_false_iff.mpr c71
                                subst c71
                                have H1 : (some (0, 0, ([] : List Int), 0, 25)) = some (r1, r2, r3, r4, r5) := by rw [if_neg (show ¬ (false = true) by decide)] at H; exact H
                                clear H
                                have H := H1
                                clear H1
                                simp only [Option.some.injEq, Prod.mk.injEq] at H
                                obtain ⟨rfl, rfl, rfl, rfl, rfl⟩ := H
                                have hnb77 := NB215_212.out
                                have hnc77 := NB212_215.out
                                have hcz78_0 : wr.cell? ⟨gb215, 0, none⟩ = some (.int .i64 (wrap64 (t213 / 16777216))) := (blk_cell BK215.out 0).trans rfl
                                have hcz78_1 : wr.cell? ⟨gb215, 1, none⟩ = some (.int .i64 (wrap64 (Go.bits .and .u32 t213 16777215))) := (blk_cell BK215.out 1).trans rfl
                                have hcz78_2 : wr.cell? ⟨gb215, 2, none⟩ = some (u216002) := (blk_cell BK215.out 2).trans rfl
                                have hfz78_0 := blk_frozen BK215.out 0
                                have hfz78_1 := blk_frozen BK215.out 1
                                have hfz78_2 := blk_frozen BK215.out 2
                                obtain ⟨Ao79, co79, eo79⟩ := Kd.R_slice HO_216002.out
                                subst eo79
                                go_wp2_with (first | ((with_reducible refine gate_callee (f := 25) rfl ?_); refine goesL_ (some 122) rfl rfl Try.func25 (by kernel_rfl) rfl #[.slice Ao79 x216002_4.length co79, .int .i64 (wrap64 (Go.bits .and .u32 t213 16777215))] rfl (by (try simp only [List.map_toArray, List.map_cons, List.map_nil]); first | done | rfl | (simp only [List.length_drop, List.length_take]; rfl)) ?_; (with_reducible refine (turnpikeref14_isMap.calls _ _ x216002_4 (wrap64 (Go.bits .and .u32 t213 16777215)) false _ ?side1 ?side2 A70.out).mono ?_); (case side1 => repeat (first | exact (Kd.R_reads' HO_216002.out).2.2 | (with_reducible refine Kd.C_alloc ?_ _) | (with_reducible refine Kd.C_drewN ?_ _) | (with_reducible refine Kd.C_drew ?_))); (case side2 => exact (Kd.R_reads' HO_216002.out).2.1); rintro e w' ⟨rfl, ⟨nd, rfl⟩⟩; refine ⟨_, rfl, ?_⟩; (try (rw [drewN_self wr]; generalize hq_ : World.drewN wr _ = wr; have n0_ : Aside0 (Kd.R (Kd.int .u32) 44 wr w.heap.size (fun _ => True) (.slice Ao79 x216002_4.length co79) x216002_4) := ⟨by rw [← hq_]; exact (by (with_reducible repeat (first | apply Kd.R_alloc | apply Kd.R_drewN | apply Kd.R_drew)); exact HO_216002.out)⟩; have n1_ : Aside0 (wr.heap[gb212]? = some (.cells #[.int .i64 x213000_9, .int .i64 x213001_9, .slice none 0 0] 24 (0, 0))) := ⟨by rw [← hq_]; exact (by (with_reducible repeat (first | refine blk_drewN ?_ _ | refine blk_drew ?_ | refine blk_alloc ?_ _)); exact BK212.out)⟩; have n2_ : Aside0 (wr.heap[gb215]? = some (.cells #[.int .i64 (wrap64 (t213 / 16777216)), .int .i64 (wrap64 (Go.bits .and .u32 t213 16777215)), .slice Ao79 x216002_4.length co79] 24 (0, 0))) := ⟨by rw [← hq_]; exact (by (with_reducible repeat (first | refine blk_drewN ?_ _ | refine blk_drew ?_ | refine blk_alloc ?_ _)); exact BK215.out)⟩; have n3_ : Aside0 (Below w.heap.size w wr) := ⟨by rw [← hq_]; exact (by repeat (first | (with_reducible first | exact HB.out | apply below_alloc | apply pw_below_drewN | apply below_drew1 | refine below_set ?_ GE212.out | refine below_set ?_ GE215.out) | exact HB.out))⟩; clear HO_216002 BK212 BK215 HB hq_; have HO_216002 := n0_; have BK212 := n1_; have BK215 := n2_; have HB := n3_; clear n0_ n1_ n2_ n3_)); have hcz80_0 : wr.cell? ⟨gb212, 0, none⟩ = some (.int .i64 x213000_9) := (blk_cell BK212.out 0).trans rfl; have hcz80_1 : wr.cell? ⟨gb212, 1, none⟩ = some (.int .i64 x213001_9) := (blk_cell BK212.out 1).trans rfl; have hcz80_2 : wr.cell? ⟨gb212, 2, none⟩ = some (.slice none 0 0) := (blk_cell BK212.out 2).trans rfl; have hfz80_0 := blk_frozen BK212.out 0; have hfz80_1 := blk_frozen BK212.out 1; have hfz80_2 := blk_frozen BK212.out 2))
                                refine bodyPost_ret (results_ctt rfl _ _ gb212 24 #[.int .i64 0, .int .i64 0, .slice none 0 0] (0, 0) _ rfl (by (with_reducible repeat (first | refine blk_drewN ?_ _ | refine blk_drew ?_ | refine blk_alloc ?_ _)); refine blk_put (cs := #[.int .i64 0, .int .i64 0, .slice none 0 0]) ?_ 2 _ rfl; (with_reducible repeat (first | refine blk_drewN ?_ _ | refine blk_drew ?_ | refine blk_alloc ?_ _)); refine blk_put (cs := #[.int .i64 0, .int .i64 x213001_9, .slice none 0 0]) ?_ 1 _ rfl; (with_reducible repeat (first | refine blk_drewN ?_ _ | refine blk_drew ?_ | refine blk_alloc ?_ _)); refine blk_put (cs := #[.int .i64 x213000_9, .int .i64 x213001_9, .slice none 0 0]) ?_ 0 _ rfl; (with_reducible repeat (first | refine blk_drewN ?_ _ | refine blk_drew ?_ | refine blk_alloc ?_ _)); exact BK212.out) Try.underlying24 rfl (by kernel_rfl)) rfl ?_
                                exact ⟨_, by first | rfl | (simp [errW_none, errW_some] <;> rfl) | (simp [*, errW_none, errW_some] <;> rfl), by first | exact Kd.R_nil _ _ _ _ _ | exact Kd.N_nil _ _ _ _ _ | exact Kd.V_nil _ _ _ _ _ | exact Kd.Q_nil _ _ _ _ _ | exact Kd.S_nil _ _ _ _ _, by repeat (first | (with_reducible first | exact HB.out | apply below_alloc | apply pw_below_drewN | apply below_drew1 | refine below_set ?_ GE212.out | refine below_set ?_ GE215.out) | exact HB.out)⟩
                    · rw [if_neg c54] at H
                      have c54b0 : ((wrap64 (t213 / 16777216)) == 2) = false := beq_eq_false_iff_ne.mpr c54
                      have c54b1 : ((wrap64 (t213 / 16777216)) != 2) = true := bne_iff_ne.mpr c54
                      simp only [Option.some.injEq, Prod.mk.injEq] at H
                      obtain ⟨rfl, rfl, rfl, rfl, rfl⟩ := H
                      have hnb81 := NB215_212.out
                      have hnc81 := NB212_215.out
                      have hcz82_0 : wc.cell? ⟨gb215, 0, none⟩ = some (.int .i64 (wrap64 (t213 / 16777216))) := (blk_cell BK215.out 0).trans rfl
                      have hcz82_1 : wc.cell? ⟨gb215, 1, none⟩ = some (.int .i64 (wrap64 (Go.bits .and .u32 t213 16777215))) := (blk_cell BK215.out 1).trans rfl
                      have hcz82_2 : wc.cell? ⟨gb215, 2, none⟩ = some (.slice none 0 0) := (blk_cell BK215.out 2).trans rfl
                      have hfz82_0 := blk_frozen BK215.out 0
                      have hfz82_1 := blk_frozen BK215.out 1
                      have hfz82_2 := blk_frozen BK215.out 2
                      have hcz83_0 : wc.cell? ⟨gb212, 0, none⟩ = some (.int .i64 x213000_9) := (blk_cell BK212.out 0).trans rfl
                      have hcz83_1 : wc.cell? ⟨gb212, 1, none⟩ = some (.int .i64 x213001_9) := (blk_cell BK212.out 1).trans rfl
                      have hcz83_2 : wc.cell? ⟨gb212, 2, none⟩ = some (.slice none 0 0) := (blk_cell BK212.out 2).trans rfl
                      have hfz83_0 := blk_frozen BK212.out 0
                      have hfz83_1 := blk_frozen BK212.out 1
                      have hfz83_2 := blk_frozen BK212.out 2
                      go_wp2
                      refine bodyPost_ret (results_ctt rfl _ _ gb212 24 #[.int .i64 (wrap64 (t213 / 16777216)), .int .i64 (wrap64 (Go.bits .and .u32 t213 16777215)), .slice none 0 0] (0, 0) _ rfl (by (with_reducible repeat (first | refine blk_drewN ?_ _ | refine blk_drew ?_ | refine blk_alloc ?_ _)); refine blk_put (cs := #[.int .i64 (wrap64 (t213 / 16777216)), .int .i64 (wrap64 (Go.bits .and .u32 t213 16777215)), .slice none 0 0]) ?_ 2 _ rfl; (with_reducible repeat (first | refine blk_drewN ?_ _ | refine blk_drew ?_ | refine blk_alloc ?_ _)); refine blk_put (cs := #[.int .i64 (wrap64 (t213 / 16777216)), .int .i64 x213001_9, .slice none 0 0]) ?_ 1 _ rfl; (with_reducible repeat (first | refine blk_drewN ?_ _ | refine blk_drew ?_ | refine blk_alloc ?_ _)); refine blk_put (cs := #[.int .i64 x213000_9, .int .i64 x213001_9, .slice none 0 0]) ?_ 0 _ rfl; (with_reducible repeat (first | refine blk_drewN ?_ _ | refine blk_drew ?_ | refine blk_alloc ?_ _)); exact BK212.out) Try.underlying24 rfl (by kernel_rfl)) rfl ?_
                      exact ⟨_, by first | rfl | (simp [errW_none, errW_some] <;> rfl) | (simp [*, errW_none, errW_some] <;> rfl), by first | exact Kd.R_nil _ _ _ _ _ | exact Kd.N_nil _ _ _ _ _ | exact Kd.V_nil _ _ _ _ _ | exact Kd.Q_nil _ _ _ _ _ | exact Kd.S_nil _ _ _ _ _, by repeat (first | (with_reducible first | exact HB.out | apply below_alloc | apply pw_below_drewN | apply below_drew1 | refine below_set ?_ GE212.out | refine below_set ?_ GE215.out) | exact HB.out)⟩
        · replace c9 := Bool.eq_false_iff.mpr c9
          subst c9
          have H1 : (some (0, 0, ([] : List Int), 0, 30)) = some (r1, r2, r3, r4, r5) := by rw [if_neg (show ¬ (false = true) by decide)] at H; exact H
          clear H
          have H := H1
          clear H1
          simp only [Option.some.injEq, Prod.mk.injEq] at H
          obtain ⟨rfl, rfl, rfl, rfl, rfl⟩ := H
          go_wp2_with (first | ((with_reducible refine gate_callee (f := 28) rfl ?_); refine goesL_ (some 27) rfl rfl Try.func28 (by kernel_rfl) rfl #[.slice A0 l0.length c0, .int .i64 (wrap64 (4 * a1)), .int .i64 4] rfl (by (try simp only [List.map_toArray, List.map_cons, List.map_nil]); first | done | rfl | (simp only [List.length_drop, List.length_take]; rfl)) ?_; (with_reducible refine (turnpikeref13_Get.calls kj2 _ _ l0 (wrap64 (4 * a1)) 4 t213 false _ ?side1 ?side2 A8.out).mono ?_); (case side1 => repeat (first | exact (Kd.C_below HR0.out HB.out) | (with_reducible refine Kd.C_alloc ?_ _) | (with_reducible refine Kd.C_drewN ?_ _) | (with_reducible refine Kd.C_drew ?_))); (case side2 => exact HC0.out); rintro e w' ⟨rfl, ⟨nd, rfl⟩⟩; refine ⟨_, rfl, ?_⟩; (try (rw [drewN_self wc]; generalize hq_ : World.drewN wc _ = wc; have n0_ : Aside0 (wc.heap[gb212]? = some (.cells #[.int .i64 0, .int .i64 0, .slice none 0 0] 24 (0, 0))) := ⟨by rw [← hq_]; exact (by (with_reducible repeat (first | refine blk_drewN ?_ _ | refine blk_drew ?_ | refine blk_alloc ?_ _)); exact BK212.out)⟩; have n1_ : Aside0 (Below w.heap.size w wc) := ⟨by rw [← hq_]; exact (by repeat (first | (with_reducible first | exact HB.out | apply below_alloc | apply pw_below_drewN | apply below_drew1 | refine below_set ?_ GE212.out) | exact HB.out))⟩; clear BK212 HB hq_; have BK212 := n0_; have HB := n1_; clear n0_ n1_)); have hcz84_0 : wc.cell? ⟨gb212, 0, none⟩ = some (.int .i64 0) := (blk_cell BK212.out 0).trans rfl; have hcz84_1 : wc.cell? ⟨gb212, 1, none⟩ = some (.int .i64 0) := (blk_cell BK212.out 1).trans rfl; have hcz84_2 : wc.cell? ⟨gb212, 2, none⟩ = some (.slice none 0 0) := (blk_cell BK212.out 2).trans rfl; have hfz84_0 := blk_frozen BK212.out 0; have hfz84_1 := blk_frozen BK212.out 1; have hfz84_2 := blk_frozen BK212.out 2))
          refine bodyPost_ret (results_ctt rfl _ _ gb212 24 #[.int .i64 0, .int .i64 0, .slice none 0 0] (0, 0) _ rfl (by (with_reducible repeat (first | refine blk_drewN ?_ _ | refine blk_drew ?_ | refine blk_alloc ?_ _)); refine blk_put (cs := #[.int .i64 0, .int .i64 0, .slice none 0 0]) ?_ 2 _ rfl; (with_reducible repeat (first | refine blk_drewN ?_ _ | refine blk_drew ?_ | refine blk_alloc ?_ _)); refine blk_put (cs := #[.int .i64 0, .int .i64 0, .slice none 0 0]) ?_ 1 _ rfl; (with_reducible repeat (first | refine blk_drewN ?_ _ | refine blk_drew ?_ | refine blk_alloc ?_ _)); refine blk_put (cs := #[.int .i64 0, .int .i64 0, .slice none 0 0]) ?_ 0 _ rfl; (with_reducible repeat (first | refine blk_drewN ?_ _ | refine blk_drew ?_ | refine blk_alloc ?_ _)); exact BK212.out) Try.underlying24 rfl (by kernel_rfl)) rfl ?_
          exact ⟨_, by first | rfl | (simp [errW_none, errW_some] <;> rfl) | (simp [*, errW_none, errW_some] <;> rfl), by first | exact Kd.R_nil _ _ _ _ _ | exact Kd.N_nil _ _ _ _ _ | exact Kd.V_nil _ _ _ _ _ | exact Kd.Q_nil _ _ _ _ _ | exact Kd.S_nil _ _ _ _ _, by repeat (first | (with_reducible first | exact HB.out | apply below_alloc | apply pw_below_drewN | apply below_drew1 | refine below_set ?_ GE212.out) | exact HB.out)⟩

end Go.Proofs.Ytpghpeoclbiloaa.F
