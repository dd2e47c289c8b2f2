-- Written by this session's px.sh, a turned copy of the print, out of the translation. Lean checks it.
import Derived.Test.YtpghpeoclbiloaaFx0
import Derived.Test.YtpghpeoclbiloaaFx1
import Derived.Test.YtpghpeoclbiloaaFx5
namespace Go.Proofs.Ytpghpeoclbiloaa.F
open Go.RowKit Go.Proofs.YtpghpeoclbiloaaW.PrintWords Go.Proofs.YtpghpeoclbiloaaW.PrintLast Go.Proofs.YtpghpeoclbiloaaW.PrintMore
attribute [local go_sem] max2_int min2_int max_two min_two max_three min_three max_four min_four   -- for this text's walks alone
set_option linter.unusedVariables false
set_option linter.unusedSimpArgs false

/-! ### code_Decode: function 18 -/
mutual
def code_Decode.j0 : Nat → List Int → Int → Bool → Option (Int × Int × List Int × Int × Int)
  | 0, _, _, _ => none
  | k + 1, x0, x1, x20 => if x20 = true then (some (0, 0, ([] : List Int), 0, 30)) else ((wire_Get32.f x0 (wrap64 (4 * x1))).bind fun bt136 => (if (wrap64 (bt136.1 / 16777216)) = 1 then (code_Decode.j1 k x0 x1 (wrap64 (bt136.1 / 16777216)) (wrap64 (Go.bits .and .u32 bt136.1 16777215))) else (if (wrap64 (bt136.1 / 16777216)) = 2 then (code_Decode.j1 k x0 x1 (wrap64 (bt136.1 / 16777216)) (wrap64 (Go.bits .and .u32 bt136.1 16777215))) else (if (wrap64 (bt136.1 / 16777216)) = 4 then (if (wrap64 (Go.bits .and .u32 bt136.1 16777215)) > 65535 then (some (0, 0, ([] : List Int), 0, 24)) else (code_Decode.j2 k x0 x1 (wrap64 (bt136.1 / 16777216)) (wrap64 (Go.bits .and .u32 bt136.1 16777215)))) else (if (wrap64 (bt136.1 / 16777216)) = 3 then (code_Decode.j2 k x0 x1 (wrap64 (bt136.1 / 16777216)) (wrap64 (Go.bits .and .u32 bt136.1 16777215))) else (some (0, 0, ([] : List Int), 0, 24)))))))
def code_Decode.j2 : Nat → List Int → Int → Int → Int → Option (Int × Int × List Int × Int × Int)
  | 0, _, _, _, _ => none
  | k + 1, x0, x1, x139000, x139001 => (code_number.f x139000 x139001).bind fun t139 => (if t139 = true then (if x139000 = 2 then ((code_mapped.f x139001).bind fun t140 => (if t140 > (wrap64 ((wrap64 ((wrap64 ((x0.length : Int) / 4)) - x1)) - 1)) then (some (0, 0, ([] : List Int), 0, 30)) else (if 0 ≤ t140 then (if (t140 : Int).toNat ≤ 70368744177664 then ((some (List.replicate (t140 : Int).toNat 0 : List Int)).bind fun y141 => (code_Decode.l0 k x0 x1 t140 (y141.length : Int) 0 x139000 x139001 y141)) else (none)) else (none)))) else (some (x139000, x139001, ([] : List Int), 1, 0))) else (some (0, 0, ([] : List Int), 0, 1)))
def code_Decode.l0 : Nat → List Int → Int → Int → Int → Int → Int → Int → List Int → Option (Int × Int × List Int × Int × Int)
  | 0, _, _, _, _, _, _, _, _ => none
  | k + 1, x0, x1, x10, x83, x84, x139000, x139001, x139002 => if x84 < x83 then ((wire_Get32.f x0 (wrap64 (4 * (wrap64 ((wrap64 (x1 + 1)) + x84))))).bind fun bt144 => (if 0 ≤ x84 then (if x84 < (x139002.length : Int) then (code_Decode.l0 k x0 x1 x10 x83 (wrap64 (x84 + 1)) x139000 x139001 (x139002.set (x84 : Int).toNat bt144.1)) else (none)) else (none))) else ((code_isMap.f x139002 x139001).bind fun t147 => (if t147 = true then (some (x139000, x139001, x139002, wrap64 (1 + x10), 0)) else (some (0, 0, ([] : List Int), 0, 25))))
def code_Decode.j1 : Nat → List Int → Int → Int → Int → Option (Int × Int × List Int × Int × Int)
  | 0, _, _, _, _ => none
  | k + 1, x0, x1, x139000, x139001 => if x139001 > 255 then (some (0, 0, ([] : List Int), 0, 24)) else (code_Decode.j2 k x0 x1 x139000 x139001)
end
def code_Decode.f (k : Nat) (l0 : List Int) (a1 : Int) : Option (Int × Int × List Int × Int × Int) := if a1 < 0 then (code_Decode.j0 k l0 a1 true) else (code_Decode.j0 k l0 a1 (decide (a1 ≥ (wrap64 ((l0.length : Int) / 4)))))
theorem code_Decode.mono_l : ∀ k, (∀ y0 y1 y2, LeO (code_Decode.j0 k y0 y1 y2) (code_Decode.j0 (k + 1) y0 y1 y2)) ∧ (∀ y0 y1 y2 y3, LeO (code_Decode.j2 k y0 y1 y2 y3) (code_Decode.j2 (k + 1) y0 y1 y2 y3)) ∧ (∀ y0 y1 y2 y3 y4 y5 y6 y7, LeO (code_Decode.l0 k y0 y1 y2 y3 y4 y5 y6 y7) (code_Decode.l0 (k + 1) y0 y1 y2 y3 y4 y5 y6 y7)) ∧ (∀ y0 y1 y2 y3, LeO (code_Decode.j1 k y0 y1 y2 y3) (code_Decode.j1 (k + 1) y0 y1 y2 y3))
  | 0 => ⟨fun _ _ _ r h => by simp [code_Decode.j0] at h, fun _ _ _ _ r h => by simp [code_Decode.j2] at h, fun _ _ _ _ _ _ _ _ r h => by simp [code_Decode.l0] at h, fun _ _ _ _ r h => by simp [code_Decode.j1] at h⟩
  | k + 1 => by
    obtain ⟨ih0, ih1, ih2, ih3⟩ := code_Decode.mono_l k
    refine ⟨?_, ?_, ?_, ?_⟩
    · intro y0 y1 y2
      unfold code_Decode.j0
      repeat' first
      | (with_reducible exact ih0 _ _ _)
      | (with_reducible exact ih1 _ _ _ _)
      | (with_reducible exact ih2 _ _ _ _ _ _ _ _)
      | (with_reducible exact ih3 _ _ _ _)
      | (with_reducible exact LeO.refl _)
      | (with_reducible exact LeO.none _)
      | (with_reducible refine LeO.ite ?_ ?_)
      | (with_reducible refine LeO.bind ?_ (fun _ => ?_))
      | exact ih0 _ _ _
      | exact ih1 _ _ _ _
      | exact ih2 _ _ _ _ _ _ _ _
      | exact ih3 _ _ _ _
      | exact LeO.none _
      | refine LeO.ite ?_ ?_
      | refine LeO.bind ?_ (fun _ => ?_)
    · intro y0 y1 y2 y3
      unfold code_Decode.j2
      repeat' first
      | (with_reducible exact ih0 _ _ _)
      | (with_reducible exact ih1 _ _ _ _)
      | (with_reducible exact ih2 _ _ _ _ _ _ _ _)
      | (with_reducible exact ih3 _ _ _ _)
      | (with_reducible exact LeO.refl _)
      | (with_reducible exact LeO.none _)
      | (with_reducible refine LeO.ite ?_ ?_)
      | (with_reducible refine LeO.bind ?_ (fun _ => ?_))
      | exact ih0 _ _ _
      | exact ih1 _ _ _ _
      | exact ih2 _ _ _ _ _ _ _ _
      | exact ih3 _ _ _ _
      | exact LeO.none _
      | refine LeO.ite ?_ ?_
      | refine LeO.bind ?_ (fun _ => ?_)
    · intro y0 y1 y2 y3 y4 y5 y6 y7
      unfold code_Decode.l0
      repeat' first
      | (with_reducible exact ih0 _ _ _)
      | (with_reducible exact ih1 _ _ _ _)
      | (with_reducible exact ih2 _ _ _ _ _ _ _ _)
      | (with_reducible exact ih3 _ _ _ _)
      | (with_reducible exact LeO.refl _)
      | (with_reducible exact LeO.none _)
      | (with_reducible refine LeO.ite ?_ ?_)
      | (with_reducible refine LeO.bind ?_ (fun _ => ?_))
      | exact ih0 _ _ _
      | exact ih1 _ _ _ _
      | exact ih2 _ _ _ _ _ _ _ _
      | exact ih3 _ _ _ _
      | exact LeO.none _
      | refine LeO.ite ?_ ?_
      | refine LeO.bind ?_ (fun _ => ?_)
    · intro y0 y1 y2 y3
      unfold code_Decode.j1
      repeat' first
      | (with_reducible exact ih0 _ _ _)
      | (with_reducible exact ih1 _ _ _ _)
      | (with_reducible exact ih2 _ _ _ _ _ _ _ _)
      | (with_reducible exact ih3 _ _ _ _)
      | (with_reducible exact LeO.refl _)
      | (with_reducible exact LeO.none _)
      | (with_reducible refine LeO.ite ?_ ?_)
      | (with_reducible refine LeO.bind ?_ (fun _ => ?_))
      | exact ih0 _ _ _
      | exact ih1 _ _ _ _
      | exact ih2 _ _ _ _ _ _ _ _
      | exact ih3 _ _ _ _
      | exact LeO.none _
      | refine LeO.ite ?_ ?_
      | refine LeO.bind ?_ (fun _ => ?_)
theorem code_Decode.mono : ∀ a0 a1 k, LeO (code_Decode.f k a0 a1) (code_Decode.f (k + 1) a0 a1) := by
  intro a0 a1 k
  obtain ⟨ih0, ih1, ih2, ih3⟩ := code_Decode.mono_l k
  unfold code_Decode.f
  repeat' first
      | (with_reducible exact ih0 _ _ _)
      | (with_reducible exact ih1 _ _ _ _)
      | (with_reducible exact ih2 _ _ _ _ _ _ _ _)
      | (with_reducible exact ih3 _ _ _ _)
      | (with_reducible exact LeO.refl _)
      | (with_reducible exact LeO.none _)
      | (with_reducible refine LeO.ite ?_ ?_)
      | (with_reducible refine LeO.bind ?_ (fun _ => ?_))
      | exact ih0 _ _ _
      | exact ih1 _ _ _ _
      | exact ih2 _ _ _ _ _ _ _ _
      | exact ih3 _ _ _ _
      | exact LeO.none _
      | refine LeO.ite ?_ ?_
      | refine LeO.bind ?_ (fun _ => ?_)
def code_Decode.T26 : Bool × List (List Nat × List Nat) := (true, [([], []), ([0], [0]), ([], []), ([], []), ([], []), ([4], [4]), ([], []), ([5, 6], [5, 6]), ([7], [7]), ([3, 8], [3, 8]), ([9], [9]), ([10], [10]), ([10], [10]), ([1, 2, 0, 1, 2, 3, 4, 5, 6, 7, 8, 9, 10, 11], [1, 2]), ([13, 11, 9, 0, 1, 2, 3, 4, 5, 6, 7, 8, 9, 10, 11], [11, 13])])
def code_Decode.B26 : List Nat := [0, 1, 0, 0, 0, 16, 0, 112, 240, 504, 1016, 2040, 2040, 4095, 12287]
theorem code_Decode.tab26 : rtab .any (opsOf Try.f18 26) = code_Decode.T26 := by kernel_rfl
theorem code_Decode.bits26 : waitsOk code_Decode.T26.2 code_Decode.B26 = true := by kernel_rfl
set_option maxHeartbeats 8000000 in
set_option maxRecDepth 100000 in
theorem code_Decode.calls (k : Nat) (A0 : Option Addr) (c0 : Nat) (l0 : List Int) (a1 : Int) (r1 : Int) (r2 : Int) (r3 : List Int) (r4 : Int) (r5 : Int) (w : World) (hr0 : Kd.C (Kd.int .u8) w A0 l0.length l0) (hc0 : l0.length ≤ c0) (h : code_Decode.f k l0 a1 = some (r1, r2, r3, r4, r5)) :
    Calls Try.prog 18 #[.slice A0 l0.length c0, .int .i64 a1] w fun e w' => ∃ v2_ : Value, e = .returned (.tuple #[.agg #[.int .i64 r1, .int .i64 r2, v2_], .int .i64 r4, .int .i64 r5]) ∧ Kd.R (Kd.int .u32) 44 w' w.heap.size (fun _ => True) v2_ r3 ∧ Below w.heap.size w w' := by
  have hu24 := Try.underlying24
  have HR0 := Aside0.mk hr0
  have HC0 := Aside0.mk hc0
  clear hr0 hc0
  have HB := Aside0.mk (Below.refl w.heap.size w)
  have H : (if a1 < 0 then (code_Decode.j0 k l0 a1 true) else (code_Decode.j0 k l0 a1 (decide (a1 ≥ (wrap64 ((l0.length : Int) / 4)))))) = some (r1, r2, r3, r4, r5) := h
  clear h
  have HC3 := Aside0.mk H
  clear H
  go_enter Try.func18, Try.ntmps18
  go_upto_region 1 with (first | ((with_reducible refine gate_dst (N := 4) rfl ?_); (try (refine gate_guard (by rfl) ?_; dsimp only)); refine box_event ?hg (N := 4) ?hd (cs := #[.int .i64 0, .int .i64 0, .slice none 0 0]) (t := 24) ?hr ?_; (case hd => rfl); (case hg => rfl); (case hr => first | (go_simp; done) | (go_simp; rfl)); intro gb135 hg w4 hbox hb; have n0_ := Aside0.mk (below_step (by repeat (first | (with_reducible first | exact HB.out | apply below_alloc | apply pw_below_drewN | apply below_drew1) | exact HB.out)) hb); have n1_ := Aside0.mk (hbox); have n2_ := Aside0.mk ((by rw [hg]; exact (below_size (by repeat (first | (with_reducible first | exact HB.out | apply below_alloc | apply pw_below_drewN | apply below_drew1) | exact HB.out))) : w.heap.size ≤ gb135)); have n3_ := Aside0.mk ((by rw [hg]; exact (below_size (by repeat (first | (with_reducible first | exact HB.out | apply below_alloc | apply pw_below_drewN | apply below_drew1) | exact HB.out))) : w.heap.size ≤ gb135)); clear HB; have HB := n0_; have BK135 := n1_; have GW135 := n2_; have GE135 := n3_; clear n0_ n1_ n2_ n3_; clear hb hbox hg))
  (try simp only [Act.put, List.setIfInBounds_toArray, List.set_cons_zero, List.set_cons_succ])
  go_cut [20] (fun v20 wc => ∃ (kq : Nat) (x20_2 : Bool), v20 = .bool x20_2 ∧ Aside0 (code_Decode.j0 kq l0 a1 x20_2 = some (r1, r2, r3, r4, r5)) ∧ Aside0 (kq ≤ k) ∧ Aside0 (wc.heap[gb135]? = some (.cells #[.int .i64 0, .int .i64 0, (.slice none 0 0)] 24 (0, 0))) ∧ Aside0 (Below w.heap.size w wc))
  case first =>
    have H := HC3.out
    clear HC3
    by_cases c5 : a1 < 0
    · rw [if_pos c5] at H
      have c5b0 : decide (a1 < 0) = true := decide_eq_true c5
      clear c5
      (first | rw [c5b0] | (simp only [i64_w, i32_w]; rw [c5b0]) | skip)
      have H' := Aside0.mk H
      clear H
      go_wp2
      go_meet
      case rel => exact ⟨_, (true), (by first | rfl | (simp; done) | (simp [*]; done)), H', ⟨by first | omega | exact Nat.le_refl _⟩, ⟨by (with_reducible repeat (first | refine blk_drewN ?_ _ | refine blk_drew ?_ | refine blk_alloc ?_ _)); exact BK135.out⟩, ⟨by repeat (first | (with_reducible first | exact HB.out | apply below_alloc | apply pw_below_drewN | apply below_drew1 | refine below_set ?_ GE135.out) | exact HB.out)⟩⟩
    · rw [if_neg c5] at H
      have c5b0 : decide (a1 < 0) = false := decide_eq_false c5
      clear c5
      (first | rw [c5b0] | (simp only [i64_w, i32_w]; rw [c5b0]) | skip)
      have H' := Aside0.mk H
      clear H
      go_wp2
      go_meet
      case rel => exact ⟨_, (decide (a1 ≥ (wrap64 ((l0.length : Int) / 4)))), (by first | rfl | (simp; done) | (simp [*]; done)), H', ⟨by first | omega | exact Nat.le_refl _⟩, ⟨by (with_reducible repeat (first | refine blk_drewN ?_ _ | refine blk_drew ?_ | refine blk_alloc ?_ _)); exact BK135.out⟩, ⟨by repeat (first | (with_reducible first | exact HB.out | apply below_alloc | apply pw_below_drewN | apply below_drew1 | refine below_set ?_ GE135.out) | exact HB.out)⟩⟩
  case rest =>
    clear HC3
    try clear c1
    try clear p2
    try clear c5
    try clear c5b0
    obtain ⟨kq, x20_2, rfl, HA, HJ2, BK135, HB⟩ := hcut
    cases kq with
    | zero => exact absurd HA.out (by simp [code_Decode.j0])
    | succ kj2 =>
      have H := HA.out
      clear HA
      simp only [code_Decode.j0] at H
      by_cases c6 : x20_2 = true
      · subst c6
        have H1 : (some (0, 0, ([] : List Int), 0, 30)) = some (r1, r2, r3, r4, r5) := by rw [if_pos rfl] at H; exact H
        clear H
        have H := H1
        clear H1
        simp only [Option.some.injEq, Prod.mk.injEq] at H
        obtain ⟨rfl, rfl, rfl, rfl, rfl⟩ := H
        have hcz7_0 : wc.cell? ⟨gb135, 0, none⟩ = some (.int .i64 0) := (blk_cell BK135.out 0).trans rfl
        have hcz7_1 : wc.cell? ⟨gb135, 1, none⟩ = some (.int .i64 0) := (blk_cell BK135.out 1).trans rfl
        have hcz7_2 : wc.cell? ⟨gb135, 2, none⟩ = some (.slice none 0 0) := (blk_cell BK135.out 2).trans rfl
        have hfz7_0 := blk_frozen BK135.out 0
        have hfz7_1 := blk_frozen BK135.out 1
        have hfz7_2 := blk_frozen BK135.out 2
        go_wp2
        refine bodyPost_ret (results_ctt rfl _ _ gb135 24 #[.int .i64 0, .int .i64 0, .slice none 0 0] (0, 0) _ rfl (by (with_reducible repeat (first | refine blk_drewN ?_ _ | refine blk_drew ?_ | refine blk_alloc ?_ _)); refine blk_put (cs := #[.int .i64 0, .int .i64 0, .slice none 0 0]) ?_ 2 _ rfl; (with_reducible repeat (first | refine blk_drewN ?_ _ | refine blk_drew ?_ | refine blk_alloc ?_ _)); refine blk_put (cs := #[.int .i64 0, .int .i64 0, .slice none 0 0]) ?_ 1 _ rfl; (with_reducible repeat (first | refine blk_drewN ?_ _ | refine blk_drew ?_ | refine blk_alloc ?_ _)); refine blk_put (cs := #[.int .i64 0, .int .i64 0, .slice none 0 0]) ?_ 0 _ rfl; (with_reducible repeat (first | refine blk_drewN ?_ _ | refine blk_drew ?_ | refine blk_alloc ?_ _)); exact BK135.out) Try.underlying24 rfl (by kernel_rfl)) rfl ?_
        exact ⟨_, by first | rfl | (simp [errW_none, errW_some] <;> rfl) | (simp [*, errW_none, errW_some] <;> rfl), by first | exact Kd.R_nil _ _ _ _ _ | exact Kd.N_nil _ _ _ _ _ | exact Kd.V_nil _ _ _ _ _ | exact Kd.Q_nil _ _ _ _ _ | exact Kd.S_nil _ _ _ _ _, by repeat (first | (with_reducible first | exact HB.out | apply below_alloc | apply pw_below_drewN | apply below_drew1 | refine below_set ?_ GE135.out) | exact HB.out)⟩
      · replace c6 := Bool.eq_false_iff.mpr c6
        subst c6
        have H1 : ((wire_Get32.f l0 (wrap64 (4 * a1))).bind fun bt136 => (if (wrap64 (bt136.1 / 16777216)) = 1 then (code_Decode.j1 kj2 l0 a1 (wrap64 (bt136.1 / 16777216)) (wrap64 (Go.bits .and .u32 bt136.1 16777215))) else (if (wrap64 (bt136.1 / 16777216)) = 2 then (code_Decode.j1 kj2 l0 a1 (wrap64 (bt136.1 / 16777216)) (wrap64 (Go.bits .and .u32 bt136.1 16777215))) else (if (wrap64 (bt136.1 / 16777216)) = 4 then (if (wrap64 (Go.bits .and .u32 bt136.1 16777215)) > 65535 then (some (0, 0, ([] : List Int), 0, 24)) else (code_Decode.j2 kj2 l0 a1 (wrap64 (bt136.1 / 16777216)) (wrap64 (Go.bits .and .u32 bt136.1 16777215)))) else (if (wrap64 (bt136.1 / 16777216)) = 3 then (code_Decode.j2 kj2 l0 a1 (wrap64 (bt136.1 / 16777216)) (wrap64 (Go.bits .and .u32 bt136.1 16777215))) else (some (0, 0, ([] : List Int), 0, 24))))))) = some (r1, r2, r3, r4, r5) := by rw [if_neg (show ¬ (false = true) by decide)] at H; exact H
        clear H
        have H := H1
        clear H1
        replace H := Option.bind_eq_some_iff.mp H
        obtain ⟨⟨t136, t137⟩, A80, H⟩ := H
        replace H : (if (wrap64 (t136 / 16777216)) = 1 then (code_Decode.j1 kj2 l0 a1 (wrap64 (t136 / 16777216)) (wrap64 (Go.bits .and .u32 t136 16777215))) else (if (wrap64 (t136 / 16777216)) = 2 then (code_Decode.j1 kj2 l0 a1 (wrap64 (t136 / 16777216)) (wrap64 (Go.bits .and .u32 t136 16777215))) else (if (wrap64 (t136 / 16777216)) = 4 then (if (wrap64 (Go.bits .and .u32 t136 16777215)) > 65535 then (some (0, 0, ([] : List Int), 0, 24)) else (code_Decode.j2 kj2 l0 a1 (wrap64 (t136 / 16777216)) (wrap64 (Go.bits .and .u32 t136 16777215)))) else (if (wrap64 (t136 / 16777216)) = 3 then (code_Decode.j2 kj2 l0 a1 (wrap64 (t136 / 16777216)) (wrap64 (Go.bits .and .u32 t136 16777215))) else (some (0, 0, ([] : List Int), 0, 24)))))) = some (r1, r2, r3, r4, r5) := H
        have A8 := Aside0.mk A80
        clear A80
        have HC9 := Aside0.mk H
        clear H
        go_upto_block 0 with (first | ((with_reducible refine gate_callee (f := 26) rfl ?_); refine goesL_ (some 26) rfl rfl Try.func26 (by kernel_rfl) rfl #[.slice A0 l0.length c0, .int .i64 (wrap64 (4 * a1))] rfl (by (try simp only [List.map_toArray, List.map_cons, List.map_nil]); first | done | rfl | (simp only [List.length_drop, List.length_take]; rfl)) ?_; (with_reducible refine (wire_Get32.calls _ _ l0 (wrap64 (4 * a1)) t136 t137 _ ?side1 ?side2 A8.out).mono ?_); (case side1 => repeat (first | exact (Kd.C_below HR0.out HB.out) | (with_reducible refine Kd.C_alloc ?_ _) | (with_reducible refine Kd.C_drewN ?_ _) | (with_reducible refine Kd.C_drew ?_))); (case side2 => exact HC0.out); rintro e w' ⟨rfl, ⟨nd, rfl⟩⟩; refine ⟨_, rfl, ?_⟩; (try (rw [drewN_self wc]; generalize hq_ : World.drewN wc _ = wc; have n0_ : Aside0 (wc.heap[gb135]? = some (.cells #[.int .i64 0, .int .i64 0, .slice none 0 0] 24 (0, 0))) := ⟨by rw [← hq_]; exact (by (with_reducible repeat (first | refine blk_drewN ?_ _ | refine blk_drew ?_ | refine blk_alloc ?_ _)); exact BK135.out)⟩; have n1_ : Aside0 (Below w.heap.size w wc) := ⟨by rw [← hq_]; exact (by repeat (first | (with_reducible first | exact HB.out | apply below_alloc | apply pw_below_drewN | apply below_drew1 | refine below_set ?_ GE135.out) | exact HB.out))⟩; clear BK135 HB hq_; have BK135 := n0_; have HB := n1_; clear n0_ n1_))) | ((with_reducible refine gate_dst (N := 9) rfl ?_); (try (refine gate_guard (by rfl) ?_; dsimp only)); refine box_event ?hg (N := 9) ?hd (cs := #[.int .i64 0, .int .i64 0, .slice none 0 0]) (t := 24) ?hr ?_; (case hd => rfl); (case hg => rfl); (case hr => first | (go_simp; done) | (go_simp; rfl)); intro gb138 hg w10 hbox hb; have n0_ := Aside0.mk (blk_below (g := gb135) (o := .cells #[.int .i64 0, .int .i64 0, .slice none 0 0] 24 (0, 0)) (by (with_reducible repeat (first | refine blk_drewN ?_ _ | refine blk_drew ?_ | refine blk_alloc ?_ _)); exact BK135.out) hb); have n1_ := Aside0.mk (below_step (by repeat (first | (with_reducible first | exact HB.out | apply below_alloc | apply pw_below_drewN | apply below_drew1 | refine below_set ?_ GE135.out) | exact HB.out)) hb); have n2_ := Aside0.mk (hbox); have n3_ := Aside0.mk ((by rw [hg]; exact (below_size (by repeat (first | (with_reducible first | exact HB.out | apply below_alloc | apply pw_below_drewN | apply below_drew1 | refine below_set ?_ GE135.out) | exact HB.out))) : w.heap.size ≤ gb138)); have n4_ := Aside0.mk ((by rw [hg]; exact (below_size (by repeat (first | (with_reducible first | exact HB.out | apply below_alloc | apply pw_below_drewN | apply below_drew1 | refine below_set ?_ GE135.out) | exact HB.out))) : w.heap.size ≤ gb138)); have n5_ := Aside0.mk ((by rw [hg]; exact Nat.ne_of_lt (blk_lt (g := gb135) (o := .cells #[.int .i64 0, .int .i64 0, .slice none 0 0] 24 (0, 0)) (by (with_reducible repeat (first | refine blk_drewN ?_ _ | refine blk_drew ?_ | refine blk_alloc ?_ _)); exact BK135.out)) : gb135 ≠ gb138)); have n6_ := Aside0.mk ((by rw [hg]; exact Nat.ne_of_gt (blk_lt (g := gb135) (o := .cells #[.int .i64 0, .int .i64 0, .slice none 0 0] 24 (0, 0)) (by (with_reducible repeat (first | refine blk_drewN ?_ _ | refine blk_drew ?_ | refine blk_alloc ?_ _)); exact BK135.out)) : gb138 ≠ gb135)); clear BK135; clear HB; have BK135 := n0_; have HB := n1_; have BK138 := n2_; have GW138 := n3_; have GE138 := n4_; have NB135_138 := n5_; have NB138_135 := n6_; clear n0_ n1_ n2_ n3_ n4_ n5_ n6_; clear hb hbox hg; have hnb11 := NB138_135.out; have hnc11 := NB135_138.out; have hcz12_0 : w10.cell? ⟨gb138, 0, none⟩ = some (.int .i64 0) := (blk_cell BK138.out 0).trans rfl; have hcz12_1 : w10.cell? ⟨gb138, 1, none⟩ = some (.int .i64 0) := (blk_cell BK138.out 1).trans rfl; have hcz12_2 : w10.cell? ⟨gb138, 2, none⟩ = some (.slice none 0 0) := (blk_cell BK138.out 2).trans rfl; have hfz12_0 := blk_frozen BK138.out 0; have hfz12_1 := blk_frozen BK138.out 1; have hfz12_2 := blk_frozen BK138.out 2))
        (try simp only [Act.put, List.setIfInBounds_toArray, List.set_cons_zero, List.set_cons_succ])
        go_cut [] (fun wc => ∃ (kq : Nat) (x136000_8 : Int) (x136001_8 : Int), Aside0 (code_Decode.j2 kq l0 a1 (wrap64 (t136 / 16777216)) (wrap64 (Go.bits .and .u32 t136 16777215)) = some (r1, r2, r3, r4, r5)) ∧ Aside0 (kq ≤ kj2) ∧ Aside0 (wc.heap[gb135]? = some (.cells #[.int .i64 x136000_8, .int .i64 x136001_8, (.slice none 0 0)] 24 (0, 0))) ∧ Aside0 (wc.heap[gb138]? = some (.cells #[.int .i64 (wrap64 (t136 / 16777216)), .int .i64 (wrap64 (Go.bits .and .u32 t136 16777215)), (.slice none 0 0)] 24 (0, 0))) ∧ Aside0 (Below w.heap.size w wc))
        case first =>
          have H := HC9.out
          clear HC9
          have HC13 := Aside0.mk H
          clear H
          go_upto_block 2 with (fail)
          go_cut [] (fun wc => ∃ (kq : Nat), Aside0 (code_Decode.j1 kq l0 a1 (wrap64 (t136 / 16777216)) (wrap64 (Go.bits .and .u32 t136 16777215)) = some (r1, r2, r3, r4, r5)) ∧ Aside0 (kq ≤ kj2) ∧ Aside0 (wc.heap[gb135]? = some (.cells #[.int .i64 0, .int .i64 0, (.slice none 0 0)] 24 (0, 0))) ∧ Aside0 (wc.heap[gb138]? = some (.cells #[.int .i64 (wrap64 (t136 / 16777216)), .int .i64 (wrap64 (Go.bits .and .u32 t136 16777215)), (.slice none 0 0)] 24 (0, 0))) ∧ Aside0 (Below w.heap.size w wc))
          case first =>
            have H := HC13.out
            clear HC13
            by_cases c14 : (wrap64 (t136 / 16777216)) = 1
            · rw [if_pos c14] at H
              have c14b0 : ((wrap64 (t136 / 16777216)) == 1) = true := beq_iff_eq.mpr c14
              have c14b1 : ((wrap64 (t136 / 16777216)) != 1) = false := bne_eq_false_iff_eq.mpr c14
              clear c14
              (first | rw [c14b0] | (simp only [i64_w, i32_w]; rw [c14b0]) | skip)
              have H' := Aside0.mk H
              clear H
              go_wp2
              go_meet
              case rel => exact ⟨_, H', ⟨by have := HJ2.out; first | omega | exact Nat.le_refl _⟩, ⟨by (with_reducible repeat (first | refine blk_drewN ?_ _ | refine blk_drew ?_ | refine blk_alloc ?_ _)); refine blk_far ?_ NB135_138.out _; (with_reducible repeat (first | refine blk_drewN ?_ _ | refine blk_drew ?_ | refine blk_alloc ?_ _)); refine blk_far ?_ NB135_138.out _; (with_reducible repeat (first | refine blk_drewN ?_ _ | refine blk_drew ?_ | refine blk_alloc ?_ _)); refine blk_far ?_ NB135_138.out _; (with_reducible repeat (first | refine blk_drewN ?_ _ | refine blk_drew ?_ | refine blk_alloc ?_ _)); exact BK135.out⟩, ⟨by (with_reducible repeat (first | refine blk_drewN ?_ _ | refine blk_drew ?_ | refine blk_alloc ?_ _)); refine blk_put (cs := #[.int .i64 (wrap64 (t136 / 16777216)), .int .i64 (wrap64 (Go.bits .and .u32 t136 16777215)), .slice none 0 0]) ?_ 2 _ rfl; (with_reducible repeat (first | refine blk_drewN ?_ _ | refine blk_drew ?_ | refine blk_alloc ?_ _)); refine blk_put (cs := #[.int .i64 (wrap64 (t136 / 16777216)), .int .i64 0, .slice none 0 0]) ?_ 1 _ rfl; (with_reducible repeat (first | refine blk_drewN ?_ _ | refine blk_drew ?_ | refine blk_alloc ?_ _)); refine blk_put (cs := #[.int .i64 0, .int .i64 0, .slice none 0 0]) ?_ 0 _ rfl; (with_reducible repeat (first | refine blk_drewN ?_ _ | refine blk_drew ?_ | refine blk_alloc ?_ _)); exact BK138.out⟩, ⟨by repeat (first | (with_reducible first | exact HB.out | apply below_alloc | apply pw_below_drewN | apply below_drew1 | refine below_set ?_ GE135.out | refine below_set ?_ GE138.out) | exact HB.out)⟩⟩
            · rw [if_neg c14] at H
              have c14b0 : ((wrap64 (t136 / 16777216)) == 1) = false := beq_eq_false_iff_ne.mpr c14
              have c14b1 : ((wrap64 (t136 / 16777216)) != 1) = true := bne_iff_ne.mpr c14
              (first | rw [c14b0] | (simp only [i64_w, i32_w]; rw [c14b0]) | skip)
              by_cases c15 : (wrap64 (t136 / 16777216)) = 2
              · rw [if_pos c15] at H
                have c15b0 : ((wrap64 (t136 / 16777216)) == 2) = true := beq_iff_eq.mpr c15
                have c15b1 : ((wrap64 (t136 / 16777216)) != 2) = false := bne_eq_false_iff_eq.mpr c15
                clear c15
                have H' := Aside0.mk H
                clear H
                go_wp2
                go_meet
                case rel => exact ⟨_, H', ⟨by have := HJ2.out; first | omega | exact Nat.le_refl _⟩, ⟨by (with_reducible repeat (first | refine blk_drewN ?_ _ | refine blk_drew ?_ | refine blk_alloc ?_ _)); refine blk_far ?_ NB135_138.out _; (with_reducible repeat (first | refine blk_drewN ?_ _ | refine blk_drew ?_ | refine blk_alloc ?_ _)); refine blk_far ?_ NB135_138.out _; (with_reducible repeat (first | refine blk_drewN ?_ _ | refine blk_drew ?_ | refine blk_alloc ?_ _)); refine blk_far ?_ NB135_138.out _; (with_reducible repeat (first | refine blk_drewN ?_ _ | refine blk_drew ?_ | refine blk_alloc ?_ _)); exact BK135.out⟩, ⟨by (with_reducible repeat (first | refine blk_drewN ?_ _ | refine blk_drew ?_ | refine blk_alloc ?_ _)); refine blk_put (cs := #[.int .i64 (wrap64 (t136 / 16777216)), .int .i64 (wrap64 (Go.bits .and .u32 t136 16777215)), .slice none 0 0]) ?_ 2 _ rfl; (with_reducible repeat (first | refine blk_drewN ?_ _ | refine blk_drew ?_ | refine blk_alloc ?_ _)); refine blk_put (cs := #[.int .i64 (wrap64 (t136 / 16777216)), .int .i64 0, .slice none 0 0]) ?_ 1 _ rfl; (with_reducible repeat (first | refine blk_drewN ?_ _ | refine blk_drew ?_ | refine blk_alloc ?_ _)); refine blk_put (cs := #[.int .i64 0, .int .i64 0, .slice none 0 0]) ?_ 0 _ rfl; (with_reducible repeat (first | refine blk_drewN ?_ _ | refine blk_drew ?_ | refine blk_alloc ?_ _)); exact BK138.out⟩, ⟨by repeat (first | (with_reducible first | exact HB.out | apply below_alloc | apply pw_below_drewN | apply below_drew1 | refine below_set ?_ GE135.out | refine below_set ?_ GE138.out) | exact HB.out)⟩⟩
              · rw [if_neg c15] at H
                have c15b0 : ((wrap64 (t136 / 16777216)) == 2) = false := beq_eq_false_iff_ne.mpr c15
                have c15b1 : ((wrap64 (t136 / 16777216)) != 2) = true := bne_iff_ne.mpr c15
                by_cases c16 : (wrap64 (t136 / 16777216)) = 4
                · rw [if_pos c16] at H
                  have c16b0 : ((wrap64 (t136 / 16777216)) == 4) = true := beq_iff_eq.mpr c16
                  have c16b1 : ((wrap64 (t136 / 16777216)) != 4) = false := bne_eq_false_iff_eq.mpr c16
                  clear c16
                  by_cases c17 : (wrap64 (Go.bits .and .u32 t136 16777215)) > 65535
                  · rw [if_pos c17] at H
                    have c17b0 : decide (65535 < (wrap64 (Go.bits .and .u32 t136 16777215))) = true := decide_eq_true c17
                    clear c17
                    simp only [Option.some.injEq, Prod.mk.injEq] at H
                    obtain ⟨rfl, rfl, rfl, rfl, rfl⟩ := H
                    have hnb18 := NB138_135.out
                    have hnc18 := NB135_138.out
                    have hcz19_0 : w10.cell? ⟨gb138, 0, none⟩ = some (.int .i64 0) := (blk_cell BK138.out 0).trans rfl
                    have hcz19_1 : w10.cell? ⟨gb138, 1, none⟩ = some (.int .i64 0) := (blk_cell BK138.out 1).trans rfl
                    have hcz19_2 : w10.cell? ⟨gb138, 2, none⟩ = some (.slice none 0 0) := (blk_cell BK138.out 2).trans rfl
                    have hfz19_0 := blk_frozen BK138.out 0
                    have hfz19_1 := blk_frozen BK138.out 1
                    have hfz19_2 := blk_frozen BK138.out 2
                    have hcz20_0 : w10.cell? ⟨gb135, 0, none⟩ = some (.int .i64 0) := (blk_cell BK135.out 0).trans rfl
                    have hcz20_1 : w10.cell? ⟨gb135, 1, none⟩ = some (.int .i64 0) := (blk_cell BK135.out 1).trans rfl
                    have hcz20_2 : w10.cell? ⟨gb135, 2, none⟩ = some (.slice none 0 0) := (blk_cell BK135.out 2).trans rfl
                    have hfz20_0 := blk_frozen BK135.out 0
                    have hfz20_1 := blk_frozen BK135.out 1
                    have hfz20_2 := blk_frozen BK135.out 2
                    go_wp2
                    refine bodyPost_ret (results_ctt rfl _ _ gb135 24 #[.int .i64 0, .int .i64 0, .slice none 0 0] (0, 0) _ rfl (by (with_reducible repeat (first | refine blk_drewN ?_ _ | refine blk_drew ?_ | refine blk_alloc ?_ _)); refine blk_put (cs := #[.int .i64 0, .int .i64 0, .slice none 0 0]) ?_ 2 _ rfl; (with_reducible repeat (first | refine blk_drewN ?_ _ | refine blk_drew ?_ | refine blk_alloc ?_ _)); refine blk_put (cs := #[.int .i64 0, .int .i64 0, .slice none 0 0]) ?_ 1 _ rfl; (with_reducible repeat (first | refine blk_drewN ?_ _ | refine blk_drew ?_ | refine blk_alloc ?_ _)); refine blk_put (cs := #[.int .i64 0, .int .i64 0, .slice none 0 0]) ?_ 0 _ rfl; (with_reducible repeat (first | refine blk_drewN ?_ _ | refine blk_drew ?_ | refine blk_alloc ?_ _)); refine blk_far ?_ NB135_138.out _; (with_reducible repeat (first | refine blk_drewN ?_ _ | refine blk_drew ?_ | refine blk_alloc ?_ _)); refine blk_far ?_ NB135_138.out _; (with_reducible repeat (first | refine blk_drewN ?_ _ | refine blk_drew ?_ | refine blk_alloc ?_ _)); refine blk_far ?_ NB135_138.out _; (with_reducible repeat (first | refine blk_drewN ?_ _ | refine blk_drew ?_ | refine blk_alloc ?_ _)); exact BK135.out) Try.underlying24 rfl (by kernel_rfl)) rfl ?_
                    exact ⟨_, by first | rfl | (simp [errW_none, errW_some] <;> rfl) | (simp [*, errW_none, errW_some] <;> rfl), by first | exact Kd.R_nil _ _ _ _ _ | exact Kd.N_nil _ _ _ _ _ | exact Kd.V_nil _ _ _ _ _ | exact Kd.Q_nil _ _ _ _ _ | exact Kd.S_nil _ _ _ _ _, by repeat (first | (with_reducible first | exact HB.out | apply below_alloc | apply pw_below_drewN | apply below_drew1 | refine below_set ?_ GE135.out | refine below_set ?_ GE138.out) | exact HB.out)⟩
                  · rw [if_neg c17] at H
                    have c17b0 : decide (65535 < (wrap64 (Go.bits .and .u32 t136 16777215))) = false := decide_eq_false c17
                    clear c17
                    have H' := Aside0.mk H
                    clear H
                    have hnb21 := NB138_135.out
                    have hnc21 := NB135_138.out
                    have hcz22_0 : w10.cell? ⟨gb138, 0, none⟩ = some (.int .i64 0) := (blk_cell BK138.out 0).trans rfl
                    have hcz22_1 : w10.cell? ⟨gb138, 1, none⟩ = some (.int .i64 0) := (blk_cell BK138.out 1).trans rfl
                    have hcz22_2 : w10.cell? ⟨gb138, 2, none⟩ = some (.slice none 0 0) := (blk_cell BK138.out 2).trans rfl
                    have hfz22_0 := blk_frozen BK138.out 0
                    have hfz22_1 := blk_frozen BK138.out 1
                    have hfz22_2 := blk_frozen BK138.out 2
                    go_wp2
                    go_meet
                    case rel => exact ⟨_, (0), (0), H', ⟨by have := HJ2.out; first | omega | exact Nat.le_refl _⟩, ⟨by (with_reducible repeat (first | refine blk_drewN ?_ _ | refine blk_drew ?_ | refine blk_alloc ?_ _)); refine blk_far ?_ NB135_138.out _; (with_reducible repeat (first | refine blk_drewN ?_ _ | refine blk_drew ?_ | refine blk_alloc ?_ _)); refine blk_far ?_ NB135_138.out _; (with_reducible repeat (first | refine blk_drewN ?_ _ | refine blk_drew ?_ | refine blk_alloc ?_ _)); refine blk_far ?_ NB135_138.out _; (with_reducible repeat (first | refine blk_drewN ?_ _ | refine blk_drew ?_ | refine blk_alloc ?_ _)); exact BK135.out⟩, ⟨by (with_reducible repeat (first | refine blk_drewN ?_ _ | refine blk_drew ?_ | refine blk_alloc ?_ _)); refine blk_put (cs := #[.int .i64 (wrap64 (t136 / 16777216)), .int .i64 (wrap64 (Go.bits .and .u32 t136 16777215)), .slice none 0 0]) ?_ 2 _ rfl; (with_reducible repeat (first | refine blk_drewN ?_ _ | refine blk_drew ?_ | refine blk_alloc ?_ _)); refine blk_put (cs := #[.int .i64 (wrap64 (t136 / 16777216)), .int .i64 0, .slice none 0 0]) ?_ 1 _ rfl; (with_reducible repeat (first | refine blk_drewN ?_ _ | refine blk_drew ?_ | refine blk_alloc ?_ _)); refine blk_put (cs := #[.int .i64 0, .int .i64 0, .slice none 0 0]) ?_ 0 _ rfl; (with_reducible repeat (first | refine blk_drewN ?_ _ | refine blk_drew ?_ | refine blk_alloc ?_ _)); exact BK138.out⟩, ⟨by repeat (first | (with_reducible first | exact HB.out | apply below_alloc | apply pw_below_drewN | apply below_drew1 | refine below_set ?_ GE135.out | refine below_set ?_ GE138.out) | exact HB.out)⟩⟩
                · rw [if_neg c16] at H
                  have c16b0 : ((wrap64 (t136 / 16777216)) == 4) = false := beq_eq_false_iff_ne.mpr c16
                  have c16b1 : ((wrap64 (t136 / 16777216)) != 4) = true := bne_iff_ne.mpr c16
                  by_cases c23 : (wrap64 (t136 / 16777216)) = 3
                  · rw [if_pos c23] at H
                    have c23b0 : ((wrap64 (t136 / 16777216)) == 3) = true := beq_iff_eq.mpr c23
                    have c23b1 : ((wrap64 (t136 / 16777216)) != 3) = false := bne_eq_false_iff_eq.mpr c23
                    clear c23
                    have H' := Aside0.mk H
                    clear H
                    go_wp2
                    go_meet
                    case rel => exact ⟨_, (0), (0), H', ⟨by have := HJ2.out; first | omega | exact Nat.le_refl _⟩, ⟨by (with_reducible repeat (first | refine blk_drewN ?_ _ | refine blk_drew ?_ | refine blk_alloc ?_ _)); refine blk_far ?_ NB135_138.out _; (with_reducible repeat (first | refine blk_drewN ?_ _ | refine blk_drew ?_ | refine blk_alloc ?_ _)); refine blk_far ?_ NB135_138.out _; (with_reducible repeat (first | refine blk_drewN ?_ _ | refine blk_drew ?_ | refine blk_alloc ?_ _)); refine blk_far ?_ NB135_138.out _; (with_reducible repeat (first | refine blk_drewN ?_ _ | refine blk_drew ?_ | refine blk_alloc ?_ _)); exact BK135.out⟩, ⟨by (with_reducible repeat (first | refine blk_drewN ?_ _ | refine blk_drew ?_ | refine blk_alloc ?_ _)); refine blk_put (cs := #[.int .i64 (wrap64 (t136 / 16777216)), .int .i64 (wrap64 (Go.bits .and .u32 t136 16777215)), .slice none 0 0]) ?_ 2 _ rfl; (with_reducible repeat (first | refine blk_drewN ?_ _ | refine blk_drew ?_ | refine blk_alloc ?_ _)); refine blk_put (cs := #[.int .i64 (wrap64 (t136 / 16777216)), .int .i64 0, .slice none 0 0]) ?_ 1 _ rfl; (with_reducible repeat (first | refine blk_drewN ?_ _ | refine blk_drew ?_ | refine blk_alloc ?_ _)); refine blk_put (cs := #[.int .i64 0, .int .i64 0, .slice none 0 0]) ?_ 0 _ rfl; (with_reducible repeat (first | refine blk_drewN ?_ _ | refine blk_drew ?_ | refine blk_alloc ?_ _)); exact BK138.out⟩, ⟨by repeat (first | (with_reducible first | exact HB.out | apply below_alloc | apply pw_below_drewN | apply below_drew1 | refine below_set ?_ GE135.out | refine below_set ?_ GE138.out) | exact HB.out)⟩⟩
                  · rw [if_neg c23] at H
                    have c23b0 : ((wrap64 (t136 / 16777216)) == 3) = false := beq_eq_false_iff_ne.mpr c23
                    have c23b1 : ((wrap64 (t136 / 16777216)) != 3) = true := bne_iff_ne.mpr c23
                    simp only [Option.some.injEq, Prod.mk.injEq] at H
                    obtain ⟨rfl, rfl, rfl, rfl, rfl⟩ := H
                    have hnb24 := NB135_138.out
                    have hnc24 := NB138_135.out
                    have hcz25_0 : w10.cell? ⟨gb135, 0, none⟩ = some (.int .i64 0) := (blk_cell BK135.out 0).trans rfl
                    have hcz25_1 : w10.cell? ⟨gb135, 1, none⟩ = some (.int .i64 0) := (blk_cell BK135.out 1).trans rfl
                    have hcz25_2 : w10.cell? ⟨gb135, 2, none⟩ = some (.slice none 0 0) := (blk_cell BK135.out 2).trans rfl
                    have hfz25_0 := blk_frozen BK135.out 0
                    have hfz25_1 := blk_frozen BK135.out 1
                    have hfz25_2 := blk_frozen BK135.out 2
                    go_wp2
                    refine bodyPost_ret (results_ctt rfl _ _ gb135 24 #[.int .i64 0, .int .i64 0, .slice none 0 0] (0, 0) _ rfl (by (with_reducible repeat (first | refine blk_drewN ?_ _ | refine blk_drew ?_ | refine blk_alloc ?_ _)); refine blk_put (cs := #[.int .i64 0, .int .i64 0, .slice none 0 0]) ?_ 2 _ rfl; (with_reducible repeat (first | refine blk_drewN ?_ _ | refine blk_drew ?_ | refine blk_alloc ?_ _)); refine blk_put (cs := #[.int .i64 0, .int .i64 0, .slice none 0 0]) ?_ 1 _ rfl; (with_reducible repeat (first | refine blk_drewN ?_ _ | refine blk_drew ?_ | refine blk_alloc ?_ _)); refine blk_put (cs := #[.int .i64 0, .int .i64 0, .slice none 0 0]) ?_ 0 _ rfl; (with_reducible repeat (first | refine blk_drewN ?_ _ | refine blk_drew ?_ | refine blk_alloc ?_ _)); refine blk_far ?_ NB135_138.out _; (with_reducible repeat (first | refine blk_drewN ?_ _ | refine blk_drew ?_ | refine blk_alloc ?_ _)); refine blk_far ?_ NB135_138.out _; (with_reducible repeat (first | refine blk_drewN ?_ _ | refine blk_drew ?_ | refine blk_alloc ?_ _)); refine blk_far ?_ NB135_138.out _; (with_reducible repeat (first | refine blk_drewN ?_ _ | refine blk_drew ?_ | refine blk_alloc ?_ _)); exact BK135.out) Try.underlying24 rfl (by kernel_rfl)) rfl ?_
                    exact ⟨_, by first | rfl | (simp [errW_none, errW_some] <;> rfl) | (simp [*, errW_none, errW_some] <;> rfl), by first | exact Kd.R_nil _ _ _ _ _ | exact Kd.N_nil _ _ _ _ _ | exact Kd.V_nil _ _ _ _ _ | exact Kd.Q_nil _ _ _ _ _ | exact Kd.S_nil _ _ _ _ _, by repeat (first | (with_reducible first | exact HB.out | apply below_alloc | apply pw_below_drewN | apply below_drew1 | refine below_set ?_ GE135.out | refine below_set ?_ GE138.out) | exact HB.out)⟩
          case rest =>
            clear HC13
            try clear c1
            try clear c2
            try clear p2
            try clear c5
            try clear c5b0
            try clear c6
            try clear p6
            try clear c11
            try clear c14
            try clear c14b0
            try clear c14b1
            try clear c15
            try clear c15b0
            try clear c15b1
            try clear c16
            try clear c16b0
            try clear c16b1
            try clear c17
            try clear c17b0
            try clear c18
            try clear c21
            try clear c23
            try clear c23b0
            try clear c23b1
            try clear c24
            try clear hcz12_0
            try clear hcz12_1
            try clear hcz12_2
            try clear hcz19_0
            try clear hcz19_1
            try clear hcz19_2
            try clear hcz20_0
            try clear hcz20_1
            try clear hcz20_2
            try clear hcz22_0
            try clear hcz22_1
            try clear hcz22_2
            try clear hcz25_0
            try clear hcz25_1
            try clear hcz25_2
            try clear hcz7_0
            try clear hcz7_1
            try clear hcz7_2
            try clear hfz12_0
            try clear hfz12_1
            try clear hfz12_2
            try clear hfz19_0
            try clear hfz19_1
            try clear hfz19_2
            try clear hfz20_0
            try clear hfz20_1
            try clear hfz20_2
            try clear hfz22_0
            try clear hfz22_1
            try clear hfz22_2
            try clear hfz25_0
            try clear hfz25_1
            try clear hfz25_2
            try clear hfz7_0
            try clear hfz7_1
            try clear hfz7_2
            try clear p2
            obtain ⟨kq, HA, HJ12, BK135, BK138, HB⟩ := hcut
            cases kq with
            | zero => exact absurd HA.out (by simp [code_Decode.j1])
            | succ kj12 =>
              have H := HA.out
              clear HA
              simp only [code_Decode.j1] at H
              by_cases c26 : (wrap64 (Go.bits .and .u32 t136 16777215)) > 255
              · rw [if_pos c26] at H
                have c26b0 : decide (255 < (wrap64 (Go.bits .and .u32 t136 16777215))) = true := decide_eq_true c26
                clear c26
                simp only [Option.some.injEq, Prod.mk.injEq] at H
                obtain ⟨rfl, rfl, rfl, rfl, rfl⟩ := H
                have hnb27 := NB138_135.out
                have hnc27 := NB135_138.out
                have hcz28_0 : wc.cell? ⟨gb138, 0, none⟩ = some (.int .i64 (wrap64 (t136 / 16777216))) := (blk_cell BK138.out 0).trans rfl
                have hcz28_1 : wc.cell? ⟨gb138, 1, none⟩ = some (.int .i64 (wrap64 (Go.bits .and .u32 t136 16777215))) := (blk_cell BK138.out 1).trans rfl
                have hcz28_2 : wc.cell? ⟨gb138, 2, none⟩ = some (.slice none 0 0) := (blk_cell BK138.out 2).trans rfl
                have hfz28_0 := blk_frozen BK138.out 0
                have hfz28_1 := blk_frozen BK138.out 1
                have hfz28_2 := blk_frozen BK138.out 2
                have hcz29_0 : wc.cell? ⟨gb135, 0, none⟩ = some (.int .i64 0) := (blk_cell BK135.out 0).trans rfl
                have hcz29_1 : wc.cell? ⟨gb135, 1, none⟩ = some (.int .i64 0) := (blk_cell BK135.out 1).trans rfl
                have hcz29_2 : wc.cell? ⟨gb135, 2, none⟩ = some (.slice none 0 0) := (blk_cell BK135.out 2).trans rfl
                have hfz29_0 := blk_frozen BK135.out 0
                have hfz29_1 := blk_frozen BK135.out 1
                have hfz29_2 := blk_frozen BK135.out 2
                go_wp2
                refine bodyPost_ret (results_ctt rfl _ _ gb135 24 #[.int .i64 0, .int .i64 0, .slice none 0 0] (0, 0) _ rfl (by (with_reducible repeat (first | refine blk_drewN ?_ _ | refine blk_drew ?_ | refine blk_alloc ?_ _)); refine blk_put (cs := #[.int .i64 0, .int .i64 0, .slice none 0 0]) ?_ 2 _ rfl; (with_reducible repeat (first | refine blk_drewN ?_ _ | refine blk_drew ?_ | refine blk_alloc ?_ _)); refine blk_put (cs := #[.int .i64 0, .int .i64 0, .slice none 0 0]) ?_ 1 _ rfl; (with_reducible repeat (first | refine blk_drewN ?_ _ | refine blk_drew ?_ | refine blk_alloc ?_ _)); refine blk_put (cs := #[.int .i64 0, .int .i64 0, .slice none 0 0]) ?_ 0 _ rfl; (with_reducible repeat (first | refine blk_drewN ?_ _ | refine blk_drew ?_ | refine blk_alloc ?_ _)); exact BK135.out) Try.underlying24 rfl (by kernel_rfl)) rfl ?_
                exact ⟨_, by first | rfl | (simp [errW_none, errW_some] <;> rfl) | (simp [*, errW_none, errW_some] <;> rfl), by first | exact Kd.R_nil _ _ _ _ _ | exact Kd.N_nil _ _ _ _ _ | exact Kd.V_nil _ _ _ _ _ | exact Kd.Q_nil _ _ _ _ _ | exact Kd.S_nil _ _ _ _ _, by repeat (first | (with_reducible first | exact HB.out | apply below_alloc | apply pw_below_drewN | apply below_drew1 | refine below_set ?_ GE135.out | refine below_set ?_ GE138.out) | exact HB.out)⟩
              · rw [if_neg c26] at H
                have c26b0 : decide (255 < (wrap64 (Go.bits .and .u32 t136 16777215))) = false := decide_eq_false c26
                clear c26
                have H' := Aside0.mk H
                clear H
                have hnb30 := NB138_135.out
                have hnc30 := NB135_138.out
                have hcz31_0 : wc.cell? ⟨gb138, 0, none⟩ = some (.int .i64 (wrap64 (t136 / 16777216))) := (blk_cell BK138.out 0).trans rfl
                have hcz31_1 : wc.cell? ⟨gb138, 1, none⟩ = some (.int .i64 (wrap64 (Go.bits .and .u32 t136 16777215))) := (blk_cell BK138.out 1).trans rfl
                have hcz31_2 : wc.cell? ⟨gb138, 2, none⟩ = some (.slice none 0 0) := (blk_cell BK138.out 2).trans rfl
                have hfz31_0 := blk_frozen BK138.out 0
                have hfz31_1 := blk_frozen BK138.out 1
                have hfz31_2 := blk_frozen BK138.out 2
                go_wp2
                go_meet
                case rel => exact ⟨_, (0), (0), H', ⟨by have := HJ2.out; have := HJ12.out; first | omega | exact Nat.le_refl _⟩, ⟨by (with_reducible repeat (first | refine blk_drewN ?_ _ | refine blk_drew ?_ | refine blk_alloc ?_ _)); exact BK135.out⟩, ⟨by (with_reducible repeat (first | refine blk_drewN ?_ _ | refine blk_drew ?_ | refine blk_alloc ?_ _)); exact BK138.out⟩, ⟨by repeat (first | (with_reducible first | exact HB.out | apply below_alloc | apply pw_below_drewN | apply below_drew1 | refine below_set ?_ GE135.out | refine below_set ?_ GE138.out) | exact HB.out)⟩⟩
        case rest =>
          clear HC9
          try clear c1
          try clear c2
          try clear p2
          try clear c3
          try clear c5
          try clear c5b0
          try clear c6
          try clear p6
          try clear c11
          try clear c14
          try clear c14b0
          try clear c14b1
          try clear c15
          try clear c15b0
          try clear c15b1
          try clear c16
          try clear c16b0
          try clear c16b1
          try clear c17
          try clear c17b0
          try clear c18
          try clear c21
          try clear c23
          try clear c23b0
          try clear c23b1
          try clear c24
          try clear c26
          try clear c26b0
          try clear c27
          try clear c30
          try clear hcz12_0
          try clear hcz12_1
          try clear hcz12_2
          try clear hcz19_0
          try clear hcz19_1
          try clear hcz19_2
          try clear hcz20_0
          try clear hcz20_1
          try clear hcz20_2
          try clear hcz22_0
          try clear hcz22_1
          try clear hcz22_2
          try clear hcz25_0
          try clear hcz25_1
          try clear hcz25_2
          try clear hcz28_0
          try clear hcz28_1
          try clear hcz28_2
          try clear hcz29_0
          try clear hcz29_1
          try clear hcz29_2
          try clear hcz31_0
          try clear hcz31_1
          try clear hcz31_2
          try clear hcz7_0
          try clear hcz7_1
          try clear hcz7_2
          try clear hfz12_0
          try clear hfz12_1
          try clear hfz12_2
          try clear hfz19_0
          try clear hfz19_1
          try clear hfz19_2
          try clear hfz20_0
          try clear hfz20_1
          try clear hfz20_2
          try clear hfz22_0
          try clear hfz22_1
          try clear hfz22_2
          try clear hfz25_0
          try clear hfz25_1
          try clear hfz25_2
          try clear hfz28_0
          try clear hfz28_1
          try clear hfz28_2
          try clear hfz29_0
          try clear hfz29_1
          try clear hfz29_2
          try clear hfz31_0
          try clear hfz31_1
          try clear hfz31_2
          try clear hfz7_0
          try clear hfz7_1
          try clear hfz7_2
          try clear p2
          try clear p6
          obtain ⟨kq, x136000_8, x136001_8, HA, HJ8, BK135, BK138, HB⟩ := hcut
          cases kq with
          | zero => exact absurd HA.out (by simp [code_Decode.j2])
          | succ kj8 =>
            have H := HA.out
            clear HA
            simp only [code_Decode.j2] at H
            replace H := Option.bind_eq_some_iff.mp H
            obtain ⟨t139, A320, H⟩ := H
            replace H : (if t139 = true then (if (wrap64 (t136 / 16777216)) = 2 then ((code_mapped.f (wrap64 (Go.bits .and .u32 t136 16777215))).bind fun t140 => (if t140 > (wrap64 ((wrap64 ((wrap64 ((l0.length : Int) / 4)) - a1)) - 1)) then (some (0, 0, ([] : List Int), 0, 30)) else (if 0 ≤ t140 then (if (t140 : Int).toNat ≤ 70368744177664 then ((some (List.replicate (t140 : Int).toNat 0 : List Int)).bind fun y141 => (code_Decode.l0 kj8 l0 a1 t140 (y141.length : Int) 0 (wrap64 (t136 / 16777216)) (wrap64 (Go.bits .and .u32 t136 16777215)) y141)) else (none)) else (none)))) else (some ((wrap64 (t136 / 16777216)), (wrap64 (Go.bits .and .u32 t136 16777215)), ([] : List Int), 1, 0))) else (some (0, 0, ([] : List Int), 0, 1))) = some (r1, r2, r3, r4, r5) := H
            have A32 := Aside0.mk A320
            clear A320
            by_cases c33 : t139 = true
            · subst c33
              have H1 : (if (wrap64 (t136 / 16777216)) = 2 then ((code_mapped.f (wrap64 (Go.bits .and .u32 t136 16777215))).bind fun t140 => (if t140 > (wrap64 ((wrap64 ((wrap64 ((l0.length : Int) / 4)) - a1)) - 1)) then (some (0, 0, ([] : List Int), 0, 30)) else (if 0 ≤ t140 then (if (t140 : Int).toNat ≤ 70368744177664 then ((some (List.replicate (t140 : Int).toNat 0 : List Int)).bind fun y141 => (code_Decode.l0 kj8 l0 a1 t140 (y141.length : Int) 0 (wrap64 (t136 / 16777216)) (wrap64 (Go.bits .and .u32 t136 16777215)) y141)) else (none)) else (none)))) else (some ((wrap64 (t136 / 16777216)), (wrap64 (Go.bits .and .u32 t136 16777215)), ([] : List Int), 1, 0))) = some (r1, r2, r3, r4, r5) := by rw [if_pos rfl] at H; exact H
              clear H
              have H := H1
              clear H1
              by_cases c34 : (wrap64 (t136 / 16777216)) = 2
              · rw [if_pos c34] at H
                have c34b0 : ((wrap64 (t136 / 16777216)) == 2) = true := beq_iff_eq.mpr c34
                have c34b1 : ((wrap64 (t136 / 16777216)) != 2) = false := bne_eq_false_iff_eq.mpr c34
                clear c34
                replace H := Option.bind_eq_some_iff.mp H
                obtain ⟨t140, A350, H⟩ := H
                replace H : (if t140 > (wrap64 ((wrap64 ((wrap64 ((l0.length : Int) / 4)) - a1)) - 1)) then (some (0, 0, ([] : List Int), 0, 30)) else (if 0 ≤ t140 then (if (t140 : Int).toNat ≤ 70368744177664 then ((some (List.replicate (t140 : Int).toNat 0 : List Int)).bind fun y141 => (code_Decode.l0 kj8 l0 a1 t140 (y141.length : Int) 0 (wrap64 (t136 / 16777216)) (wrap64 (Go.bits .and .u32 t136 16777215)) y141)) else (none)) else (none))) = some (r1, r2, r3, r4, r5) := H
                have A35 := Aside0.mk A350
                clear A350
                by_cases c36 : t140 > (wrap64 ((wrap64 ((wrap64 ((l0.length : Int) / 4)) - a1)) - 1))
                · rw [if_pos c36] at H
                  have c36b0 : decide ((wrap64 ((wrap64 ((wrap64 ((l0.length : Int) / 4)) - a1)) - 1)) < t140) = true := decide_eq_true c36
                  clear c36
                  simp only [Option.some.injEq, Prod.mk.injEq] at H
                  obtain ⟨rfl, rfl, rfl, rfl, rfl⟩ := H
                  have hnb37 := NB138_135.out
                  have hnc37 := NB135_138.out
                  have hcz38_0 : wc.cell? ⟨gb138, 0, none⟩ = some (.int .i64 (wrap64 (t136 / 16777216))) := (blk_cell BK138.out 0).trans rfl
                  have hcz38_1 : wc.cell? ⟨gb138, 1, none⟩ = some (.int .i64 (wrap64 (Go.bits .and .u32 t136 16777215))) := (blk_cell BK138.out 1).trans rfl
                  have hcz38_2 : wc.cell? ⟨gb138, 2, none⟩ = some (.slice none 0 0) := (blk_cell BK138.out 2).trans rfl
                  have hfz38_0 := blk_frozen BK138.out 0
                  have hfz38_1 := blk_frozen BK138.out 1
                  have hfz38_2 := blk_frozen BK138.out 2
                  go_wp2_with (first | ((with_reducible refine gate_callee (f := 22) rfl ?_); refine goesL_ (some 59) rfl rfl Try.func22 (by kernel_rfl) rfl #[.int .i64 (wrap64 (t136 / 16777216)), .int .i64 (wrap64 (Go.bits .and .u32 t136 16777215))] rfl (by (try simp only [List.map_toArray, List.map_cons, List.map_nil]); first | done | rfl | (simp only [List.length_drop, List.length_take]; rfl)) ?_; (with_reducible refine (code_number.calls (wrap64 (t136 / 16777216)) (wrap64 (Go.bits .and .u32 t136 16777215)) true _ A32.out).mono ?_); rintro e w' ⟨rfl, ⟨nd, rfl⟩⟩; refine ⟨_, rfl, ?_⟩; (try (rw [drewN_self wc]; generalize hq_ : World.drewN wc _ = wc; have n0_ : Aside0 (wc.heap[gb135]? = some (.cells #[.int .i64 x136000_8, .int .i64 x136001_8, .slice none 0 0] 24 (0, 0))) := ⟨by rw [← hq_]; exact (by (with_reducible repeat (first | refine blk_drewN ?_ _ | refine blk_drew ?_ | refine blk_alloc ?_ _)); exact BK135.out)⟩; have n1_ : Aside0 (wc.heap[gb138]? = some (.cells #[.int .i64 (wrap64 (t136 / 16777216)), .int .i64 (wrap64 (Go.bits .and .u32 t136 16777215)), .slice none 0 0] 24 (0, 0))) := ⟨by rw [← hq_]; exact (by (with_reducible repeat (first | refine blk_drewN ?_ _ | refine blk_drew ?_ | refine blk_alloc ?_ _)); exact BK138.out)⟩; have n2_ : Aside0 (Below w.heap.size w wc) := ⟨by rw [← hq_]; exact (by repeat (first | (with_reducible first | exact HB.out | apply below_alloc | apply pw_below_drewN | apply below_drew1 | refine below_set ?_ GE135.out | refine below_set ?_ GE138.out) | exact HB.out))⟩; clear BK135 BK138 HB hq_; have BK135 := n0_; have BK138 := n1_; have HB := n2_; clear n0_ n1_ n2_)); have hcz39_0 : wc.cell? ⟨gb138, 0, none⟩ = some (.int .i64 (wrap64 (t136 / 16777216))) := (blk_cell BK138.out 0).trans rfl; have hcz39_1 : wc.cell? ⟨gb138, 1, none⟩ = some (.int .i64 (wrap64 (Go.bits .and .u32 t136 16777215))) := (blk_cell BK138.out 1).trans rfl; have hcz39_2 : wc.cell? ⟨gb138, 2, none⟩ = some (.slice none 0 0) := (blk_cell BK138.out 2).trans rfl; have hfz39_0 := blk_frozen BK138.out 0; have hfz39_1 := blk_frozen BK138.out 1; have hfz39_2 := blk_frozen BK138.out 2) | ((with_reducible refine gate_callee (f := 27) rfl ?_); refine goesL_ (some 68) rfl rfl Try.func27 (by kernel_rfl) rfl #[.int .i64 (wrap64 (Go.bits .and .u32 t136 16777215))] rfl (by (try simp only [List.map_toArray, List.map_cons, List.map_nil]); first | done | rfl | (simp only [List.length_drop, List.length_take]; rfl)) ?_; (with_reducible refine (code_mapped.calls (wrap64 (Go.bits .and .u32 t136 16777215)) t140 _ A35.out).mono ?_); rintro e w' ⟨rfl, ⟨nd, rfl⟩⟩; refine ⟨_, rfl, ?_⟩; (try (rw [drewN_self wc]; generalize hq_ : World.drewN wc _ = wc; have n0_ : Aside0 (wc.heap[gb135]? = some (.cells #[.int .i64 x136000_8, .int .i64 x136001_8, .slice none 0 0] 24 (0, 0))) := ⟨by rw [← hq_]; exact (by (with_reducible repeat (first | refine blk_drewN ?_ _ | refine blk_drew ?_ | refine blk_alloc ?_ _)); exact BK135.out)⟩; have n1_ : Aside0 (wc.heap[gb138]? = some (.cells #[.int .i64 (wrap64 (t136 / 16777216)), .int .i64 (wrap64 (Go.bits .and .u32 t136 16777215)), .slice none 0 0] 24 (0, 0))) := ⟨by rw [← hq_]; exact (by (with_reducible repeat (first | refine blk_drewN ?_ _ | refine blk_drew ?_ | refine blk_alloc ?_ _)); exact BK138.out)⟩; have n2_ : Aside0 (Below w.heap.size w wc) := ⟨by rw [← hq_]; exact (by repeat (first | (with_reducible first | exact HB.out | apply below_alloc | apply pw_below_drewN | apply below_drew1 | refine below_set ?_ GE135.out | refine below_set ?_ GE138.out) | exact HB.out))⟩; clear BK135 BK138 HB hq_; have BK135 := n0_; have BK138 := n1_; have HB := n2_; clear n0_ n1_ n2_)); have hcz40_0 : wc.cell? ⟨gb135, 0, none⟩ = some (.int .i64 x136000_8) := (blk_cell BK135.out 0).trans rfl; have hcz40_1 : wc.cell? ⟨gb135, 1, none⟩ = some (.int .i64 x136001_8) := (blk_cell BK135.out 1).trans rfl; have hcz40_2 : wc.cell? ⟨gb135, 2, none⟩ = some (.slice none 0 0) := (blk_cell BK135.out 2).trans rfl; have hfz40_0 := blk_frozen BK135.out 0; have hfz40_1 := blk_frozen BK135.out 1; have hfz40_2 := blk_frozen BK135.out 2))
                  refine bodyPost_ret (results_ctt rfl _ _ gb135 24 #[.int .i64 0, .int .i64 0, .slice none 0 0] (0, 0) _ rfl (by (with_reducible repeat (first | refine blk_drewN ?_ _ | refine blk_drew ?_ | refine blk_alloc ?_ _)); refine blk_put (cs := #[.int .i64 0, .int .i64 0, .slice none 0 0]) ?_ 2 _ rfl; (with_reducible repeat (first | refine blk_drewN ?_ _ | refine blk_drew ?_ | refine blk_alloc ?_ _)); refine blk_put (cs := #[.int .i64 0, .int .i64 x136001_8, .slice none 0 0]) ?_ 1 _ rfl; (with_reducible repeat (first | refine blk_drewN ?_ _ | refine blk_drew ?_ | refine blk_alloc ?_ _)); refine blk_put (cs := #[.int .i64 x136000_8, .int .i64 x136001_8, .slice none 0 0]) ?_ 0 _ rfl; (with_reducible repeat (first | refine blk_drewN ?_ _ | refine blk_drew ?_ | refine blk_alloc ?_ _)); exact BK135.out) Try.underlying24 rfl (by kernel_rfl)) rfl ?_
                  exact ⟨_, by first | rfl | (simp [errW_none, errW_some] <;> rfl) | (simp [*, errW_none, errW_some] <;> rfl), by first | exact Kd.R_nil _ _ _ _ _ | exact Kd.N_nil _ _ _ _ _ | exact Kd.V_nil _ _ _ _ _ | exact Kd.Q_nil _ _ _ _ _ | exact Kd.S_nil _ _ _ _ _, by repeat (first | (with_reducible first | exact HB.out | apply below_alloc | apply pw_below_drewN | apply below_drew1 | refine below_set ?_ GE135.out | refine below_set ?_ GE138.out) | exact HB.out)⟩
                · rw [if_neg c36] at H
                  have c36b0 : decide ((wrap64 ((wrap64 ((wrap64 ((l0.length : Int) / 4)) - a1)) - 1)) < t140) = false := decide_eq_false c36
                  clear c36
                  by_cases c41 : 0 ≤ t140
                  · rw [if_pos c41] at H
                    have c41b0 := eq_true c41
                    have c41b1 : decide (0 ≤ t140) = true := decide_eq_true c41
                    clear c41
                    by_cases c42 : (t140 : Int).toNat ≤ 70368744177664
                    · rw [if_pos c42] at H
                      have c42b0 := eq_true c42
                      have c42b1 : decide ((t140 : Int).toNat ≤ 70368744177664) = true := decide_eq_true c42
                      clear c42
                      obtain ⟨y141, hy141⟩ : ∃ y_ : List Int, y_ = (List.replicate (t140 : Int).toNat 0) := ⟨_, rfl⟩
                      replace H : (code_Decode.l0 kj8 l0 a1 t140 (y141.length : Int) 0 (wrap64 (t136 / 16777216)) (wrap64 (Go.bits .and .u32 t136 16777215)) y141) = some (r1, r2, r3, r4, r5) := by first | (rw [hy141]; with_reducible exact H) | (have H2_ := (Option.bind_some _ _).symm.trans H; rw [hy141]; with_reducible exact H2_) | (have H2_ := (Option.bind_some _ _).symm.trans H; with_reducible exact H2_) | with_reducible exact H | (rw [hy141]; exact H) | exact H
                      have Ny141 := Aside0.mk hy141
                      clear hy141
                      have H' := Aside0.mk H
                      clear H
                      have hnb43 := NB138_135.out
                      have hnc43 := NB135_138.out
                      have hcz44_0 : wc.cell? ⟨gb138, 0, none⟩ = some (.int .i64 (wrap64 (t136 / 16777216))) := (blk_cell BK138.out 0).trans rfl
                      have hcz44_1 : wc.cell? ⟨gb138, 1, none⟩ = some (.int .i64 (wrap64 (Go.bits .and .u32 t136 16777215))) := (blk_cell BK138.out 1).trans rfl
                      have hcz44_2 : wc.cell? ⟨gb138, 2, none⟩ = some (.slice none 0 0) := (blk_cell BK138.out 2).trans rfl
                      have hfz44_0 := blk_frozen BK138.out 0
                      have hfz44_1 := blk_frozen BK138.out 1
                      have hfz44_2 := blk_frozen BK138.out 2
                      go_wp2_with (first | ((with_reducible refine gate_callee (f := 22) rfl ?_); refine goesL_ (some 59) rfl rfl Try.func22 (by kernel_rfl) rfl #[.int .i64 (wrap64 (t136 / 16777216)), .int .i64 (wrap64 (Go.bits .and .u32 t136 16777215))] rfl (by (try simp only [List.map_toArray, List.map_cons, List.map_nil]); first | done | rfl | (simp only [List.length_drop, List.length_take]; rfl)) ?_; (with_reducible refine (code_number.calls (wrap64 (t136 / 16777216)) (wrap64 (Go.bits .and .u32 t136 16777215)) true _ A32.out).mono ?_); rintro e w' ⟨rfl, ⟨nd, rfl⟩⟩; refine ⟨_, rfl, ?_⟩; (try (rw [drewN_self wc]; generalize hq_ : World.drewN wc _ = wc; have n0_ : Aside0 (wc.heap[gb135]? = some (.cells #[.int .i64 x136000_8, .int .i64 x136001_8, .slice none 0 0] 24 (0, 0))) := ⟨by rw [← hq_]; exact (by (with_reducible repeat (first | refine blk_drewN ?_ _ | refine blk_drew ?_ | refine blk_alloc ?_ _)); exact BK135.out)⟩; have n1_ : Aside0 (wc.heap[gb138]? = some (.cells #[.int .i64 (wrap64 (t136 / 16777216)), .int .i64 (wrap64 (Go.bits .and .u32 t136 16777215)), .slice none 0 0] 24 (0, 0))) := ⟨by rw [← hq_]; exact (by (with_reducible repeat (first | refine blk_drewN ?_ _ | refine blk_drew ?_ | refine blk_alloc ?_ _)); exact BK138.out)⟩; have n2_ : Aside0 (Below w.heap.size w wc) := ⟨by rw [← hq_]; exact (by repeat (first | (with_reducible first | exact HB.out | apply below_alloc | apply pw_below_drewN | apply below_drew1 | refine below_set ?_ GE135.out | refine below_set ?_ GE138.out) | exact HB.out))⟩; clear BK135 BK138 HB hq_; have BK135 := n0_; have BK138 := n1_; have HB := n2_; clear n0_ n1_ n2_)); have hcz45_0 : wc.cell? ⟨gb138, 0, none⟩ = some (.int .i64 (wrap64 (t136 / 16777216))) := (blk_cell BK138.out 0).trans rfl; have hcz45_1 : wc.cell? ⟨gb138, 1, none⟩ = some (.int .i64 (wrap64 (Go.bits .and .u32 t136 16777215))) := (blk_cell BK138.out 1).trans rfl; have hcz45_2 : wc.cell? ⟨gb138, 2, none⟩ = some (.slice none 0 0) := (blk_cell BK138.out 2).trans rfl; have hfz45_0 := blk_frozen BK138.out 0; have hfz45_1 := blk_frozen BK138.out 1; have hfz45_2 := blk_frozen BK138.out 2) | ((with_reducible refine gate_callee (f := 27) rfl ?_); refine goesL_ (some 68) rfl rfl Try.func27 (by kernel_rfl) rfl #[.int .i64 (wrap64 (Go.bits .and .u32 t136 16777215))] rfl (by (try simp only [List.map_toArray, List.map_cons, List.map_nil]); first | done | rfl | (simp only [List.length_drop, List.length_take]; rfl)) ?_; (with_reducible refine (code_mapped.calls (wrap64 (Go.bits .and .u32 t136 16777215)) t140 _ A35.out).mono ?_); rintro e w' ⟨rfl, ⟨nd, rfl⟩⟩; refine ⟨_, rfl, ?_⟩; (try (rw [drewN_self wc]; generalize hq_ : World.drewN wc _ = wc; have n0_ : Aside0 (wc.heap[gb135]? = some (.cells #[.int .i64 x136000_8, .int .i64 x136001_8, .slice none 0 0] 24 (0, 0))) := ⟨by rw [← hq_]; exact (by (with_reducible repeat (first | refine blk_drewN ?_ _ | refine blk_drew ?_ | refine blk_alloc ?_ _)); exact BK135.out)⟩; have n1_ : Aside0 (wc.heap[gb138]? = some (.cells #[.int .i64 (wrap64 (t136 / 16777216)), .int .i64 (wrap64 (Go.bits .and .u32 t136 16777215)), .slice none 0 0] 24 (0, 0))) := ⟨by rw [← hq_]; exact (by (with_reducible repeat (first | refine blk_drewN ?_ _ | refine blk_drew ?_ | refine blk_alloc ?_ _)); exact BK138.out)⟩; have n2_ : Aside0 (Below w.heap.size w wc) := ⟨by rw [← hq_]; exact (by repeat (first | (with_reducible first | exact HB.out | apply below_alloc | apply pw_below_drewN | apply below_drew1 | refine below_set ?_ GE135.out | refine below_set ?_ GE138.out) | exact HB.out))⟩; clear BK135 BK138 HB hq_; have BK135 := n0_; have BK138 := n1_; have HB := n2_; clear n0_ n1_ n2_))) | ((with_reducible refine gate_dst (N := 79) rfl ?_); (try (refine gate_guard (by rfl) ?_; dsimp only)); refine Kd.R_make (Kd.int .u32) _ 44 rfl (N := 79) rfl 22 _ _ rfl t140 rfl rfl Try.underlying22 (.int .u32 0) 4 info44 rfl (by decide) (by omega) 0 (ok := fun _ => True) (okp := fun _ => True) rfl (fun _ hk => hk) trivial (of_decide_eq_true (by first | (with_reducible assumption) | assumption)) (Nat.le_trans (Nat.mul_le_mul_right _ (of_decide_eq_true (by first | (with_reducible assumption) | assumption) : t140.toNat ≤ 70368744177664)) (by omega)) (Below.refl _ _) (Nat.le_refl _) ?_; intro v142 w46 ho47 hb hg_ hnew_; clear hg_ hnew_; (first | rw [← Ny141.out] at ho47 | (simp only [Int.reduceToNat] at ho47; rw [← Ny141.out] at ho47)); have n0_ := Aside0.mk (Kd.R_lower ho47 (below_size (by repeat (first | (with_reducible first | exact HB.out | apply below_alloc | apply pw_below_drewN | apply below_drew1 | refine below_set ?_ GE135.out | refine below_set ?_ GE138.out) | exact HB.out)))); have n1_ := Aside0.mk (blk_below (g := gb135) (o := .cells #[.int .i64 x136000_8, .int .i64 x136001_8, .slice none 0 0] 24 (0, 0)) (by (with_reducible repeat (first | refine blk_drewN ?_ _ | refine blk_drew ?_ | refine blk_alloc ?_ _)); exact BK135.out) hb); have n2_ := Aside0.mk (blk_below (g := gb138) (o := .cells #[.int .i64 (wrap64 (t136 / 16777216)), .int .i64 (wrap64 (Go.bits .and .u32 t136 16777215)), .slice none 0 0] 24 (0, 0)) (by (with_reducible repeat (first | refine blk_drewN ?_ _ | refine blk_drew ?_ | refine blk_alloc ?_ _)); exact BK138.out) hb); have n3_ := Aside0.mk (below_step (by repeat (first | (with_reducible first | exact HB.out | apply below_alloc | apply pw_below_drewN | apply below_drew1 | refine below_set ?_ GE135.out | refine below_set ?_ GE138.out) | exact HB.out)) hb); clear BK135; clear BK138; clear HB; have HO143 := n0_; have BK135 := n1_; have BK138 := n2_; have HB := n3_; clear n0_ n1_ n2_ n3_; clear hb ho47; obtain ⟨Ao48, co48, eo48⟩ := Kd.R_slice HO143.out; subst eo48; have hcz49_0 : w46.cell? ⟨gb138, 0, none⟩ = some (.int .i64 (wrap64 (t136 / 16777216))) := (blk_cell BK138.out 0).trans rfl; have hcz49_1 : w46.cell? ⟨gb138, 1, none⟩ = some (.int .i64 (wrap64 (Go.bits .and .u32 t136 16777215))) := (blk_cell BK138.out 1).trans rfl; have hcz49_2 : w46.cell? ⟨gb138, 2, none⟩ = some (.slice none 0 0) := (blk_cell BK138.out 2).trans rfl; have hfz49_0 := blk_frozen BK138.out 0; have hfz49_1 := blk_frozen BK138.out 1; have hfz49_2 := blk_frozen BK138.out 2))
                      go_loopg [84] kj8 (fun kq v84 w' => ∃ (x84_3 : Int) (x139002_3 : List Int) (u139002 : Value), v84 = .int .i64 x84_3 ∧ Aside0 (code_Decode.l0 kq l0 a1 t140 (y141.length : Int) x84_3 (wrap64 (t136 / 16777216)) (wrap64 (Go.bits .and .u32 t136 16777215)) x139002_3 = some (r1, r2, r3, r4, r5)) ∧ Aside0 (kq ≤ kj8) ∧ Aside0 (Kd.R (Kd.int .u32) 44 w' w.heap.size (fun _ => True) u139002 x139002_3) ∧ Aside0 (w'.heap[gb135]? = some (.cells #[.int .i64 x136000_8, .int .i64 x136001_8, (.slice none 0 0)] 24 (0, 0))) ∧ Aside0 (w'.heap[gb138]? = some (.cells #[.int .i64 (wrap64 (t136 / 16777216)), .int .i64 (wrap64 (Go.bits .and .u32 t136 16777215)), u139002] 24 (0, 0))) ∧ Aside0 (Below w.heap.size w w'))
                      case atStart => exact ⟨(0), (y141), (.slice Ao48 y141.length co48), (by first | rfl | (simp; done) | (simp [*]; done)), H', ⟨Nat.le_refl _⟩, ⟨by (with_reducible repeat (first | apply Kd.R_alloc | apply Kd.R_drewN | apply Kd.R_drew)); exact Kd.R_mono (Kd.R_far (p := ⟨gb138, 2, none⟩) (Kd.R_types HO143.out BK138.out (by decide)) (fun _ hk => hk.2) (.slice Ao48 y141.length co48)) (fun _ hk => trivial)⟩, ⟨by (with_reducible repeat (first | refine blk_drewN ?_ _ | refine blk_drew ?_ | refine blk_alloc ?_ _)); refine blk_far ?_ NB135_138.out _; (with_reducible repeat (first | refine blk_drewN ?_ _ | refine blk_drew ?_ | refine blk_alloc ?_ _)); exact BK135.out⟩, ⟨by (with_reducible repeat (first | refine blk_drewN ?_ _ | refine blk_drew ?_ | refine blk_alloc ?_ _)); refine blk_put (cs := #[.int .i64 (wrap64 (t136 / 16777216)), .int .i64 (wrap64 (Go.bits .and .u32 t136 16777215)), .slice none 0 0]) ?_ 2 _ rfl; (with_reducible repeat (first | refine blk_drewN ?_ _ | refine blk_drew ?_ | refine blk_alloc ?_ _)); exact BK138.out⟩, ⟨by repeat (first | (with_reducible first | exact HB.out | apply below_alloc | apply pw_below_drewN | apply below_drew1 | refine below_set ?_ GE135.out | refine below_set ?_ GE138.out) | exact HB.out)⟩⟩
                      case round =>
                        clear H'
                        try clear c1
                        try clear c2
                        try clear p2
                        try clear c3
                        try clear c4
                        try clear c5
                        try clear c5b0
                        try clear c6
                        try clear p6
                        try clear c11
                        try clear c14
                        try clear c14b0
                        try clear c14b1
                        try clear c15
                        try clear c15b0
                        try clear c15b1
                        try clear c16
                        try clear c16b0
                        try clear c16b1
                        try clear c17
                        try clear c17b0
                        try clear c18
                        try clear c21
                        try clear c22
                        try clear c23
                        try clear c23b0
                        try clear c23b1
                        try clear c24
                        try clear c26
                        try clear c26b0
                        try clear c27
                        try clear c30
                        try clear c33
                        try clear c34
                        try clear c34b0
                        try clear c34b1
                        try clear c36
                        try clear c36b0
                        try clear c37
                        try clear c41
                        try clear c41b0
                        try clear c41b1
                        try clear c42
                        try clear c42b0
                        try clear c42b1
                        try clear c43
                        try clear hcz12_0
                        try clear hcz12_1
                        try clear hcz12_2
                        try clear hcz19_0
                        try clear hcz19_1
                        try clear hcz19_2
                        try clear hcz20_0
                        try clear hcz20_1
                        try clear hcz20_2
                        try clear hcz22_0
                        try clear hcz22_1
                        try clear hcz22_2
                        try clear hcz25_0
                        try clear hcz25_1
                        try clear hcz25_2
                        try clear hcz28_0
                        try clear hcz28_1
                        try clear hcz28_2
                        try clear hcz29_0
                        try clear hcz29_1
                        try clear hcz29_2
                        try clear hcz31_0
                        try clear hcz31_1
                        try clear hcz31_2
                        try clear hcz38_0
                        try clear hcz38_1
                        try clear hcz38_2
                        try clear hcz39_0
                        try clear hcz39_1
                        try clear hcz39_2
                        try clear hcz40_0
                        try clear hcz40_1
                        try clear hcz40_2
                        try clear hcz44_0
                        try clear hcz44_1
                        try clear hcz44_2
                        try clear hcz45_0
                        try clear hcz45_1
                        try clear hcz45_2
                        try clear hcz49_0
                        try clear hcz49_1
                        try clear hcz49_2
                        try clear hcz7_0
                        try clear hcz7_1
                        try clear hcz7_2
                        try clear hfz12_0
                        try clear hfz12_1
                        try clear hfz12_2
                        try clear hfz19_0
                        try clear hfz19_1
                        try clear hfz19_2
                        try clear hfz20_0
                        try clear hfz20_1
                        try clear hfz20_2
                        try clear hfz22_0
                        try clear hfz22_1
                        try clear hfz22_2
                        try clear hfz25_0
                        try clear hfz25_1
                        try clear hfz25_2
                        try clear hfz28_0
                        try clear hfz28_1
                        try clear hfz28_2
                        try clear hfz29_0
                        try clear hfz29_1
                        try clear hfz29_2
                        try clear hfz31_0
                        try clear hfz31_1
                        try clear hfz31_2
                        try clear hfz38_0
                        try clear hfz38_1
                        try clear hfz38_2
                        try clear hfz39_0
                        try clear hfz39_1
                        try clear hfz39_2
                        try clear hfz40_0
                        try clear hfz40_1
                        try clear hfz40_2
                        try clear hfz44_0
                        try clear hfz44_1
                        try clear hfz44_2
                        try clear hfz45_0
                        try clear hfz45_1
                        try clear hfz45_2
                        try clear hfz49_0
                        try clear hfz49_1
                        try clear hfz49_2
                        try clear hfz7_0
                        try clear hfz7_1
                        try clear hfz7_2
                        try clear p2
                        try clear p6
                        obtain ⟨x84_3, x139002_3, u139002, rfl, HA, HK3, HO_139002, BK135, BK138, HB⟩ := hrel
                        cases gk with
                        | zero => exact absurd HA.out (by simp [code_Decode.l0])
                        | succ k3 =>
                          have H := HA.out
                          clear HA
                          simp only [code_Decode.l0] at H
                          by_cases c50 : x84_3 < (y141.length : Int)
                          · rw [if_pos c50] at H
                            have c50b0 : decide (x84_3 < (y141.length : Int)) = true := decide_eq_true c50
                            clear c50
                            replace H := Option.bind_eq_some_iff.mp H
                            obtain ⟨⟨t144, t145⟩, A510, H⟩ := H
                            replace H : (if 0 ≤ x84_3 then (if x84_3 < (x139002_3.length : Int) then (code_Decode.l0 k3 l0 a1 t140 (y141.length : Int) (wrap64 (x84_3 + 1)) (wrap64 (t136 / 16777216)) (wrap64 (Go.bits .and .u32 t136 16777215)) (x139002_3.set (x84_3 : Int).toNat t144)) else (none)) else (none)) = some (r1, r2, r3, r4, r5) := H
                            have A51 := Aside0.mk A510
                            clear A510
                            by_cases c52 : 0 ≤ x84_3
                            · rw [if_pos c52] at H
                              have c52b0 : decide (0 ≤ x84_3) = true := decide_eq_true c52
                              clear c52
                              by_cases c53 : x84_3 < (x139002_3.length : Int)
                              · rw [if_pos c53] at H
                                have c53b0 : decide (x84_3 < (x139002_3.length : Int)) = true := decide_eq_true c53
                                clear c53
                                obtain ⟨y146, hy146⟩ : ∃ y_ : List Int, y_ = (x139002_3.set (x84_3 : Int).toNat t144) := ⟨_, rfl⟩
                                replace H : (code_Decode.l0 k3 l0 a1 t140 (y141.length : Int) (wrap64 (x84_3 + 1)) (wrap64 (t136 / 16777216)) (wrap64 (Go.bits .and .u32 t136 16777215)) y146) = some (r1, r2, r3, r4, r5) := by first | (rw [hy146]; with_reducible exact H) | (have H2_ := (Option.bind_some _ _).symm.trans H; rw [hy146]; with_reducible exact H2_) | (have H2_ := (Option.bind_some _ _).symm.trans H; with_reducible exact H2_) | with_reducible exact H | (rw [hy146]; exact H) | exact H
                                have Ny146 := Aside0.mk hy146
                                clear hy146
                                have H' := Aside0.mk H
                                clear H
                                try go_wp2
                                have n0_ := Aside0.mk (Kd.R_drew HO_139002.out)
                                have n1_ := Aside0.mk (blk_drew BK135.out)
                                have n2_ := Aside0.mk (blk_drew BK138.out)
                                have n3_ := Aside0.mk (below_drew1 HB.out)
                                clear HO_139002
                                clear BK135
                                clear BK138
                                clear HB
                                have HO_139002 := n0_
                                have BK135 := n1_
                                have BK138 := n2_
                                have HB := n3_
                                clear n0_ n1_ n2_ n3_
                                refine start_ (n := 15) (S := fun w' => w'.cell? ⟨gb138, 0, none⟩ = some (.int .i64 (wrap64 (t136 / 16777216))) ∧ w'.cell? ⟨gb138, 1, none⟩ = some (.int .i64 (wrap64 (Go.bits .and .u32 t136 16777215))) ∧ w'.cell? ⟨gb138, 2, none⟩ = some (u139002)) (ds := [14]) #[false, false, false, false, false, false, false, false, false, false, false, false, false, false, false] (by kernel_rfl) rfl rfl ⟨(blk_cell BK138.out 0).trans rfl, (blk_cell BK138.out 1).trans rfl, (blk_cell BK138.out 2).trans rfl⟩ (fun hHeld => ?_); refine with_tabW code_Decode.tab26 code_Decode.bits26 (fun HT_ HW_ => ?_)
                                generalize wr.drew = w55 at HO_139002 BK135 BK138 HB hHeld ⊢
                                refine pure_ (i := 0) (N := some 88) (v := ?_) (a' := ?_) #[true, false, false, false, false, false, false, false, false, false, false, false, false, false, false] rfl rfl (any_of HT_.out (by kernel_rfl)) (fun _ _ _ h => h) (Or.inl ⟨by rfl, ?_⟩) ?_ ?_
                                rotate_left
                                · intro w'
                                  go_simp
                                  with_reducible rfl
                                rotate_left
                                · simp only [Act.put, List.setIfInBounds_toArray, List.set_cons_zero, List.set_cons_succ, i64_w, i32_w]
                                  rfl
                                refine pure_ (i := 2) (N := some 90) (v := ?_) (a' := ?_) #[true, false, true, false, false, false, false, false, false, false, false, false, false, false, false] rfl rfl (any_of HT_.out (by kernel_rfl)) (fun _ _ _ h => h) (Or.inl ⟨by rfl, ?_⟩) ?_ ?_
                                rotate_left
                                · intro w'
                                  go_simp
                                  with_reducible rfl
                                rotate_left
                                · simp only [Act.put, List.setIfInBounds_toArray, List.set_cons_zero, List.set_cons_succ, i64_w, i32_w]
                                  rfl
                                refine pure_ (i := 3) (N := some 91) (v := ?_) (a' := ?_) #[true, false, true, true, false, false, false, false, false, false, false, false, false, false, false] rfl rfl (any_of HT_.out (by kernel_rfl)) (fun _ _ _ h => h) (Or.inl ⟨by rfl, ?_⟩) ?_ ?_
                                rotate_left
                                · intro w'
                                  go_simp
                                  with_reducible rfl
                                rotate_left
                                · simp only [Act.put, List.setIfInBounds_toArray, List.set_cons_zero, List.set_cons_succ, i64_w, i32_w]
                                  rfl
                                refine pure_ (i := 4) (N := some 92) (v := ?_) (a' := ?_) #[true, false, true, true, true, false, false, false, false, false, false, false, false, false, false] rfl rfl (any_of HT_.out (by kernel_rfl)) (fun _ _ _ h => h) (Or.inl ⟨by rfl, ?_⟩) ?_ ?_
                                rotate_left
                                · intro w'
                                  go_simp
                                  with_reducible rfl
                                rotate_left
                                · simp only [Act.put, List.setIfInBounds_toArray, List.set_cons_zero, List.set_cons_succ, i64_w, i32_w]
                                  rfl
                                refine pure_ (i := 5) (N := some 93) (v := ?_) (a' := ?_) #[true, false, true, true, true, true, false, false, false, false, false, false, false, false, false] rfl rfl (any_of HT_.out (by kernel_rfl)) (fun _ _ _ h => h) (Or.inl ⟨by rfl, ?_⟩) ?_ ?_
                                rotate_left
                                · intro w'
                                  go_simp
                                  with_reducible rfl
                                rotate_left
                                · simp only [Act.put, List.setIfInBounds_toArray, List.set_cons_zero, List.set_cons_succ, i64_w, i32_w]
                                  rfl
                                refine pure_ (i := 6) (N := some 94) (v := ?_) (a' := ?_) #[true, false, true, true, true, true, true, false, false, false, false, false, false, false, false] rfl rfl (any_of HT_.out (by kernel_rfl)) (fun _ _ _ h => h) (Or.inl ⟨by rfl, ?_⟩) ?_ ?_
                                rotate_left
                                · intro w'
                                  go_simp
                                  with_reducible rfl
                                rotate_left
                                · simp only [Act.put, List.setIfInBounds_toArray, List.set_cons_zero, List.set_cons_succ, i64_w, i32_w]
                                  rfl
                                refine pure_ (i := 7) (N := some 95) (v := ?_) (a' := ?_) #[true, false, true, true, true, true, true, true, false, false, false, false, false, false, false] rfl rfl (any_of HT_.out (by kernel_rfl)) (fun _ _ _ h => h) (Or.inl ⟨by rfl, ?_⟩) ?_ ?_
                                rotate_left
                                · intro w'
                                  go_simp
                                  with_reducible rfl
                                rotate_left
                                · simp only [Act.put, List.setIfInBounds_toArray, List.set_cons_zero, List.set_cons_succ, i64_w, i32_w]
                                  rfl
                                refine pure_ (i := 8) (N := some 96) (v := ?_) (a' := ?_) #[true, false, true, true, true, true, true, true, true, false, false, false, false, false, false] rfl rfl (any_of HT_.out (by kernel_rfl)) (fun _ _ _ h => h) (Or.inl ⟨by rfl, ?_⟩) ?_ ?_
                                rotate_left
                                · intro w'
                                  go_simp
                                  with_reducible rfl
                                rotate_left
                                · simp only [Act.put, List.setIfInBounds_toArray, List.set_cons_zero, List.set_cons_succ, i64_w, i32_w]
                                  rfl
                                refine take_ (i := 1) (N := some 89) (v := ?_) (a' := ?_) #[true, true, true, true, true, true, true, true, true, false, false, false, false, false, false] rfl rfl (take_ofW HT_.out HW_.out (by kernel_rfl)) (fun _ _ _ h => h) (Or.inl ⟨by rfl, ?_⟩) hHeld ?_ ?_
                                rotate_left
                                · rintro w' ⟨s0, s1, s2⟩
                                  go_simp
                                  with_reducible rfl
                                rotate_left
                                · simp only [Act.put, List.setIfInBounds_toArray, List.set_cons_zero, List.set_cons_succ, i64_w, i32_w]
                                  rfl
                                refine one_ (i := 9) (N := some 97) #[true, true, true, true, true, true, true, true, true, true, false, false, false, false, false] rfl rfl (one_of HT_.out (by kernel_rfl)) (by decide) (fun K hK => ?_)
                                refine goes_ Try.func26 (by kernel_rfl) rfl #[.slice A0 l0.length c0, .int .i64 (wrap64 (4 * (wrap64 ((wrap64 (a1 + 1)) + x84_3))))] (by rfl) rfl rfl (by (try simp only [List.map_toArray, List.map_cons, List.map_nil]); first | done | rfl | (simp only [List.length_drop, List.length_take]; rfl)) ?_
                                with_reducible refine (wire_Get32.calls _ _ l0 (wrap64 (4 * (wrap64 ((wrap64 (a1 + 1)) + x84_3)))) t144 t145 _ ?side1 ?side2 A51.out).mono ?_
                                (case side1 => repeat (first | exact (Kd.C_below HR0.out HB.out) | (with_reducible refine Kd.C_alloc ?_ _) | (with_reducible refine Kd.C_drewN ?_ _) | (with_reducible refine Kd.C_drew ?_)))
                                (case side2 => exact HC0.out)
                                rintro e w' ⟨rfl, ⟨nd, rfl⟩⟩
                                refine ⟨_, rfl, ?_⟩
                                have p54 : 0 ≤ (x84_3 : Int) := of_decide_eq_true (by first | (with_reducible assumption) | assumption)
                                have q54 : (x84_3 : Int) < ((x139002_3.length : Int) : Int) := of_decide_eq_true (by first | (with_reducible assumption) | assumption)
                                obtain ⟨go54, co54, eo54, gb54, gl54, cl54, HG54⟩ := Kd.R_form HO_139002.out (by omega)
                                (first | cases eo54 | (injection eo54 with ea_ en_ ec_; (first | subst ea_ | (injection ea_ with ea_; subst ea_)); subst ec_; clear en_))
                                have GB54 := Aside0.mk gb54
                                have GG54 := Aside0.mk HG54
                                clear gb54 gl54 HG54
                                obtain ⟨hx54_0, hf54_0⟩ := Kd.R_celln 0 HO_139002.out (x84_3 : Int) p54 q54
                                replace p54 := eq_true p54
                                replace q54 := eq_true q54
                                have HP56 := Kd.R_putn HO_139002.out (x84_3 : Int) t144
                                rw [← Ny146.out] at HP56
                                have HQ56 := Aside0.mk HP56
                                clear HP56
                                refine hK.out _ _ ⟨(blk_cell BK138.out 0).trans rfl, (blk_cell BK138.out 1).trans rfl, (blk_cell BK138.out 2).trans rfl⟩ (fun hHeld => ?_)
                                clear hK K
                                refine norm_ (a' := ?_) ?_ ?_
                                rotate_left
                                · show Act.put _ (some 97) _ = _
                                  simp only [Act.put, List.setIfInBounds_toArray, List.set_cons_zero, List.set_cons_succ, i64_w, i32_w]
                                  rfl
                                refine pure_ (i := 10) (N := some 87) (v := ?_) (a' := ?_) #[true, true, true, true, true, true, true, true, true, true, true, false, false, false, false] rfl rfl (any_of HT_.out (by kernel_rfl)) (fun _ _ _ h => h) (Or.inl ⟨by rfl, ?_⟩) ?_ ?_
                                rotate_left
                                · intro w'
                                  go_simp
                                  with_reducible rfl
                                rotate_left
                                · simp only [Act.put, List.setIfInBounds_toArray, List.set_cons_zero, List.set_cons_succ, i64_w, i32_w]
                                  rfl
                                refine pure_ (i := 11) (N := some 98) (v := ?_) (a' := ?_) #[true, true, true, true, true, true, true, true, true, true, true, true, false, false, false] rfl rfl (any_of HT_.out (by kernel_rfl)) (fun _ _ _ h => h) (Or.inl ⟨by rfl, ?_⟩) ?_ ?_
                                rotate_left
                                · intro w'
                                  go_simp
                                  with_reducible rfl
                                rotate_left
                                · simp only [Act.put, List.setIfInBounds_toArray, List.set_cons_zero, List.set_cons_succ, i64_w, i32_w]
                                  rfl
                                refine pure_ (i := 12) (N := some 99) (v := ?_) (a' := ?_) #[true, true, true, true, true, true, true, true, true, true, true, true, true, false, false] rfl rfl (any_of HT_.out (by kernel_rfl)) (fun _ _ _ h => h) (Or.inl ⟨by rfl, ?_⟩) ?_ ?_
                                rotate_left
                                · intro w'
                                  go_simp
                                  with_reducible rfl
                                rotate_left
                                · simp only [Act.put, List.setIfInBounds_toArray, List.set_cons_zero, List.set_cons_succ, i64_w, i32_w]
                                  rfl
                                refine pure_ (i := 13) (N := some 100) (v := ?_) (a' := ?_) #[true, true, true, true, true, true, true, true, true, true, true, true, true, true, false] rfl rfl (any_of HT_.out (by kernel_rfl)) (fun _ _ _ h => h) (Or.inl ⟨by rfl, ?_⟩) ?_ ?_
                                rotate_left
                                · intro w'
                                  go_simp
                                  with_reducible rfl
                                rotate_left
                                · simp only [Act.put, List.setIfInBounds_toArray, List.set_cons_zero, List.set_cons_succ, i64_w, i32_w]
                                  rfl
                                refine last_ (i := 14) (N := none) #[true, true, true, true, true, true, true, true, true, true, true, true, true, true, true] rfl rfl (one_of HT_.out (by kernel_rfl)) (by decide) (fun K hK => ?_)
                                refine skip_ (w1 := ?_) (by rfl) rfl ?_ ?_
                                rotate_left
                                · go_simp
                                  rfl
                                refine hK.out _ _ ?_
                                clear hK K
                                refine done_ (done_of HT_.out (by kernel_rfl)) ?_
                                try go_wp2
                                go_roundg k3
                                case measure => have := HJ2.out; have := HJ8.out; have := HK3.out; omega
                                case rel => exact ⟨(wrap64 (x84_3 + 1)), (y146), (.slice (some ⟨go54, 0, none⟩) x139002_3.length co54), (by first | rfl | (simp; done) | (simp [*]; done)), H', ⟨by have := HJ2.out; have := HJ8.out; have := HK3.out; omega⟩, ⟨by (with_reducible repeat (first | apply Kd.R_alloc | apply Kd.R_drewN | apply Kd.R_drew)); exact HQ56.out⟩, ⟨by (with_reducible repeat (first | refine blk_drewN ?_ _ | refine blk_drew ?_ | refine blk_alloc ?_ _)); refine blk_far ?_ (by have h_ := Kd.R_ne HO_139002.out BK135.out (by decide); intro e_; exact h_ (by rw [e_]; rfl)) _; (with_reducible repeat (first | refine blk_drewN ?_ _ | refine blk_drew ?_ | refine blk_alloc ?_ _)); exact BK135.out⟩, ⟨by (with_reducible repeat (first | refine blk_drewN ?_ _ | refine blk_drew ?_ | refine blk_alloc ?_ _)); refine blk_far ?_ (by have h_ := Kd.R_ne HO_139002.out BK138.out (by decide); intro e_; exact h_ (by rw [e_]; rfl)) _; (with_reducible repeat (first | refine blk_drewN ?_ _ | refine blk_drew ?_ | refine blk_alloc ?_ _)); exact BK138.out⟩, ⟨by repeat (first | (with_reducible first | exact HB.out | apply below_alloc | apply pw_below_drewN | apply below_drew1 | refine below_set ?_ GB54.out | refine below_set ?_ GE135.out | refine below_set ?_ GE138.out) | exact HB.out)⟩⟩
                              · rw [if_neg c53] at H
                                exact absurd H (by simp)
                            · rw [if_neg c52] at H
                              exact absurd H (by simp)
                          · rw [if_neg c50] at H
                            have c50b0 : decide (x84_3 < (y141.length : Int)) = false := decide_eq_false c50
                            clear c50
                            replace H := Option.bind_eq_some_iff.mp H
                            obtain ⟨t147, A570, H⟩ := H
                            replace H : (if t147 = true then (some ((wrap64 (t136 / 16777216)), (wrap64 (Go.bits .and .u32 t136 16777215)), x139002_3, wrap64 (1 + t140), 0)) else (some (0, 0, ([] : List Int), 0, 25))) = some (r1, r2, r3, r4, r5) := H
                            have A57 := Aside0.mk A570
                            clear A570
                            by_cases c58 : t147 = true
                            · subst c58
                              have H1 : (some ((wrap64 (t136 / 16777216)), (wrap64 (Go.bits .and .u32 t136 16777215)), x139002_3, wrap64 (1 + t140), 0)) = some (r1, r2, r3, r4, r5) := by rw [if_pos rfl] at H; exact H
                              clear H
                              have H := H1
                              clear H1
                              simp only [Option.some.injEq, Prod.mk.injEq] at H
                              obtain ⟨rfl, rfl, rfl, rfl, rfl⟩ := H
                              have hnb59 := NB138_135.out
                              have hnc59 := NB135_138.out
                              have hcz60_0 : wr.cell? ⟨gb138, 0, none⟩ = some (.int .i64 (wrap64 (t136 / 16777216))) := (blk_cell BK138.out 0).trans rfl
                              have hcz60_1 : wr.cell? ⟨gb138, 1, none⟩ = some (.int .i64 (wrap64 (Go.bits .and .u32 t136 16777215))) := (blk_cell BK138.out 1).trans rfl
                              have hcz60_2 : wr.cell? ⟨gb138, 2, none⟩ = some (u139002) := (blk_cell BK138.out 2).trans rfl
                              have hfz60_0 := blk_frozen BK138.out 0
                              have hfz60_1 := blk_frozen BK138.out 1
                              have hfz60_2 := blk_frozen BK138.out 2
                              obtain ⟨Ao61, co61, eo61⟩ := Kd.R_slice HO_139002.out
                              subst eo61
                              go_wp2_with (first | ((with_reducible refine gate_callee (f := 23) rfl ?_); refine goesL_ (some 106) rfl rfl Try.func23 (by kernel_rfl) rfl #[.slice Ao61 x139002_3.length co61, .int .i64 (wrap64 (Go.bits .and .u32 t136 16777215))] rfl (by (try simp only [List.map_toArray, List.map_cons, List.map_nil]); first | done | rfl | (simp only [List.length_drop, List.length_take]; rfl)) ?_; (with_reducible refine (code_isMap.calls _ _ x139002_3 (wrap64 (Go.bits .and .u32 t136 16777215)) true _ ?side1 ?side2 A57.out).mono ?_); (case side1 => repeat (first | exact (Kd.R_reads' HO_139002.out).2.2 | (with_reducible refine Kd.C_alloc ?_ _) | (with_reducible refine Kd.C_drewN ?_ _) | (with_reducible refine Kd.C_drew ?_))); (case side2 => exact (Kd.R_reads' HO_139002.out).2.1); rintro e w' ⟨rfl, ⟨nd, rfl⟩⟩; refine ⟨_, rfl, ?_⟩; (try (rw [drewN_self wr]; generalize hq_ : World.drewN wr _ = wr; have n0_ : Aside0 (Kd.R (Kd.int .u32) 44 wr w.heap.size (fun _ => True) (.slice Ao61 x139002_3.length co61) x139002_3) := ⟨by rw [← hq_]; exact (by (with_reducible repeat (first | apply Kd.R_alloc | apply Kd.R_drewN | apply Kd.R_drew)); exact HO_139002.out)⟩; have n1_ : Aside0 (wr.heap[gb135]? = some (.cells #[.int .i64 x136000_8, .int .i64 x136001_8, .slice none 0 0] 24 (0, 0))) := ⟨by rw [← hq_]; exact (by (with_reducible repeat (first | refine blk_drewN ?_ _ | refine blk_drew ?_ | refine blk_alloc ?_ _)); exact BK135.out)⟩; have n2_ : Aside0 (wr.heap[gb138]? = some (.cells #[.int .i64 (wrap64 (t136 / 16777216)), .int .i64 (wrap64 (Go.bits .and .u32 t136 16777215)), .slice Ao61 x139002_3.length co61] 24 (0, 0))) := ⟨by rw [← hq_]; exact (by (with_reducible repeat (first | refine blk_drewN ?_ _ | refine blk_drew ?_ | refine blk_alloc ?_ _)); exact BK138.out)⟩; have n3_ : Aside0 (Below w.heap.size w wr) := ⟨by rw [← hq_]; exact (by repeat (first | (with_reducible first | exact HB.out | apply below_alloc | apply pw_below_drewN | apply below_drew1 | refine below_set ?_ GE135.out | refine below_set ?_ GE138.out) | exact HB.out))⟩; clear HO_139002 BK135 BK138 HB hq_; have HO_139002 := n0_; have BK135 := n1_; have BK138 := n2_; have HB := n3_; clear n0_ n1_ n2_ n3_)); have hcz62_0 : wr.cell? ⟨gb138, 0, none⟩ = some (.int .i64 (wrap64 (t136 / 16777216))) := (blk_cell BK138.out 0).trans rfl; have hcz62_1 : wr.cell? ⟨gb138, 1, none⟩ = some (.int .i64 (wrap64 (Go.bits .and .u32 t136 16777215))) := (blk_cell BK138.out 1).trans rfl; have hcz62_2 : wr.cell? ⟨gb138, 2, none⟩ = some (.slice Ao61 x139002_3.length co61) := (blk_cell BK138.out 2).trans rfl; have hfz62_0 := blk_frozen BK138.out 0; have hfz62_1 := blk_frozen BK138.out 1; have hfz62_2 := blk_frozen BK138.out 2; have hcz63_0 : wr.cell? ⟨gb135, 0, none⟩ = some (.int .i64 x136000_8) := (blk_cell BK135.out 0).trans rfl; have hcz63_1 : wr.cell? ⟨gb135, 1, none⟩ = some (.int .i64 x136001_8) := (blk_cell BK135.out 1).trans rfl; have hcz63_2 : wr.cell? ⟨gb135, 2, none⟩ = some (.slice none 0 0) := (blk_cell BK135.out 2).trans rfl; have hfz63_0 := blk_frozen BK135.out 0; have hfz63_1 := blk_frozen BK135.out 1; have hfz63_2 := blk_frozen BK135.out 2))
                              refine bodyPost_ret (results_ctt rfl _ _ gb135 24 #[.int .i64 (wrap64 (t136 / 16777216)), .int .i64 (wrap64 (Go.bits .and .u32 t136 16777215)), .slice Ao61 x139002_3.length co61] (0, 0) _ rfl (by (with_reducible repeat (first | refine blk_drewN ?_ _ | refine blk_drew ?_ | refine blk_alloc ?_ _)); refine blk_put (cs := #[.int .i64 (wrap64 (t136 / 16777216)), .int .i64 (wrap64 (Go.bits .and .u32 t136 16777215)), .slice none 0 0]) ?_ 2 _ rfl; (with_reducible repeat (first | refine blk_drewN ?_ _ | refine blk_drew ?_ | refine blk_alloc ?_ _)); refine blk_put (cs := #[.int .i64 (wrap64 (t136 / 16777216)), .int .i64 x136001_8, .slice none 0 0]) ?_ 1 _ rfl; (with_reducible repeat (first | refine blk_drewN ?_ _ | refine blk_drew ?_ | refine blk_alloc ?_ _)); refine blk_put (cs := #[.int .i64 x136000_8, .int .i64 x136001_8, .slice none 0 0]) ?_ 0 _ rfl; (with_reducible repeat (first | refine blk_drewN ?_ _ | refine blk_drew ?_ | refine blk_alloc ?_ _)); exact BK135.out) Try.underlying24 rfl (by kernel_rfl)) rfl ?_
                              exact ⟨_, by first | rfl | (simp [errW_none, errW_some] <;> rfl) | (simp [*, errW_none, errW_some] <;> rfl), by (with_reducible repeat (first | apply Kd.R_alloc | apply Kd.R_drewN | apply Kd.R_drew)); exact Kd.R_mono (Kd.R_far (p := ⟨gb135, 2, none⟩) (Kd.R_far (p := ⟨gb135, 1, none⟩) (Kd.R_far (p := ⟨gb135, 0, none⟩) (Kd.R_types HO_139002.out BK135.out (by decide)) (fun _ hk => hk.2) (.int .i64 (wrap64 (t136 / 16777216)))) (fun _ hk => hk.2) (.int .i64 (wrap64 (Go.bits .and .u32 t136 16777215)))) (fun _ hk => hk.2) (.slice Ao61 x139002_3.length co61)) (fun _ hk => trivial), by repeat (first | (with_reducible first | exact HB.out | apply below_alloc | apply pw_below_drewN | apply below_drew1 | refine below_set ?_ GE135.out | refine below_set ?_ GE138.out) | exact HB.out)⟩
                            · replace c58 := Bool.eq_false_iff.mpr c58
                              subst c58
                              have H1 : (some (0, 0, ([] : List Int), 0, 25)) = some (r1, r2, r3, r4, r5) := by rw [if_neg (show ¬ (false = true) by decide)] at H; exact H
                              clear H
                              have H := H1
                              clear H1
                              simp only [Option.some.injEq, Prod.mk.injEq] at H
                              obtain ⟨rfl, rfl, rfl, rfl, rfl⟩ := H
                              have hnb64 := NB138_135.out
                              have hnc64 := NB135_138.out
                              have hcz65_0 : wr.cell? ⟨gb138, 0, none⟩ = some (.int .i64 (wrap64 (t136 / 16777216))) := (blk_cell BK138.out 0).trans rfl
                              have hcz65_1 : wr.cell? ⟨gb138, 1, none⟩ = some (.int .i64 (wrap64 (Go.bits .and .u32 t136 16777215))) := (blk_cell BK138.out 1).trans rfl
                              have hcz65_2 : wr.cell? ⟨gb138, 2, none⟩ = some (u139002) := (blk_cell BK138.out 2).trans rfl
                              have hfz65_0 := blk_frozen BK138.out 0
                              have hfz65_1 := blk_frozen BK138.out 1
                              have hfz65_2 := blk_frozen BK138.out 2
                              obtain ⟨Ao66, co66, eo66⟩ := Kd.R_slice HO_139002.out
                              subst eo66
                              go_wp2_with (first | ((with_reducible refine gate_callee (f := 23) rfl ?_); refine goesL_ (some 106) rfl rfl Try.func23 (by kernel_rfl) rfl #[.slice Ao66 x139002_3.length co66, .int .i64 (wrap64 (Go.bits .and .u32 t136 16777215))] rfl (by (try simp only [List.map_toArray, List.map_cons, List.map_nil]); first | done | rfl | (simp only [List.length_drop, List.length_take]; rfl)) ?_; (with_reducible refine (code_isMap.calls _ _ x139002_3 (wrap64 (Go.bits .and .u32 t136 16777215)) false _ ?side1 ?side2 A57.out).mono ?_); (case side1 => repeat (first | exact (Kd.R_reads' HO_139002.out).2.2 | (with_reducible refine Kd.C_alloc ?_ _) | (with_reducible refine Kd.C_drewN ?_ _) | (with_reducible refine Kd.C_drew ?_))); (case side2 => exact (Kd.R_reads' HO_139002.out).2.1); rintro e w' ⟨rfl, ⟨nd, rfl⟩⟩; refine ⟨_, rfl, ?_⟩; (try (rw [drewN_self wr]; generalize hq_ : World.drewN wr _ = wr; have n0_ : Aside0 (Kd.R (Kd.int .u32) 44 wr w.heap.size (fun _ => True) (.slice Ao66 x139002_3.length co66) x139002_3) := ⟨by rw [← hq_]; exact (by (with_reducible repeat (first | apply Kd.R_alloc | apply Kd.R_drewN | apply Kd.R_drew)); exact HO_139002.out)⟩; have n1_ : Aside0 (wr.heap[gb135]? = some (.cells #[.int .i64 x136000_8, .int .i64 x136001_8, .slice none 0 0] 24 (0, 0))) := ⟨by rw [← hq_]; exact (by (with_reducible repeat (first | refine blk_drewN ?_ _ | refine blk_drew ?_ | refine blk_alloc ?_ _)); exact BK135.out)⟩; have n2_ : Aside0 (wr.heap[gb138]? = some (.cells #[.int .i64 (wrap64 (t136 / 16777216)), .int .i64 (wrap64 (Go.bits .and .u32 t136 16777215)), .slice Ao66 x139002_3.length co66] 24 (0, 0))) := ⟨by rw [← hq_]; exact (by (with_reducible repeat (first | refine blk_drewN ?_ _ | refine blk_drew ?_ | refine blk_alloc ?_ _)); exact BK138.out)⟩; have n3_ : Aside0 (Below w.heap.size w wr) := ⟨by rw [← hq_]; exact (by repeat (first | (with_reducible first | exact HB.out | apply below_alloc | apply pw_below_drewN | apply below_drew1 | refine below_set ?_ GE135.out | refine below_set ?_ GE138.out) | exact HB.out))⟩; clear HO_139002 BK135 BK138 HB hq_; have HO_139002 := n0_; have BK135 := n1_; have BK138 := n2_; have HB := n3_; clear n0_ n1_ n2_ n3_)); have hcz67_0 : wr.cell? ⟨gb135, 0, none⟩ = some (.int .i64 x136000_8) := (blk_cell BK135.out 0).trans rfl; have hcz67_1 : wr.cell? ⟨gb135, 1, none⟩ = some (.int .i64 x136001_8) := (blk_cell BK135.out 1).trans rfl; have hcz67_2 : wr.cell? ⟨gb135, 2, none⟩ = some (.slice none 0 0) := (blk_cell BK135.out 2).trans rfl; have hfz67_0 := blk_frozen BK135.out 0; have hfz67_1 := blk_frozen BK135.out 1; have hfz67_2 := blk_frozen BK135.out 2))
                              refine bodyPost_ret (results_ctt rfl _ _ gb135 24 #[.int .i64 0, .int .i64 0, .slice none 0 0] (0, 0) _ rfl (by (with_reducible repeat (first | refine blk_drewN ?_ _ | refine blk_drew ?_ | refine blk_alloc ?_ _)); refine blk_put (cs := #[.int .i64 0, .int .i64 0, .slice none 0 0]) ?_ 2 _ rfl; (with_reducible repeat (first | refine blk_drewN ?_ _ | refine blk_drew ?_ | refine blk_alloc ?_ _)); refine blk_put (cs := #[.int .i64 0, .int .i64 x136001_8, .slice none 0 0]) ?_ 1 _ rfl; (with_reducible repeat (first | refine blk_drewN ?_ _ | refine blk_drew ?_ | refine blk_alloc ?_ _)); refine blk_put (cs := #[.int .i64 x136000_8, .int .i64 x136001_8, .slice none 0 0]) ?_ 0 _ rfl; (with_reducible repeat (first | refine blk_drewN ?_ _ | refine blk_drew ?_ | refine blk_alloc ?_ _)); exact BK135.out) Try.underlying24 rfl (by kernel_rfl)) rfl ?_
                              exact ⟨_, by first | rfl | (simp [errW_none, errW_some] <;> rfl) | (simp [*, errW_none, errW_some] <;> rfl), by first | exact Kd.R_nil _ _ _ _ _ | exact Kd.N_nil _ _ _ _ _ | exact Kd.V_nil _ _ _ _ _ | exact Kd.Q_nil _ _ _ _ _ | exact Kd.S_nil _ _ _ _ _, by repeat (first | (with_reducible first | exact HB.out | apply below_alloc | apply pw_below_drewN | apply below_drew1 | refine below_set ?_ GE135.out | refine below_set ?_ GE138.out) | exact HB.out)⟩
                    · rw [if_neg c42] at H
                      exact absurd H (by simp)
                  · rw [if_neg c41] at H
                    exact absurd H (by simp)
              · rw [if_neg c34] at H
                have c34b0 : ((wrap64 (t136 / 16777216)) == 2) = false := beq_eq_false_iff_ne.mpr c34
                have c34b1 : ((wrap64 (t136 / 16777216)) != 2) = true := bne_iff_ne.mpr c34
                simp only [Option.some.injEq, Prod.mk.injEq] at H
                obtain ⟨rfl, rfl, rfl, rfl, rfl⟩ := H
                have hnb68 := NB138_135.out
                have hnc68 := NB135_138.out
                have hcz69_0 : wc.cell? ⟨gb138, 0, none⟩ = some (.int .i64 (wrap64 (t136 / 16777216))) := (blk_cell BK138.out 0).trans rfl
                have hcz69_1 : wc.cell? ⟨gb138, 1, none⟩ = some (.int .i64 (wrap64 (Go.bits .and .u32 t136 16777215))) := (blk_cell BK138.out 1).trans rfl
                have hcz69_2 : wc.cell? ⟨gb138, 2, none⟩ = some (.slice none 0 0) := (blk_cell BK138.out 2).trans rfl
                have hfz69_0 := blk_frozen BK138.out 0
                have hfz69_1 := blk_frozen BK138.out 1
                have hfz69_2 := blk_frozen BK138.out 2
                go_wp2_with (first | ((with_reducible refine gate_callee (f := 22) rfl ?_); refine goesL_ (some 59) rfl rfl Try.func22 (by kernel_rfl) rfl #[.int .i64 (wrap64 (t136 / 16777216)), .int .i64 (wrap64 (Go.bits .and .u32 t136 16777215))] rfl (by (try simp only [List.map_toArray, List.map_cons, List.map_nil]); first | done | rfl | (simp only [List.length_drop, List.length_take]; rfl)) ?_; (with_reducible refine (code_number.calls (wrap64 (t136 / 16777216)) (wrap64 (Go.bits .and .u32 t136 16777215)) true _ A32.out).mono ?_); rintro e w' ⟨rfl, ⟨nd, rfl⟩⟩; refine ⟨_, rfl, ?_⟩; (try (rw [drewN_self wc]; generalize hq_ : World.drewN wc _ = wc; have n0_ : Aside0 (wc.heap[gb135]? = some (.cells #[.int .i64 x136000_8, .int .i64 x136001_8, .slice none 0 0] 24 (0, 0))) := ⟨by rw [← hq_]; exact (by (with_reducible repeat (first | refine blk_drewN ?_ _ | refine blk_drew ?_ | refine blk_alloc ?_ _)); exact BK135.out)⟩; have n1_ : Aside0 (wc.heap[gb138]? = some (.cells #[.int .i64 (wrap64 (t136 / 16777216)), .int .i64 (wrap64 (Go.bits .and .u32 t136 16777215)), .slice none 0 0] 24 (0, 0))) := ⟨by rw [← hq_]; exact (by (with_reducible repeat (first | refine blk_drewN ?_ _ | refine blk_drew ?_ | refine blk_alloc ?_ _)); exact BK138.out)⟩; have n2_ : Aside0 (Below w.heap.size w wc) := ⟨by rw [← hq_]; exact (by repeat (first | (with_reducible first | exact HB.out | apply below_alloc | apply pw_below_drewN | apply below_drew1 | refine below_set ?_ GE135.out | refine below_set ?_ GE138.out) | exact HB.out))⟩; clear BK135 BK138 HB hq_; have BK135 := n0_; have BK138 := n1_; have HB := n2_; clear n0_ n1_ n2_)); have hcz70_0 : wc.cell? ⟨gb138, 0, none⟩ = some (.int .i64 (wrap64 (t136 / 16777216))) := (blk_cell BK138.out 0).trans rfl; have hcz70_1 : wc.cell? ⟨gb138, 1, none⟩ = some (.int .i64 (wrap64 (Go.bits .and .u32 t136 16777215))) := (blk_cell BK138.out 1).trans rfl; have hcz70_2 : wc.cell? ⟨gb138, 2, none⟩ = some (.slice none 0 0) := (blk_cell BK138.out 2).trans rfl; have hfz70_0 := blk_frozen BK138.out 0; have hfz70_1 := blk_frozen BK138.out 1; have hfz70_2 := blk_frozen BK138.out 2; have hcz71_0 : wc.cell? ⟨gb135, 0, none⟩ = some (.int .i64 x136000_8) := (blk_cell BK135.out 0).trans rfl; have hcz71_1 : wc.cell? ⟨gb135, 1, none⟩ = some (.int .i64 x136001_8) := (blk_cell BK135.out 1).trans rfl; have hcz71_2 : wc.cell? ⟨gb135, 2, none⟩ = some (.slice none 0 0) := (blk_cell BK135.out 2).trans rfl; have hfz71_0 := blk_frozen BK135.out 0; have hfz71_1 := blk_frozen BK135.out 1; have hfz71_2 := blk_frozen BK135.out 2))
                refine bodyPost_ret (results_ctt rfl _ _ gb135 24 #[.int .i64 (wrap64 (t136 / 16777216)), .int .i64 (wrap64 (Go.bits .and .u32 t136 16777215)), .slice none 0 0] (0, 0) _ rfl (by (with_reducible repeat (first | refine blk_drewN ?_ _ | refine blk_drew ?_ | refine blk_alloc ?_ _)); refine blk_put (cs := #[.int .i64 (wrap64 (t136 / 16777216)), .int .i64 (wrap64 (Go.bits .and .u32 t136 16777215)), .slice none 0 0]) ?_ 2 _ rfl; (with_reducible repeat (first | refine blk_drewN ?_ _ | refine blk_drew ?_ | refine blk_alloc ?_ _)); refine blk_put (cs := #[.int .i64 (wrap64 (t136 / 16777216)), .int .i64 x136001_8, .slice none 0 0]) ?_ 1 _ rfl; (with_reducible repeat (first | refine blk_drewN ?_ _ | refine blk_drew ?_ | refine blk_alloc ?_ _)); refine blk_put (cs := #[.int .i64 x136000_8, .int .i64 x136001_8, .slice none 0 0]) ?_ 0 _ rfl; (with_reducible repeat (first | refine blk_drewN ?_ _ | refine blk_drew ?_ | refine blk_alloc ?_ _)); exact BK135.out) Try.underlying24 rfl (by kernel_rfl)) rfl ?_
                exact ⟨_, by first | rfl | (simp [errW_none, errW_some] <;> rfl) | (simp [*, errW_none, errW_some] <;> rfl), by first | exact Kd.R_nil _ _ _ _ _ | exact Kd.N_nil _ _ _ _ _ | exact Kd.V_nil _ _ _ _ _ | exact Kd.Q_nil _ _ _ _ _ | exact Kd.S_nil _ _ _ _ _, by repeat (first | (with_reducible first | exact HB.out | apply below_alloc | apply pw_below_drewN | apply below_drew1 | refine below_set ?_ GE135.out | refine below_set ?_ GE138.out) | exact HB.out)⟩
            · replace c33 := Bool.eq_false_iff.mpr c33
              subst c33
              have H1 : (some (0, 0, ([] : List Int), 0, 1)) = some (r1, r2, r3, r4, r5) := by rw [if_neg (show ¬ (false = true) by decide)] at H; exact H
              clear H
              have H := H1
              clear H1
              simp only [Option.some.injEq, Prod.mk.injEq] at H
              obtain ⟨rfl, rfl, rfl, rfl, rfl⟩ := H
              have hnb72 := NB138_135.out
              have hnc72 := NB135_138.out
              have hcz73_0 : wc.cell? ⟨gb138, 0, none⟩ = some (.int .i64 (wrap64 (t136 / 16777216))) := (blk_cell BK138.out 0).trans rfl
              have hcz73_1 : wc.cell? ⟨gb138, 1, none⟩ = some (.int .i64 (wrap64 (Go.bits .and .u32 t136 16777215))) := (blk_cell BK138.out 1).trans rfl
              have hcz73_2 : wc.cell? ⟨gb138, 2, none⟩ = some (.slice none 0 0) := (blk_cell BK138.out 2).trans rfl
              have hfz73_0 := blk_frozen BK138.out 0
              have hfz73_1 := blk_frozen BK138.out 1
              have hfz73_2 := blk_frozen BK138.out 2
              go_wp2_with (first | ((with_reducible refine gate_callee (f := 22) rfl ?_); refine goesL_ (some 59) rfl rfl Try.func22 (by kernel_rfl) rfl #[.int .i64 (wrap64 (t136 / 16777216)), .int .i64 (wrap64 (Go.bits .and .u32 t136 16777215))] rfl (by (try simp only [List.map_toArray, List.map_cons, List.map_nil]); first | done | rfl | (simp only [List.length_drop, List.length_take]; rfl)) ?_; (with_reducible refine (code_number.calls (wrap64 (t136 / 16777216)) (wrap64 (Go.bits .and .u32 t136 16777215)) false _ A32.out).mono ?_); rintro e w' ⟨rfl, ⟨nd, rfl⟩⟩; refine ⟨_, rfl, ?_⟩; (try (rw [drewN_self wc]; generalize hq_ : World.drewN wc _ = wc; have n0_ : Aside0 (wc.heap[gb135]? = some (.cells #[.int .i64 x136000_8, .int .i64 x136001_8, .slice none 0 0] 24 (0, 0))) := ⟨by rw [← hq_]; exact (by (with_reducible repeat (first | refine blk_drewN ?_ _ | refine blk_drew ?_ | refine blk_alloc ?_ _)); exact BK135.out)⟩; have n1_ : Aside0 (wc.heap[gb138]? = some (.cells #[.int .i64 (wrap64 (t136 / 16777216)), .int .i64 (wrap64 (Go.bits .and .u32 t136 16777215)), .slice none 0 0] 24 (0, 0))) := ⟨by rw [← hq_]; exact (by (with_reducible repeat (first | refine blk_drewN ?_ _ | refine blk_drew ?_ | refine blk_alloc ?_ _)); exact BK138.out)⟩; have n2_ : Aside0 (Below w.heap.size w wc) := ⟨by rw [← hq_]; exact (by repeat (first | (with_reducible first | exact HB.out | apply below_alloc | apply pw_below_drewN | apply below_drew1 | refine below_set ?_ GE135.out | refine below_set ?_ GE138.out) | exact HB.out))⟩; clear BK135 BK138 HB hq_; have BK135 := n0_; have BK138 := n1_; have HB := n2_; clear n0_ n1_ n2_)); have hcz74_0 : wc.cell? ⟨gb135, 0, none⟩ = some (.int .i64 x136000_8) := (blk_cell BK135.out 0).trans rfl; have hcz74_1 : wc.cell? ⟨gb135, 1, none⟩ = some (.int .i64 x136001_8) := (blk_cell BK135.out 1).trans rfl; have hcz74_2 : wc.cell? ⟨gb135, 2, none⟩ = some (.slice none 0 0) := (blk_cell BK135.out 2).trans rfl; have hfz74_0 := blk_frozen BK135.out 0; have hfz74_1 := blk_frozen BK135.out 1; have hfz74_2 := blk_frozen BK135.out 2))
              refine bodyPost_ret (results_ctt rfl _ _ gb135 24 #[.int .i64 0, .int .i64 0, .slice none 0 0] (0, 0) _ rfl (by (with_reducible repeat (first | refine blk_drewN ?_ _ | refine blk_drew ?_ | refine blk_alloc ?_ _)); refine blk_put (cs := #[.int .i64 0, .int .i64 0, .slice none 0 0]) ?_ 2 _ rfl; (with_reducible repeat (first | refine blk_drewN ?_ _ | refine blk_drew ?_ | refine blk_alloc ?_ _)); refine blk_put (cs := #[.int .i64 0, .int .i64 x136001_8, .slice none 0 0]) ?_ 1 _ rfl; (with_reducible repeat (first | refine blk_drewN ?_ _ | refine blk_drew ?_ | refine blk_alloc ?_ _)); refine blk_put (cs := #[.int .i64 x136000_8, .int .i64 x136001_8, .slice none 0 0]) ?_ 0 _ rfl; (with_reducible repeat (first | refine blk_drewN ?_ _ | refine blk_drew ?_ | refine blk_alloc ?_ _)); exact BK135.out) Try.underlying24 rfl (by kernel_rfl)) rfl ?_
              exact ⟨_, by first | rfl | (simp [errW_none, errW_some] <;> rfl) | (simp [*, errW_none, errW_some] <;> rfl), by first | exact Kd.R_nil _ _ _ _ _ | exact Kd.N_nil _ _ _ _ _ | exact Kd.V_nil _ _ _ _ _ | exact Kd.Q_nil _ _ _ _ _ | exact Kd.S_nil _ _ _ _ _, by repeat (first | (with_reducible first | exact HB.out | apply below_alloc | apply pw_below_drewN | apply below_drew1 | refine below_set ?_ GE135.out | refine below_set ?_ GE138.out) | exact HB.out)⟩

end Go.Proofs.Ytpghpeoclbiloaa.F
