-- Written by this session's px.sh, a turned copy of the print, out of the translation. Lean checks it.
import Derived.Test.YtkblieonpncacaaFx0
import Derived.Test.YtkblieonpncacaaFx2
namespace Go.Proofs.Ytkblieonpncacaa.F
open Go.RowKit Go.Proofs.YtkblieonpncacaaW.PrintWords Go.Proofs.YtkblieonpncacaaW.PrintLast Go.Proofs.YtkblieonpncacaaW.PrintMore
attribute [local go_sem] max2_int min2_int max_two min_two max_three min_three max_four min_four   -- for this text's walks alone
set_option linter.unusedVariables false
set_option linter.unusedSimpArgs false

/-! ### image_head_front: function 21 -/
def image_head_front.f (a0_0 : Int) (a0_1 : Int) (a0_2 : Int) (a0_3 : Int) : Option (List Int) := (wire_Put16.f [84, 80, 75, 49, a0_0 % 256, a0_1 % 256] (IntKind.u16.wrap a0_2)).bind fun x => wire_Put32.f x (IntKind.u32.wrap a0_3)
def Parked (p : Prop) : Prop := p
theorem unparked {p : Prop} (h : Parked p) : p := h
set_option maxHeartbeats 4000000 in
set_option maxRecDepth 100000 in
theorem image_head_front.calls (a0_0 : Int) (a0_1 : Int) (a0_2 : Int) (a0_3 : Int) (r : List Int) (w : World) (h : image_head_front.f a0_0 a0_1 a0_2 a0_3 = some r) :
    Calls Try.prog 21 #[.agg #[.int .i64 a0_0, .int .i64 a0_1, .int .i64 a0_2, .int .i64 a0_3]] w fun e w' => ∃ v0_ : Value, e = .returned (v0_) ∧ Kd.R (Kd.int .u8) 5 w' w.heap.size (fun _ => True) v0_ r ∧ Below w.heap.size w w' := by
  unfold image_head_front.f at h
  obtain ⟨x, hx0, hy0⟩ := Option.bind_eq_some_iff.mp h
  clear h
  have HX := Aside0.mk hx0
  have HY := Aside0.mk hy0
  clear hx0 hy0
  have kc : ∀ (o : Obj) (C : Array Value) (n c : Nat), (convert 24 24 (.slice (some ⟨w.heap.size + 1, 0, none⟩) n c)).run Try.prog ((w.alloc o).alloc (.cells C 5)) = .ok (.slice (some ⟨w.heap.size + 1, 0, none⟩) n c) ((w.alloc o).alloc (.cells C 5 (C.size, C.size + 1))) := by
    intro o C n c
    have h := Lib.run_convert_bytes_const (P := Try.prog) (w.alloc o) 24 5 C n c Try.underlying24 Try.underlying5
    rwa [show (w.alloc o).heap.size = w.heap.size + 1 from Array.size_push ..] at h
  obtain ⟨i0, hi0, hz0, hsz0, hby0⟩ := info_parts info5
  have hi0A := Aside0.mk hi0
  have hz0A := Aside0.mk hz0
  have hsz0A := Aside0.mk hsz0
  have hby0A := Aside0.mk hby0
  clear hi0 hz0 hsz0 hby0
  go_enter Try.func21, Try.ntmps21
  go_wp2_with (at_builtin; refine unparked ?_)
  unfold Parked
  refine wpList_append_grows _ rfl (.tmp 5) (.tmp 14) 24 rfl 5 i0 (.int .u8 0) 1 1 Try.underlying24 hi0A.out hz0A.out hsz0A.out hby0A.out rfl (by decide) (some ⟨w.heap.size + 1, 0, none⟩) 4 4 [.int .u8 84, .int .u8 80, .int .u8 75, .int .u8 49] ?hs ?hnone ?hlo ?holds ⟨w.heap.size + 1 + 1, 0, none⟩ 2 2 [.int .u8 (a0_0 % 256), .int .u8 (a0_1 % 256)] ?hx ?hn ?hc ?h1c ?hfull ?b1 ?b2 ?K
  case hs => rfl
  case hnone => intro hh; cases hh
  case hlo => rfl
  case holds =>
    intro b hb j u hj
    cases hb
    rw [Addr.add_mid, Nat.zero_add, cell_of_row _ _ _ _ _ _ (blk_alloc (show _ = some (Obj.cells #[Value.int IntKind.u8 84, Value.int IntKind.u8 80, Value.int IntKind.u8 75, Value.int IntKind.u8 49] 5 (4, 5)) from (show (w.heap.size + 1) = (w.alloc (Obj.cells #[Value.int IntKind.i64 a0_0, Value.int IntKind.i64 a0_1, Value.int IntKind.i64 a0_2, Value.int IntKind.i64 a0_3] 45)).heap.size from (Array.size_push ..).symm) ▸ blk_new _ _) _)]
    simpa using hj
  case hx => rfl
  case hn => rfl
  case hc =>
    intro j u hj
    rw [Addr.add_mid, Nat.zero_add, cell_of_row _ _ _ _ _ _ (show _ = some (Obj.cells #[Value.int IntKind.u8 (a0_0 % 256), Value.int IntKind.u8 (a0_1 % 256)] 5 (0, 0)) from (show w.heap.size + 1 + 1 = ((w.alloc (Obj.cells #[Value.int IntKind.i64 a0_0, Value.int IntKind.i64 a0_1, Value.int IntKind.i64 a0_2, Value.int IntKind.i64 a0_3] 45)).alloc (Obj.cells #[Value.int IntKind.u8 84, Value.int IntKind.u8 80, Value.int IntKind.u8 75, Value.int IntKind.u8 49] 5 (4, 5))).heap.size from by rw [show ∀ (W : World) (o : Obj), (W.alloc o).heap.size = W.heap.size + 1 from fun _ _ => Array.size_push .., show ∀ (W : World) (o : Obj), (W.alloc o).heap.size = W.heap.size + 1 from fun _ _ => Array.size_push ..]) ▸ blk_new _ _)]
    simpa using hj
  case h1c => simp [Value.oneCell']
  case hfull => omega
  case b1 => unfold maxLen; omega
  case b2 => omega
  case K =>
    intro v3 w3 hown hgrow
    have hsz : ∀ (W : World) (o : Obj), (W.alloc o).heap.size = W.heap.size + 1 := fun _ _ => Array.size_push ..
    have HB := Aside0.mk ((below_alloc (below_alloc (below_alloc (Below.refl _ w) _) _) _ : Below w.heap.size w _).grown hgrow (by simp only [hsz]; omega) (fun k hk => by cases hk))
    have BK := Aside0.mk (blk_grown (blk_alloc (blk_alloc (blk_new w (Obj.cells #[Value.int IntKind.i64 a0_0, Value.int IntKind.i64 a0_1, Value.int IntKind.i64 a0_2, Value.int IntKind.i64 a0_3] 45)) _) _) hgrow (by simp))
    obtain ⟨xs, hxs⟩ : ∃ xs : List Int, xs = [84, 80, 75, 49, a0_0 % 256, a0_1 % 256] := ⟨_, rfl⟩
    have HO : Aside0 (Kd.R (Kd.int .u8) 5 w3 w.heap.size (fun _ => True) v3 xs) := ⟨Kd.R_of_own (by rw [hxs]; exact own_less hown (by simp only [hsz]; omega)) (fun _ _ => trivial)⟩
    have HX := Aside0.mk (hxs ▸ HX.out)
    clear hown hgrow hxs kc hsz
    obtain ⟨A3, c3, e3, hc3, hC3⟩ := Kd.R_reads HO.out
    subst e3
    have HCC := Aside0.mk hc3
    have HC3 := Aside0.mk hC3
    clear hc3 hC3
    have k2 : w3.cell? ⟨w.heap.size, 2, none⟩ = some (.int .i64 a0_2) := blk_cell BK.out 2
    have k3 : w3.cell? ⟨w.heap.size, 3, none⟩ = some (.int .i64 a0_3) := blk_cell BK.out 3
    have hlt : w.heap.size < w3.heap.size := blk_lt BK.out
    go_wp2_with fail
    go_region_held3 (fun w' => w'.cell? ⟨w.heap.size, 2, none⟩ = some (.int .i64 a0_2) ∧ w'.cell? ⟨w.heap.size, 3, none⟩ = some (.int .i64 a0_3)) (first | go_keep | exact ⟨p2, p3⟩ | exact ⟨q2, q3⟩) (first | (go_at_call 32; (with_reducible refine (wire_Put16.calls A3 c3 xs (IntKind.u16.wrap a0_2) x _ ?hr1 ?hc1 HX.out).mono ?_); (case hr1 => exact Kd.C_below HC3.out (by first | exact Below.refl _ _ | exact below_drew (Below.refl _ _))); (case hc1 => exact HCC.out); rintro e w4 ⟨v4, rfl, ho4, hb4⟩; have HB4 := Aside0.mk (below_step (by first | exact HB.out | exact below_drew HB.out) hb4); have p2 : w4.cell? ⟨w.heap.size, 2, none⟩ = some (.int .i64 a0_2) := pw_cell_below hb4 k2; have p3 : w4.cell? ⟨w.heap.size, 3, none⟩ = some (.int .i64 a0_3) := pw_cell_below hb4 k3; obtain ⟨A4, c4, e4, hc4, hC4⟩ := Kd.R_reads ho4; subst e4; have HC4 := Aside0.mk hC4; have HCD := Aside0.mk hc4; clear ho4 hb4 hC4 hc4) | (go_at_call 22; (with_reducible refine (wire_Put32.calls A4 c4 x (IntKind.u32.wrap a0_3) r _ ?hr2 ?hc2 HY.out).mono ?_); (case hr2 => exact Kd.C_below HC4.out (by first | exact Below.refl _ _ | exact below_drew (Below.refl _ _))); (case hc2 => exact HCD.out); rintro e w5 ⟨v5, rfl, ho5, hb5⟩; have HB5 := Aside0.mk (below_step (by first | exact HB4.out | exact below_drew HB4.out) hb5); have HO5 := Aside0.mk ho5; have q2 : w5.cell? ⟨w.heap.size, 2, none⟩ = some (.int .i64 a0_2) := pw_cell_below hb5 p2; have q3 : w5.cell? ⟨w.heap.size, 3, none⟩ = some (.int .i64 a0_3) := pw_cell_below hb5 p3; clear ho5 hb5))
    all_goals go_wp2
    all_goals go_ret
    all_goals exact ⟨_, rfl, Kd.R_lower HO5.out (by have := below_size HB4.out; omega), HB5.out⟩

-- NOT PRINTED: function 34 (wire_halves)

end Go.Proofs.Ytkblieonpncacaa.F
