-- Written by this session's px.sh, a turned copy of the print, out of the translation. Lean checks it.
import Derived.Test.YtoobnnkneppgkaaFx0
import Derived.Test.YtoobnnkneppgkaaFx1
import Derived.Test.YtoobnnkneppgkaaFx2
import Derived.Test.YtoobnnkneppgkaaFx3
import Derived.Test.YtoobnnkneppgkaaFx4
import Derived.Test.YtoobnnkneppgkaaFx5
import Derived.Test.YtoobnnkneppgkaaFx6
namespace Go.Proofs.Ytoobnnkneppgkaa.F
open Go.RowKit Go.Proofs.YtoobnnkneppgkaaW.PrintWords Go.Proofs.YtoobnnkneppgkaaW.PrintLast Go.Proofs.YtoobnnkneppgkaaW.PrintMore
attribute [local go_sem] max2_int min2_int max_two min_two max_three min_three max_four min_four   -- for this text's walks alone
set_option linter.unusedVariables false
set_option linter.unusedSimpArgs false

/-! ### word_With: function 31 -/
structure Five (b0 b1 b2 b3 b4 : Nat) (p0 p1 pn pf q0 q1 v0 v1 : Value) (w : World) : Prop where
  c0 : w.cell? ⟨b0, 0, none⟩ = some p0
  c1 : w.cell? ⟨b0, 1, none⟩ = some p1
  c2 : w.cell? ⟨b1, 0, none⟩ = some pn
  c3 : w.cell? ⟨b2, 0, none⟩ = some pf
  c4 : w.cell? ⟨b3, 0, none⟩ = some q0
  c5 : w.cell? ⟨b3, 1, none⟩ = some q1
  c6 : w.cell? ⟨b4, 0, none⟩ = some v0
  c7 : w.cell? ⟨b4, 1, none⟩ = some v1
  f6 : w.frozen? ⟨b4, 0, none⟩ = false
  f7 : w.frozen? ⟨b4, 1, none⟩ = false
theorem Five.below {b0 b1 b2 b3 b4 : Nat} {p0 p1 pn pf q0 q1 v0 v1 : Value} {w w1 : World} (h : Five b0 b1 b2 b3 b4 p0 p1 pn pf q0 q1 v0 v1 w) (hb : Below w.heap.size w w1) : Five b0 b1 b2 b3 b4 p0 p1 pn pf q0 q1 v0 v1 w1 :=
  ⟨pw_cell_below hb h.c0, pw_cell_below hb h.c1, pw_cell_below hb h.c2, pw_cell_below hb h.c3, pw_cell_below hb h.c4, pw_cell_below hb h.c5, pw_cell_below hb h.c6, pw_cell_below hb h.c7, frozen_below hb h.c6 h.f6, frozen_below hb h.c7 h.f7⟩
theorem Five.alloc {b0 b1 b2 b3 b4 : Nat} {p0 p1 pn pf q0 q1 v0 v1 : Value} {w : World} (h : Five b0 b1 b2 b3 b4 p0 p1 pn pf q0 q1 v0 v1 w) (o : Obj) : Five b0 b1 b2 b3 b4 p0 p1 pn pf q0 q1 v0 v1 (w.alloc o) := h.below (below_alloc (Below.refl _ w) _)
theorem Five.drew {b0 b1 b2 b3 b4 : Nat} {p0 p1 pn pf q0 q1 v0 v1 : Value} {w : World} (h : Five b0 b1 b2 b3 b4 p0 p1 pn pf q0 q1 v0 v1 w) : Five b0 b1 b2 b3 b4 p0 p1 pn pf q0 q1 v0 v1 w.drew := ⟨h.c0, h.c1, h.c2, h.c3, h.c4, h.c5, h.c6, h.c7, h.f6, h.f7⟩
structure Hole (g : Nat) (w : World) : Prop where
  c0 : w.cell? ⟨g, 0, none⟩ = some (.int .u64 0)
  c1 : w.cell? ⟨g, 1, none⟩ = some (.int .u64 0)
  f0 : w.frozen? ⟨g, 0, none⟩ = false
  f1 : w.frozen? ⟨g, 1, none⟩ = false
theorem Hole.below {g : Nat} {w w1 : World} (h : Hole g w) (hb : Below w.heap.size w w1) : Hole g w1 :=
  ⟨pw_cell_below hb h.c0, pw_cell_below hb h.c1, frozen_below hb h.c0 h.f0, frozen_below hb h.c1 h.f1⟩
theorem Hole.newd (w : World) : Hole w.heap.size (w.drew.alloc (.cells #[.int .u64 0, .int .u64 0] 24)) := by
  refine ⟨?_, ?_, ?_, ?_⟩ <;> go_simp
theorem Hole.new (w : World) : Hole w.heap.size (w.alloc (.cells #[.int .u64 0, .int .u64 0] 24)) := by
  refine ⟨?_, ?_, ?_, ?_⟩ <;> go_simp
structure Hole2 (g : Nat) (x y : Value) (w : World) : Prop where
  mk ::
  c0 : w.cell? ⟨g, 0, none⟩ = some x
  c1 : w.cell? ⟨g, 1, none⟩ = some y
theorem Hole2.below {g : Nat} {x y : Value} {w w1 : World} (h : Hole2 g x y w) (hb : Below w.heap.size w w1) : Hole2 g x y w1 := ⟨pw_cell_below hb h.c0, pw_cell_below hb h.c1⟩
theorem set_far2 {W : World} {b4 c off : Nat} {x y u : Value} (h : W.cell? ⟨c, off, none⟩ = some u) (hne : c ≠ b4) : ((W.setCell ⟨b4, 0, none⟩ x).setCell ⟨b4, 1, none⟩ y).cell? ⟨c, off, none⟩ = some u := by
  rw [World.cell?_setCell_far _ _ _ _ (fun e => hne e.symm), World.cell?_setCell_far _ _ _ _ (fun e => hne e.symm)]; exact h
theorem region_cut {P : Program} {c : Code} {Q : Exit → Act → World → Prop} {a : Act} {w : World} (Φ : Act → Act → World → Prop) (h1 : c.wp P (fun e a' W => match e with | .normal => Φ a a' W | _ => False) a w) (h2 : ∀ a' W, Φ a a' W → Q .normal a' W) : c.wp P Q a w :=
  Code.wp_mono (Q := fun e a' W => match e with | .normal => Φ a a' W | _ => False) (fun e a' W h => by cases e <;> first | exact h2 a' W h | exact False.elim h) h1
attribute [local go_sem high] eqA24 in
set_option maxHeartbeats 2000000 in
set_option maxRecDepth 100000 in
theorem word_With1.wide (a0_0 a0_1 a1 a2 a3_0 a3_1 x1 x2 : Int) (b0 b1 b2 b3 b4 : Nat) (v0 v1 : Value) (w : World) (hx : Aside0 (word_Shr.f a3_0 a3_1 a2 = some (x1, x2))) (hne : (x1 == 0 && (x2 == 0)) = false)
    (q : Five b0 b1 b2 b3 b4 (.int .u64 a3_0) (.int .u64 a3_1) (.int .i64 a2) (.int .i64 a1) (.int .u64 a0_0) (.int .u64 a0_1) v0 v1 w) :
    Calls Try.prog 51 #[.pointer (some ⟨b0, 0, none⟩), .pointer (some ⟨b1, 0, none⟩), .pointer (some ⟨b2, 0, none⟩), .pointer (some ⟨b3, 0, none⟩), .pointer (some ⟨b4, 0, none⟩)] w fun e w' => e = .returned (.int .i64 6) ∧ Below w.heap.size w w' := by
  have huW := Try.underlying24
  have q' := Aside0.mk q
  obtain ⟨c0, c1, c2, c3, c4, c5, c6, c7, f6, f7⟩ := q
  go_enter Try.func51, Try.ntmps51
  go_wp2_with (go_at_call 22; (with_reducible refine (word_Shr.calls a3_0 a3_1 a2 x1 x2 _ hx.out).mono ?_); rintro e w1 ⟨rfl, hb1⟩)
  all_goals go_ret
  all_goals exact ⟨rfl, hb1⟩
attribute [local go_sem high] eqA24 in
set_option maxHeartbeats 4000000 in
set_option maxRecDepth 100000 in
theorem word_With1.calls (a0_0 a0_1 a1 a2 a3_0 a3_1 y1 y2 h1 h2 i1 i2 j1 j2 k1 k2 l1 l2 m1 m2 : Int) (b0 b1 b2 b3 b4 : Nat) (v0 v1 : Value) (w : World) (g0 : 0 ≤ a1) (g1 : a1 ≤ 128) (g2 : 0 ≤ a2) (g3 : a2 ≤ 128) (hx : Aside0 (word_Shr.f a3_0 a3_1 a2 = some (0, 0)))
    (ho : Aside0 (word_ones.f = some (i1, i2))) (hy : Aside0 (word_Shr.f i1 i2 (128 - a2) = some (y1, y2))) (hh : Aside0 (word_Shl.f y1 y2 (128 - a1 - a2) = some (h1, h2))) (hn : Aside0 (word_Not.f h1 h2 = some (j1, j2))) (ha : Aside0 (word_And.f a0_0 a0_1 j1 j2 = some (k1, k2))) (hs : Aside0 (word_Shl.f a3_0 a3_1 (128 - a1 - a2) = some (l1, l2))) (hr : Aside0 (word_Or.f k1 k2 l1 l2 = some (m1, m2)))
    (n04 : b0 ≠ b4) (n34 : b3 ≠ b4) (q : Five b0 b1 b2 b3 b4 (.int .u64 a3_0) (.int .u64 a3_1) (.int .i64 a2) (.int .i64 a1) (.int .u64 a0_0) (.int .u64 a0_1) v0 v1 w) :
    Calls Try.prog 51 #[.pointer (some ⟨b0, 0, none⟩), .pointer (some ⟨b1, 0, none⟩), .pointer (some ⟨b2, 0, none⟩), .pointer (some ⟨b3, 0, none⟩), .pointer (some ⟨b4, 0, none⟩)] w fun e w' => e = .returned (.int .i64 0) ∧ ∃ w1, Below w.heap.size w w1 ∧ w' = (w1.setCell ⟨b4, 0, none⟩ (.int .u64 m1)).setCell ⟨b4, 1, none⟩ (.int .u64 m2) := by
  have huW := Try.underlying24
  have e1 : IntKind.i64.wrap (128 - a2) = 128 - a2 := IntWalk.i64_in _ (by omega)
  have e2 : IntKind.i64.wrap (128 - a1) = 128 - a1 := IntWalk.i64_in _ (by omega)
  have e3 : IntKind.i64.wrap (128 - a1 - a2) = 128 - a1 - a2 := IntWalk.i64_in _ (by omega)
  have qq := Aside0.mk q
  obtain ⟨c0, c1, c2, c3, c4, c5, c6, c7, f6, f7⟩ := q
  go_enter Try.func51, Try.ntmps51
  go_wp2_with (go_at_call 22; (with_reducible refine (word_Shr.calls a3_0 a3_1 a2 0 0 _ hx.out).mono ?_); rintro e w1 ⟨rfl, hb1⟩; have HB1 := Aside0.mk hb1; have z1 := below_size hb1; have qx := Aside0.mk (qq.out.below hb1); obtain ⟨c0, c1, c2, c3, c4, c5, c6, c7, f6, f7⟩ := qx.out; have lw1 : b1 < w1.heap.size := World.block_lt_of_cell? _ _ c2; clear hb1)
  refine region_cut (fun a a' W => ∃ g, a' = ((((((a.put (some 17) (.agg #[.int .u64 i1, .int .u64 i2])).put (some 18) (.int .i64 a2)).put (some 19) (.int .i64 (128 - a2))).put (some 20) (.agg #[.int .u64 y1, .int .u64 y2])).put (some 21) (.int .i64 (128 - a1 - a2))).put (some 22) (.agg #[.int .u64 h1, .int .u64 h2])).put (some 7) (.pointer (some ⟨g, 0, none⟩)) ∧ w.heap.size ≤ g ∧ W.cell? ⟨g, 0, none⟩ = some (.int .u64 h1) ∧ W.cell? ⟨g, 1, none⟩ = some (.int .u64 h2) ∧ Below w.heap.size w W) ?_ ?_
  · clear n04 n34
    go_region_held3 (fun w' => w'.cell? ⟨b1, 0, none⟩ = some (.int .i64 a2)) (first | exact c2 | exact n2 | exact n3 | exact n4 | exact pw_cell_below (below_alloc (Below.refl _ _) _) n4 | exact pw_cell_below (below_alloc (Below.refl _ _) _) n3 | exact pw_cell_below (below_alloc (Below.refl _ _) _) n2 | exact pw_cell_below (below_alloc (Below.refl _ _) _) c2 | exact set_far2 n4 (by omega) | exact set_far2 (pw_cell_below (below_alloc (Below.refl _ _) _) n4) (by omega) | go_keep) (first | (go_at_call 46; (with_reducible refine (word_ones.calls i1 i2 _ ho.out).mono ?_); rintro e w2 ⟨rfl, hb2⟩; have HB2 := Aside0.mk (show Below w.heap.size w w2 from below_step (by first | exact HB1.out | exact below_alloc HB1.out _ | exact below_drew HB1.out | exact below_alloc (below_drew HB1.out) _) hb2); have z2 := below_size HB2.out; have q2 := Aside0.mk (qq.out.below HB2.out); have n2 := q2.out.c2; have ln2 : b1 < w2.heap.size := World.block_lt_of_cell? _ _ q2.out.c2; (first | have hol := hol.below hb2 | have hol := (Hole.newd _).below hb2 | have hol := (Hole.new _).below hb2 | skip); (try (have o20 := hol.c0)); (try (have o21 := hol.c1)); (try (have o22 := hol.f0)); (try (have o23 := hol.f1)); clear hb2) | (go_at_call 22; (with_reducible refine (word_Shr.calls i1 i2 (128 - a2) y1 y2 _ hy.out).mono ?_); rintro e w3 ⟨rfl, hb3⟩; have HB3 := Aside0.mk (show Below w.heap.size w w3 from below_step (by first | exact HB2.out | exact below_alloc HB2.out _ | exact below_drew HB2.out | exact below_alloc (below_drew HB2.out) _) hb3); have z3 := below_size HB3.out; have q3 := Aside0.mk (qq.out.below HB3.out); have n3 := q3.out.c2; have ln3 : b1 < w3.heap.size := World.block_lt_of_cell? _ _ q3.out.c2; (first | have hol := hol.below hb3 | have hol := (Hole.newd _).below hb3 | have hol := (Hole.new _).below hb3 | skip); (try (have o30 := hol.c0)); (try (have o31 := hol.c1)); (try (have o32 := hol.f0)); (try (have o33 := hol.f1)); clear hb3) | (go_at_call 20; (with_reducible refine (word_Shl.calls y1 y2 (128 - a1 - a2) h1 h2 _ hh.out).mono ?_); rintro e w4 ⟨rfl, hb4⟩; have HB4 := Aside0.mk (show Below w.heap.size w w4 from below_step (by first | exact HB3.out | exact below_alloc HB3.out _ | exact below_drew HB3.out | exact below_alloc (below_drew HB3.out) _) hb4); have z4 := below_size HB4.out; have q4 := Aside0.mk (qq.out.below HB4.out); have n4 := q4.out.c2; have ln4 : b1 < w4.heap.size := World.block_lt_of_cell? _ _ q4.out.c2; (first | have hol := hol.below hb4 | have hol := (Hole.newd _).below hb4 | have hol := (Hole.new _).below hb4 | skip); (try (have o40 := hol.c0)); (try (have o41 := hol.c1)); (try (have o42 := hol.f0)); (try (have o43 := hol.f1)); clear hb4))
    all_goals refine ⟨_, rfl, ?_, ?_, ?_, ?_⟩
    all_goals first | (with_reducible assumption) | omega | (go_simp; done) | (repeat (first | exact HB4.out | exact HB3.out | exact HB2.out | exact HB1.out | refine below_set ?_ (by first | omega | (simp; omega)) | refine below_alloc ?_ _ | refine below_drew ?_)) | skip
  · rintro a' W ⟨g, rfl, hg, gp0, gp1, HBW⟩
    have HBP := Aside0.mk HBW
    have q4 := Aside0.mk (qq.out.below HBW)
    obtain ⟨c0, c1, c2, c3, c4, c5, c6, c7, f6, f7⟩ := q4.out
    clear HBW
    have lg : b4 < w.heap.size := World.block_lt_of_cell? _ _ qq.out.c6
    have ng4 : g ≠ b4 := by omega
    simp only [Act.put, List.setIfInBounds_toArray, List.set_cons_zero, List.set_cons_succ]
    go_wp2_with fail
    go_region_held3 (fun w' => w'.cell? ⟨b3, 0, none⟩ = some (.int .u64 a0_0) ∧ w'.cell? ⟨b3, 1, none⟩ = some (.int .u64 a0_1) ∧ w'.cell? ⟨b0, 0, none⟩ = some (.int .u64 a3_0) ∧ w'.cell? ⟨b0, 1, none⟩ = some (.int .u64 a3_1) ∧ w'.cell? ⟨g, 0, none⟩ = some (.int .u64 h1) ∧ w'.cell? ⟨g, 1, none⟩ = some (.int .u64 h2)) (first | exact ⟨c4, c5, c0, c1, gp0, gp1⟩ | exact ⟨c45, c55, c05, c15, gp0, gp1⟩ | exact ⟨c46, c56, c06, c16, gp0, gp1⟩ | exact ⟨c47, c57, c07, c17, gp0, gp1⟩ | exact ⟨c48, c58, c08, c18, gp0, gp1⟩ | exact ⟨set_far2 c48 n34, set_far2 c58 n34, set_far2 c08 n04, set_far2 c18 n04, set_far2 gp0 ng4, set_far2 gp1 ng4⟩) (first | (go_at_call 18; (with_reducible refine (word_Not.calls h1 h2 j1 j2 _ hn.out).mono ?_); rintro e w5 ⟨rfl, hb5⟩; have HB5 := Aside0.mk (show Below w.heap.size w w5 from below_step (by first | exact HBP.out | exact below_drew HBP.out) hb5); clear HBP; have HBP := HB5; have z5 := below_size HB5.out; have q5 := Aside0.mk (qq.out.below HB5.out); have c05 := q5.out.c0; have c15 := q5.out.c1; have c45 := q5.out.c4; have c55 := q5.out.c5; have c65 := q5.out.c6; have c75 := q5.out.c7; have f65 := q5.out.f6; have f75 := q5.out.f7; have y0 : w5.cell? ⟨g, 0, none⟩ = some (.int .u64 h1) := pw_cell_below hb5 gp0; have y1 : w5.cell? ⟨g, 1, none⟩ = some (.int .u64 h2) := pw_cell_below hb5 gp1; clear gp0 gp1; have gp0 := y0; have gp1 := y1; clear y0 y1; clear hb5) | (go_at_call 12; (with_reducible refine (word_And.calls a0_0 a0_1 j1 j2 k1 k2 _ ha.out).mono ?_); rintro e w6 ⟨rfl, hb6⟩; have HB6 := Aside0.mk (show Below w.heap.size w w6 from below_step (by first | exact HBP.out | exact below_drew HBP.out) hb6); clear HBP; have HBP := HB6; have z6 := below_size HB6.out; have q6 := Aside0.mk (qq.out.below HB6.out); have c06 := q6.out.c0; have c16 := q6.out.c1; have c46 := q6.out.c4; have c56 := q6.out.c5; have c66 := q6.out.c6; have c76 := q6.out.c7; have f66 := q6.out.f6; have f76 := q6.out.f7; have y0 : w6.cell? ⟨g, 0, none⟩ = some (.int .u64 h1) := pw_cell_below hb6 gp0; have y1 : w6.cell? ⟨g, 1, none⟩ = some (.int .u64 h2) := pw_cell_below hb6 gp1; clear gp0 gp1; have gp0 := y0; have gp1 := y1; clear y0 y1; clear hb6) | (go_at_call 20; (with_reducible refine (word_Shl.calls a3_0 a3_1 (128 - a1 - a2) l1 l2 _ hs.out).mono ?_); rintro e w7 ⟨rfl, hb7⟩; have HB7 := Aside0.mk (show Below w.heap.size w w7 from below_step (by first | exact HBP.out | exact below_drew HBP.out) hb7); clear HBP; have HBP := HB7; have z7 := below_size HB7.out; have q7 := Aside0.mk (qq.out.below HB7.out); have c07 := q7.out.c0; have c17 := q7.out.c1; have c47 := q7.out.c4; have c57 := q7.out.c5; have c67 := q7.out.c6; have c77 := q7.out.c7; have f67 := q7.out.f6; have f77 := q7.out.f7; have y0 : w7.cell? ⟨g, 0, none⟩ = some (.int .u64 h1) := pw_cell_below hb7 gp0; have y1 : w7.cell? ⟨g, 1, none⟩ = some (.int .u64 h2) := pw_cell_below hb7 gp1; clear gp0 gp1; have gp0 := y0; have gp1 := y1; clear y0 y1; clear hb7) | (go_at_call 14; (with_reducible refine (word_Or.calls k1 k2 l1 l2 m1 m2 _ hr.out).mono ?_); rintro e w8 ⟨rfl, hb8⟩; have HB8 := Aside0.mk (show Below w.heap.size w w8 from below_step (by first | exact HBP.out | exact below_drew HBP.out) hb8); clear HBP; have HBP := HB8; have z8 := below_size HB8.out; have q8 := Aside0.mk (qq.out.below HB8.out); have c08 := q8.out.c0; have c18 := q8.out.c1; have c48 := q8.out.c4; have c58 := q8.out.c5; have c68 := q8.out.c6; have c78 := q8.out.c7; have f68 := q8.out.f6; have f78 := q8.out.f7; have y0 : w8.cell? ⟨g, 0, none⟩ = some (.int .u64 h1) := pw_cell_below hb8 gp0; have y1 : w8.cell? ⟨g, 1, none⟩ = some (.int .u64 h2) := pw_cell_below hb8 gp1; clear gp0 gp1; have gp0 := y0; have gp1 := y1; clear y0 y1; clear hb8))
    all_goals go_wp2
    all_goals go_ret
    all_goals exact ⟨rfl, _, HB8.out, rfl⟩
theorem kept6 (w : World) (o0 o1 o2 o3 : Obj) (p0 p1 q0 q1 : Value) {w1 : World} (hb : Below ((((((w.alloc o0).alloc o1).alloc o2).alloc o3).alloc (.cells #[p0, p1] 24)).alloc (.cells #[q0, q1] 24)).heap.size ((((((w.alloc o0).alloc o1).alloc o2).alloc o3).alloc (.cells #[p0, p1] 24)).alloc (.cells #[q0, q1] 24)) w1) :
    w1.cell? ⟨w.heap.size + 1 + 1 + 1 + 1, 0, none⟩ = some p0 ∧ w1.cell? ⟨w.heap.size + 1 + 1 + 1 + 1, 1, none⟩ = some p1 ∧ w1.cell? ⟨w.heap.size + 1 + 1 + 1 + 1 + 1, 0, none⟩ = some q0 ∧ w1.cell? ⟨w.heap.size + 1 + 1 + 1 + 1 + 1, 1, none⟩ = some q1 ∧ w1.frozen? ⟨w.heap.size + 1 + 1 + 1 + 1, 0, none⟩ = false ∧ w1.frozen? ⟨w.heap.size + 1 + 1 + 1 + 1, 1, none⟩ = false ∧ Below w.heap.size w w1 := by
  have hc : ((((((w.alloc o0).alloc o1).alloc o2).alloc o3).alloc (.cells #[p0, p1] 24)).alloc (.cells #[q0, q1] 24)).cell? ⟨w.heap.size + 1 + 1 + 1 + 1, 0, none⟩ = some p0 := by go_simp
  have hc1 : ((((((w.alloc o0).alloc o1).alloc o2).alloc o3).alloc (.cells #[p0, p1] 24)).alloc (.cells #[q0, q1] 24)).cell? ⟨w.heap.size + 1 + 1 + 1 + 1, 1, none⟩ = some p1 := by go_simp
  have hd : ((((((w.alloc o0).alloc o1).alloc o2).alloc o3).alloc (.cells #[p0, p1] 24)).alloc (.cells #[q0, q1] 24)).cell? ⟨w.heap.size + 1 + 1 + 1 + 1 + 1, 0, none⟩ = some q0 := by go_simp
  have hd1 : ((((((w.alloc o0).alloc o1).alloc o2).alloc o3).alloc (.cells #[p0, p1] 24)).alloc (.cells #[q0, q1] 24)).cell? ⟨w.heap.size + 1 + 1 + 1 + 1 + 1, 1, none⟩ = some q1 := by go_simp
  exact ⟨pw_cell_below hb hc, pw_cell_below hb hc1, pw_cell_below hb hd, pw_cell_below hb hd1, frozen_below hb hc (by go_simp), frozen_below hb hc1 (by go_simp), below_step (below_alloc (below_alloc (below_alloc (below_alloc (below_alloc (below_alloc (Below.refl _ w) _) _) _) _) _) _) hb⟩
def word_With.f (a0_0 : Int) (a0_1 : Int) (a1 : Int) (a2 : Int) (a3_0 : Int) (a3_1 : Int) : Option (Int × Int × Int) := if 0 ≤ a1 ∧ a1 ≤ 128 ∧ 0 ≤ a2 ∧ a2 ≤ 128 - a1 then ((word_Shr.f a3_0 a3_1 a2).bind fun x => if (x.1 == 0 && (x.2 == 0)) = true then (word_ones.f.bind fun i => (word_Shr.f i.1 i.2 (128 - a2)).bind fun y => (word_Shl.f y.1 y.2 (128 - a1 - a2)).bind fun h => (word_Not.f h.1 h.2).bind fun j => (word_And.f a0_0 a0_1 j.1 j.2).bind fun k => (word_Shl.f a3_0 a3_1 (128 - a1 - a2)).bind fun l => (word_Or.f k.1 k.2 l.1 l.2).bind fun m => some (m.1, m.2, 0)) else some (0, 0, 6)) else some (0, 0, 1)
set_option maxHeartbeats 2000000 in
set_option maxRecDepth 100000 in
theorem word_With.calls_in (a0_0 a0_1 a1 a2 a3_0 a3_1 y1 y2 h1 h2 i1 i2 j1 j2 k1 k2 l1 l2 m1 m2 : Int) (w : World) (g0 : 0 ≤ a1) (g1 : a1 ≤ 128) (g2 : 0 ≤ a2) (g3 : a2 ≤ 128 - a1) (hx : Aside0 (word_Shr.f a3_0 a3_1 a2 = some (0, 0)))
    (ho : Aside0 (word_ones.f = some (i1, i2))) (hy : Aside0 (word_Shr.f i1 i2 (128 - a2) = some (y1, y2))) (hh : Aside0 (word_Shl.f y1 y2 (128 - a1 - a2) = some (h1, h2))) (hn : Aside0 (word_Not.f h1 h2 = some (j1, j2))) (ha : Aside0 (word_And.f a0_0 a0_1 j1 j2 = some (k1, k2))) (hs : Aside0 (word_Shl.f a3_0 a3_1 (128 - a1 - a2) = some (l1, l2))) (hr : Aside0 (word_Or.f k1 k2 l1 l2 = some (m1, m2))) :
    Calls Try.prog 31 #[.agg #[.int .u64 a0_0, .int .u64 a0_1], .int .i64 a1, .int .i64 a2, .agg #[.int .u64 a3_0, .int .u64 a3_1]] w fun e w' => e = .returned (.tuple #[.agg #[.int .u64 m1, .int .u64 m2], .int .i64 0]) ∧ Below w.heap.size w w' := by
  have huW := Try.underlying24
  go_enter Try.func31, Try.ntmps31
  go_wp2_with (first | (go_at_call 49; go_in) | (go_at_call 51; (with_reducible refine (word_With1.calls a0_0 a0_1 a1 a2 a3_0 a3_1 y1 y2 h1 h2 i1 i2 j1 j2 k1 k2 l1 l2 m1 m2 _ _ _ _ _ (.int .u64 0) (.int .u64 0) _ g0 g1 g2 (by omega) hx ho hy hh hn ha hs hr (by omega) (by omega) (by refine ⟨?_, ?_, ?_, ?_, ?_, ?_, ?_, ?_, ?_, ?_⟩ <;> go_simp)).mono ?_); rintro e w' ⟨rfl, w1, hb, rfl⟩; obtain ⟨k0, k1, k2, k3, k4, k5, hb0⟩ := kept6 w _ _ _ _ _ _ _ _ hb; clear hb))
  refine bodyPost_ret (v := .tuple #[.agg #[.int .u64 m1, .int .u64 m2], .int .i64 0]) (by simp [results, Try.results31, go_sem, k0, k1, k2, k3]) rfl ⟨rfl, ?_⟩
  exact below_set (below_set (below_set (below_set hb0 (by omega)) (by omega)) (by omega)) (by omega)
set_option maxHeartbeats 2000000 in
set_option maxRecDepth 100000 in
theorem word_With.calls_wide (a0_0 a0_1 a1 a2 a3_0 a3_1 x1 x2 : Int) (w : World) (g0 : 0 ≤ a1) (g1 : a1 ≤ 128) (g2 : 0 ≤ a2) (g3 : a2 ≤ 128 - a1) (hx : Aside0 (word_Shr.f a3_0 a3_1 a2 = some (x1, x2))) (hne : (x1 == 0 && (x2 == 0)) = false) :
    Calls Try.prog 31 #[.agg #[.int .u64 a0_0, .int .u64 a0_1], .int .i64 a1, .int .i64 a2, .agg #[.int .u64 a3_0, .int .u64 a3_1]] w fun e w' => e = .returned (.tuple #[.agg #[.int .u64 0, .int .u64 0], .int .i64 6]) ∧ Below w.heap.size w w' := by
  have huW := Try.underlying24
  go_enter Try.func31, Try.ntmps31
  go_wp2_with (first | (go_at_call 49; go_in) | (go_at_call 51; (with_reducible refine (word_With1.wide a0_0 a0_1 a1 a2 a3_0 a3_1 x1 x2 _ _ _ _ _ (.int .u64 0) (.int .u64 0) _ hx hne (by refine ⟨?_, ?_, ?_, ?_, ?_, ?_, ?_, ?_, ?_, ?_⟩ <;> go_simp)).mono ?_); rintro e w' ⟨rfl, hb⟩; obtain ⟨k0, k1, k2, k3, k4, k5, hb0⟩ := kept6 w _ _ _ _ _ _ _ _ hb; clear hb))
  refine bodyPost_ret (v := .tuple #[.agg #[.int .u64 0, .int .u64 0], .int .i64 6]) (by simp [results, Try.results31, go_sem, k0, k1, k2, k3]) rfl ⟨rfl, ?_⟩
  exact below_set (below_set hb0 (by omega)) (by omega)
set_option maxHeartbeats 2000000 in
set_option maxRecDepth 100000 in
theorem word_With.calls_out (a0_0 a0_1 a1 a2 a3_0 a3_1 : Int) (w : World) (h : a1 < 0 ∨ (0 ≤ a1 ∧ 128 < a1) ∨ (0 ≤ a1 ∧ a1 ≤ 128 ∧ a2 < 0) ∨ (0 ≤ a1 ∧ a1 ≤ 128 ∧ 0 ≤ a2 ∧ 128 - a1 < a2)) :
    Calls Try.prog 31 #[.agg #[.int .u64 a0_0, .int .u64 a0_1], .int .i64 a1, .int .i64 a2, .agg #[.int .u64 a3_0, .int .u64 a3_1]] w fun e w' => e = .returned (.tuple #[.agg #[.int .u64 0, .int .u64 0], .int .i64 1]) ∧ Below w.heap.size w w' := by
  have huW := Try.underlying24
  rcases h with h | ⟨h, h0⟩ | ⟨h, h0, h1⟩ | ⟨h, h0, h1, h2⟩
  all_goals
    go_enter Try.func31, Try.ntmps31
    go_wp2
    refine bodyPost_ret (v := .tuple #[.agg #[.int .u64 0, .int .u64 0], .int .i64 1]) (by simp [results, Try.results31, go_sem]) rfl ⟨rfl, ?_⟩
    first | exact (below_alloc (below_alloc (below_alloc (below_alloc (below_alloc (below_alloc (Below.refl _ w) _) _) _) _) _) _) | (repeat (refine below_set ?_ (by simp; try omega))); exact (below_alloc (below_alloc (below_alloc (below_alloc (below_alloc (below_alloc (Below.refl _ w) _) _) _) _) _) _)
theorem word_With.calls (a0_0 : Int) (a0_1 : Int) (a1 : Int) (a2 : Int) (a3_0 : Int) (a3_1 : Int) (r1 : Int) (r2 : Int) (r3 : Int) (w : World) (h : word_With.f a0_0 a0_1 a1 a2 a3_0 a3_1 = some (r1, r2, r3)) :
    Calls Try.prog 31 #[.agg #[.int .u64 a0_0, .int .u64 a0_1], .int .i64 a1, .int .i64 a2, .agg #[.int .u64 a3_0, .int .u64 a3_1]] w fun e w' => e = .returned (.tuple #[.agg #[.int .u64 r1, .int .u64 r2], .int .i64 r3]) ∧ Below w.heap.size w w' := by
  unfold word_With.f at h
  by_cases c : 0 ≤ a1 ∧ a1 ≤ 128 ∧ 0 ≤ a2 ∧ a2 ≤ 128 - a1
  · rw [if_pos c] at h
    obtain ⟨⟨x1, x2⟩, hx, h⟩ := Option.bind_eq_some_iff.mp h
    by_cases cz : (x1 == 0 && (x2 == 0)) = true
    · rw [if_pos cz] at h
      obtain ⟨⟨i1, i2⟩, ho, h⟩ := Option.bind_eq_some_iff.mp h
      obtain ⟨⟨y1, y2⟩, hy, h⟩ := Option.bind_eq_some_iff.mp h
      obtain ⟨⟨h1, h2⟩, hh, h⟩ := Option.bind_eq_some_iff.mp h
      obtain ⟨⟨j1, j2⟩, hn, h⟩ := Option.bind_eq_some_iff.mp h
      obtain ⟨⟨k1, k2⟩, ha, h⟩ := Option.bind_eq_some_iff.mp h
      obtain ⟨⟨l1, l2⟩, hs, h⟩ := Option.bind_eq_some_iff.mp h
      obtain ⟨⟨m1, m2⟩, hr, h⟩ := Option.bind_eq_some_iff.mp h
      simp only [Option.some.injEq, Prod.mk.injEq] at h
      obtain ⟨rfl, rfl, rfl⟩ := h
      obtain ⟨z1, z2⟩ : x1 = 0 ∧ x2 = 0 := by simpa using cz
      subst z1; subst z2
      exact word_With.calls_in a0_0 a0_1 a1 a2 a3_0 a3_1 y1 y2 h1 h2 i1 i2 j1 j2 k1 k2 l1 l2 m1 m2 w c.1 c.2.1 c.2.2.1 c.2.2.2 ⟨hx⟩ ⟨ho⟩ ⟨hy⟩ ⟨hh⟩ ⟨hn⟩ ⟨ha⟩ ⟨hs⟩ ⟨hr⟩
    · rw [if_neg cz] at h
      simp only [Option.some.injEq, Prod.mk.injEq] at h
      obtain ⟨rfl, rfl, rfl⟩ := h
      exact word_With.calls_wide a0_0 a0_1 a1 a2 a3_0 a3_1 x1 x2 w c.1 c.2.1 c.2.2.1 c.2.2.2 ⟨hx⟩ (by simpa using cz)
  · rw [if_neg c] at h
    simp only [Option.some.injEq, Prod.mk.injEq] at h
    obtain ⟨rfl, rfl, rfl⟩ := h
    exact word_With.calls_out a0_0 a0_1 a1 a2 a3_0 a3_1 w (by omega)

/-! ### turnpikeref1_fits: function 52 -/
def turnpikeref1_fits.f (a0 : Int) (a1 : Int) : Option (Bool) := if a0 ≥ 0 then (if a0 ≤ 128 then (if a1 ≥ 0 then (some (decide (a1 ≤ (wrap64 (128 - a0))))) else (some false)) else (some false)) else (some false)
set_option maxHeartbeats 8000000 in
set_option maxRecDepth 100000 in
theorem turnpikeref1_fits.calls (a0 : Int) (a1 : Int) (r : Bool) (w : World) (h : turnpikeref1_fits.f a0 a1 = some r) :
    Calls Try.prog 52 #[.int .i64 a0, .int .i64 a1] w fun e w' => e = .returned (.bool r) ∧ Drawn0 w w' := by
  have H : (if a0 ≥ 0 then (if a0 ≤ 128 then (if a1 ≥ 0 then (some (decide (a1 ≤ (wrap64 (128 - a0))))) else (some false)) else (some false)) else (some false)) = some r := h
  clear h
  by_cases c3 : a0 ≥ 0
  · rw [if_pos c3] at H
    have c3b0 : decide (0 ≤ a0) = true := decide_eq_true c3
    clear c3
    by_cases c4 : a0 ≤ 128
    · rw [if_pos c4] at H
      have c4b0 : decide (a0 ≤ 128) = true := decide_eq_true c4
      clear c4
      by_cases c5 : a1 ≥ 0
      · rw [if_pos c5] at H
        have c5b0 : decide (0 ≤ a1) = true := decide_eq_true c5
        clear c5
        obtain rfl := Option.some.inj H
        go_enter Try.func52, Try.ntmps52
        go_wp2
        go_ret
        exact ⟨by first | rfl | (simp; done) | (simp [*]; done), by repeat (first | exact Drawn0.refl _ | apply Drawn0.step)⟩
      · rw [if_neg c5] at H
        have c5b0 : decide (0 ≤ a1) = false := decide_eq_false c5
        clear c5
        obtain rfl := Option.some.inj H
        go_enter Try.func52, Try.ntmps52
        go_wp2
        go_ret
        exact ⟨by first | rfl | (simp; done) | (simp [*]; done), by repeat (first | exact Drawn0.refl _ | apply Drawn0.step)⟩
    · rw [if_neg c4] at H
      have c4b0 : decide (a0 ≤ 128) = false := decide_eq_false c4
      clear c4
      obtain rfl := Option.some.inj H
      go_enter Try.func52, Try.ntmps52
      go_wp2
      go_ret
      exact ⟨by first | rfl | (simp; done) | (simp [*]; done), by repeat (first | exact Drawn0.refl _ | apply Drawn0.step)⟩
  · rw [if_neg c3] at H
    have c3b0 : decide (0 ≤ a0) = false := decide_eq_false c3
    clear c3
    obtain rfl := Option.some.inj H
    go_enter Try.func52, Try.ntmps52
    go_wp2
    go_ret
    exact ⟨by first | rfl | (simp; done) | (simp [*]; done), by repeat (first | exact Drawn0.refl _ | apply Drawn0.step)⟩

/-! ### turnpikeref1_Field: function 32 -/
def turnpikeref1_Field.f (a0_0 : Int) (a0_1 : Int) (a1 : Int) (a2 : Int) : Option (Int × Int × Int) := (turnpikeref1_fits.f a1 a2).bind fun t241 => (if t241 = true then ((turnpikeref1_Shl.f a0_0 a0_1 a1).bind fun bt242 => ((turnpikeref1_Shr.f bt242.1 bt242.2 (wrap64 (128 - a2))).bind fun bt244 => (some (bt244.1, bt244.2, 0)))) else (some (0, 0, 1)))
set_option maxHeartbeats 8000000 in
set_option maxRecDepth 100000 in
theorem turnpikeref1_Field.calls (a0_0 : Int) (a0_1 : Int) (a1 : Int) (a2 : Int) (r1 : Int) (r2 : Int) (r3 : Int) (w : World) (h : turnpikeref1_Field.f a0_0 a0_1 a1 a2 = some (r1, r2, r3)) :
    Calls Try.prog 32 #[.agg #[.int .u64 a0_0, .int .u64 a0_1], .int .i64 a1, .int .i64 a2] w fun e w' => e = .returned (.tuple #[.agg #[.int .u64 r1, .int .u64 r2], .int .i64 r3]) ∧ Below w.heap.size w w' := by
  have hu24 := Try.underlying24
  have HB := Aside0.mk (Below.refl w.heap.size w)
  have H : ((turnpikeref1_fits.f a1 a2).bind fun t241 => (if t241 = true then ((turnpikeref1_Shl.f a0_0 a0_1 a1).bind fun bt242 => ((turnpikeref1_Shr.f bt242.1 bt242.2 (wrap64 (128 - a2))).bind fun bt244 => (some (bt244.1, bt244.2, 0)))) else (some (0, 0, 1)))) = some (r1, r2, r3) := h
  clear h
  replace H := Option.bind_eq_some_iff.mp H
  obtain ⟨t241, A40, H⟩ := H
  replace H : (if t241 = true then ((turnpikeref1_Shl.f a0_0 a0_1 a1).bind fun bt242 => ((turnpikeref1_Shr.f bt242.1 bt242.2 (wrap64 (128 - a2))).bind fun bt244 => (some (bt244.1, bt244.2, 0)))) else (some (0, 0, 1))) = some (r1, r2, r3) := H
  have A4 := Aside0.mk A40
  clear A40
  by_cases c5 : t241 = true
  · subst c5
    have H1 : ((turnpikeref1_Shl.f a0_0 a0_1 a1).bind fun bt242 => ((turnpikeref1_Shr.f bt242.1 bt242.2 (wrap64 (128 - a2))).bind fun bt244 => (some (bt244.1, bt244.2, 0)))) = some (r1, r2, r3) := by rw [if_pos rfl] at H; exact H
    clear H
    have H := H1
    clear H1
    replace H := Option.bind_eq_some_iff.mp H
    obtain ⟨⟨t242, t243⟩, A60, H⟩ := H
    replace H : ((turnpikeref1_Shr.f t242 t243 (wrap64 (128 - a2))).bind fun bt244 => (some (bt244.1, bt244.2, 0))) = some (r1, r2, r3) := H
    have A6 := Aside0.mk A60
    clear A60
    replace H := Option.bind_eq_some_iff.mp H
    obtain ⟨⟨t244, t245⟩, A70, H⟩ := H
    replace H : (some (t244, t245, 0)) = some (r1, r2, r3) := H
    have A7 := Aside0.mk A70
    clear A70
    simp only [Option.some.injEq, Prod.mk.injEq] at H
    obtain ⟨rfl, rfl, rfl⟩ := H
    go_enter Try.func32, Try.ntmps32
    go_wp2_with (first | ((with_reducible refine gate_dst (N := 3) rfl ?_); refine box_event ?hg (N := 3) ?hd (cs := #[.int .u64 a0_0, .int .u64 a0_1]) (t := 24) ?hr ?_; (case hd => rfl); (case hg => rfl); (case hr => first | (go_simp; done) | (go_simp; rfl)); intro gb239 hg w8 hbox hb; have n0_ := Aside0.mk (below_step (by repeat (first | (with_reducible first | exact HB.out | apply below_alloc | apply pw_below_drewN | apply below_drew1) | exact HB.out)) hb); have n1_ := Aside0.mk (hbox); have n2_ := Aside0.mk ((by rw [hg]; exact (below_size (by repeat (first | (with_reducible first | exact HB.out | apply below_alloc | apply pw_below_drewN | apply below_drew1) | exact HB.out))) : w.heap.size ≤ gb239)); have n3_ := Aside0.mk ((by rw [hg]; exact (below_size (by repeat (first | (with_reducible first | exact HB.out | apply below_alloc | apply pw_below_drewN | apply below_drew1) | exact HB.out))) : w.heap.size ≤ gb239)); clear HB; have HB := n0_; have BK239 := n1_; have GW239 := n2_; have GE239 := n3_; clear n0_ n1_ n2_ n3_; clear hb hbox hg) | ((with_reducible refine gate_dst (N := 6) rfl ?_); refine box_event ?hg (N := 6) ?hd (cs := #[.int .u64 0, .int .u64 0]) (t := 24) ?hr ?_; (case hd => rfl); (case hg => rfl); (case hr => first | (go_simp; done) | (go_simp; rfl)); intro gb240 hg w9 hbox hb; have n0_ := Aside0.mk (blk_below (g := gb239) (o := .cells #[.int .u64 a0_0, .int .u64 a0_1] 24 (0, 0)) (by (with_reducible repeat (first | refine blk_drewN ?_ _ | refine blk_drew ?_ | refine blk_alloc ?_ _)); exact BK239.out) hb); have n1_ := Aside0.mk (below_step (by repeat (first | (with_reducible first | exact HB.out | apply below_alloc | apply pw_below_drewN | apply below_drew1 | refine below_set ?_ GE239.out) | exact HB.out)) hb); have n2_ := Aside0.mk (hbox); have n3_ := Aside0.mk ((by rw [hg]; exact (below_size (by repeat (first | (with_reducible first | exact HB.out | apply below_alloc | apply pw_below_drewN | apply below_drew1 | refine below_set ?_ GE239.out) | exact HB.out))) : w.heap.size ≤ gb240)); have n4_ := Aside0.mk ((by rw [hg]; exact (below_size (by repeat (first | (with_reducible first | exact HB.out | apply below_alloc | apply pw_below_drewN | apply below_drew1 | refine below_set ?_ GE239.out) | exact HB.out))) : w.heap.size ≤ gb240)); have n5_ := Aside0.mk ((by rw [hg]; exact Nat.ne_of_lt (blk_lt (g := gb239) (o := .cells #[.int .u64 a0_0, .int .u64 a0_1] 24 (0, 0)) (by (with_reducible repeat (first | refine blk_drewN ?_ _ | refine blk_drew ?_ | refine blk_alloc ?_ _)); exact BK239.out)) : gb239 ≠ gb240)); have n6_ := Aside0.mk ((by rw [hg]; exact Nat.ne_of_gt (blk_lt (g := gb239) (o := .cells #[.int .u64 a0_0, .int .u64 a0_1] 24 (0, 0)) (by (with_reducible repeat (first | refine blk_drewN ?_ _ | refine blk_drew ?_ | refine blk_alloc ?_ _)); exact BK239.out)) : gb240 ≠ gb239)); clear BK239; clear HB; have BK239 := n0_; have HB := n1_; have BK240 := n2_; have GW240 := n3_; have GE240 := n4_; have NB239_240 := n5_; have NB240_239 := n6_; clear n0_ n1_ n2_ n3_ n4_ n5_ n6_; clear hb hbox hg) | ((with_reducible refine gate_callee (f := 52) rfl ?_); refine goesL_ (some 10) rfl rfl Try.func52 (by kernel_rfl) rfl #[.int .i64 a1, .int .i64 a2] rfl (by (try simp only [List.map_toArray, List.map_cons, List.map_nil]); first | done | rfl | (simp only [List.length_drop, List.length_take]; rfl)) ?_; (with_reducible refine (turnpikeref1_fits.calls a1 a2 true _ A4.out).mono ?_); rintro e w' ⟨rfl, ⟨nd, rfl⟩⟩; refine ⟨_, rfl, ?_⟩; (try (rw [drewN_self w9]; generalize hq_ : World.drewN w9 _ = w9; have n0_ : Aside0 (w9.heap[gb239]? = some (.cells #[.int .u64 a0_0, .int .u64 a0_1] 24 (0, 0))) := ⟨by rw [← hq_]; exact (by (with_reducible repeat (first | refine blk_drewN ?_ _ | refine blk_drew ?_ | refine blk_alloc ?_ _)); exact BK239.out)⟩; have n1_ : Aside0 (w9.heap[gb240]? = some (.cells #[.int .u64 0, .int .u64 0] 24 (0, 0))) := ⟨by rw [← hq_]; exact (by (with_reducible repeat (first | refine blk_drewN ?_ _ | refine blk_drew ?_ | refine blk_alloc ?_ _)); exact BK240.out)⟩; have n2_ : Aside0 (Below w.heap.size w w9) := ⟨by rw [← hq_]; exact (by repeat (first | (with_reducible first | exact HB.out | apply below_alloc | apply pw_below_drewN | apply below_drew1 | refine below_set ?_ GE239.out | refine below_set ?_ GE240.out) | exact HB.out))⟩; clear BK239 BK240 HB hq_; have BK239 := n0_; have BK240 := n1_; have HB := n2_; clear n0_ n1_ n2_)); have hnb10 := NB239_240.out; have hnc10 := NB240_239.out; have hcz11_0 : w9.cell? ⟨gb239, 0, none⟩ = some (.int .u64 a0_0) := (blk_cell BK239.out 0).trans rfl; have hcz11_1 : w9.cell? ⟨gb239, 1, none⟩ = some (.int .u64 a0_1) := (blk_cell BK239.out 1).trans rfl; have hfz11_0 := blk_frozen BK239.out 0; have hfz11_1 := blk_frozen BK239.out 1) | ((with_reducible refine gate_callee (f := 21) rfl ?_); refine goesL_ (some 15) rfl rfl Try.func21 (by kernel_rfl) rfl #[.agg #[.int .u64 a0_0, .int .u64 a0_1], .int .i64 a1] rfl (by (try simp only [List.map_toArray, List.map_cons, List.map_nil]); first | done | rfl | (simp only [List.length_drop, List.length_take]; rfl)) ?_; (with_reducible refine (turnpikeref1_Shl.calls a0_0 a0_1 a1 t242 t243 _ A6.out).mono ?_); rintro e w12 ⟨rfl, hb⟩; refine ⟨_, rfl, ?_⟩; have n0_ := Aside0.mk (blk_below (g := gb239) (o := .cells #[.int .u64 a0_0, .int .u64 a0_1] 24 (0, 0)) (by (with_reducible repeat (first | refine blk_drewN ?_ _ | refine blk_drew ?_ | refine blk_alloc ?_ _)); exact BK239.out) hb); have n1_ := Aside0.mk (blk_below (g := gb240) (o := .cells #[.int .u64 0, .int .u64 0] 24 (0, 0)) (by (with_reducible repeat (first | refine blk_drewN ?_ _ | refine blk_drew ?_ | refine blk_alloc ?_ _)); exact BK240.out) hb); have n2_ := Aside0.mk (below_step (by repeat (first | (with_reducible first | exact HB.out | apply below_alloc | apply pw_below_drewN | apply below_drew1 | refine below_set ?_ GE239.out | refine below_set ?_ GE240.out) | exact HB.out)) hb); clear BK239; clear BK240; clear HB; have BK239 := n0_; have BK240 := n1_; have HB := n2_; clear n0_ n1_ n2_; (try clear hb); (try clear hb2); (try clear hk); (try clear hi)) | ((with_reducible refine gate_callee (f := 23) rfl ?_); refine goesL_ (some 18) rfl rfl Try.func23 (by kernel_rfl) rfl #[.agg #[.int .u64 t242, .int .u64 t243], .int .i64 (wrap64 (128 - a2))] rfl (by (try simp only [List.map_toArray, List.map_cons, List.map_nil]); first | done | rfl | (simp only [List.length_drop, List.length_take]; rfl)) ?_; (with_reducible refine (turnpikeref1_Shr.calls t242 t243 (wrap64 (128 - a2)) t244 t245 _ A7.out).mono ?_); rintro e w13 ⟨rfl, hb⟩; refine ⟨_, rfl, ?_⟩; have n0_ := Aside0.mk (blk_below (g := gb239) (o := .cells #[.int .u64 a0_0, .int .u64 a0_1] 24 (0, 0)) (by (with_reducible repeat (first | refine blk_drewN ?_ _ | refine blk_drew ?_ | refine blk_alloc ?_ _)); exact BK239.out) hb); have n1_ := Aside0.mk (blk_below (g := gb240) (o := .cells #[.int .u64 0, .int .u64 0] 24 (0, 0)) (by (with_reducible repeat (first | refine blk_drewN ?_ _ | refine blk_drew ?_ | refine blk_alloc ?_ _)); exact BK240.out) hb); have n2_ := Aside0.mk (below_step (by repeat (first | (with_reducible first | exact HB.out | apply below_alloc | apply pw_below_drewN | apply below_drew1 | refine below_set ?_ GE239.out | refine below_set ?_ GE240.out) | exact HB.out)) hb); clear BK239; clear BK240; clear HB; have BK239 := n0_; have BK240 := n1_; have HB := n2_; clear n0_ n1_ n2_; (try clear hb); (try clear hb2); (try clear hk); (try clear hi); have hcz14_0 : w13.cell? ⟨gb240, 0, none⟩ = some (.int .u64 0) := (blk_cell BK240.out 0).trans rfl; have hcz14_1 : w13.cell? ⟨gb240, 1, none⟩ = some (.int .u64 0) := (blk_cell BK240.out 1).trans rfl; have hfz14_0 := blk_frozen BK240.out 0; have hfz14_1 := blk_frozen BK240.out 1))
    refine bodyPost_ret (results_ct rfl _ _ gb240 24 #[.int .u64 t244, .int .u64 t245] (0, 0) _ rfl (by (with_reducible repeat (first | refine blk_drewN ?_ _ | refine blk_drew ?_ | refine blk_alloc ?_ _)); refine blk_put (cs := #[.int .u64 t244, .int .u64 0]) ?_ 1 _ rfl; (with_reducible repeat (first | refine blk_drewN ?_ _ | refine blk_drew ?_ | refine blk_alloc ?_ _)); refine blk_put (cs := #[.int .u64 0, .int .u64 0]) ?_ 0 _ rfl; (with_reducible repeat (first | refine blk_drewN ?_ _ | refine blk_drew ?_ | refine blk_alloc ?_ _)); exact BK240.out) Try.underlying24 rfl (by kernel_rfl)) rfl ?_
    exact ⟨by first | rfl | (simp [errW_none, errW_some] <;> rfl) | (simp [*, errW_none, errW_some] <;> rfl), by repeat (first | (with_reducible first | exact HB.out | apply below_alloc | apply pw_below_drewN | apply below_drew1 | refine below_set ?_ GE239.out | refine below_set ?_ GE240.out) | exact HB.out)⟩
  · replace c5 := Bool.eq_false_iff.mpr c5
    subst c5
    have H1 : (some (0, 0, 1)) = some (r1, r2, r3) := by rw [if_neg (show ¬ (false = true) by decide)] at H; exact H
    clear H
    have H := H1
    clear H1
    simp only [Option.some.injEq, Prod.mk.injEq] at H
    obtain ⟨rfl, rfl, rfl⟩ := H
    go_enter Try.func32, Try.ntmps32
    go_wp2_with (first | ((with_reducible refine gate_dst (N := 3) rfl ?_); refine box_event ?hg (N := 3) ?hd (cs := #[.int .u64 a0_0, .int .u64 a0_1]) (t := 24) ?hr ?_; (case hd => rfl); (case hg => rfl); (case hr => first | (go_simp; done) | (go_simp; rfl)); intro gb239 hg w15 hbox hb; have n0_ := Aside0.mk (below_step (by repeat (first | (with_reducible first | exact HB.out | apply below_alloc | apply pw_below_drewN | apply below_drew1) | exact HB.out)) hb); have n1_ := Aside0.mk (hbox); have n2_ := Aside0.mk ((by rw [hg]; exact (below_size (by repeat (first | (with_reducible first | exact HB.out | apply below_alloc | apply pw_below_drewN | apply below_drew1) | exact HB.out))) : w.heap.size ≤ gb239)); have n3_ := Aside0.mk ((by rw [hg]; exact (below_size (by repeat (first | (with_reducible first | exact HB.out | apply below_alloc | apply pw_below_drewN | apply below_drew1) | exact HB.out))) : w.heap.size ≤ gb239)); clear HB; have HB := n0_; have BK239 := n1_; have GW239 := n2_; have GE239 := n3_; clear n0_ n1_ n2_ n3_; clear hb hbox hg) | ((with_reducible refine gate_dst (N := 6) rfl ?_); refine box_event ?hg (N := 6) ?hd (cs := #[.int .u64 0, .int .u64 0]) (t := 24) ?hr ?_; (case hd => rfl); (case hg => rfl); (case hr => first | (go_simp; done) | (go_simp; rfl)); intro gb240 hg w16 hbox hb; have n0_ := Aside0.mk (blk_below (g := gb239) (o := .cells #[.int .u64 a0_0, .int .u64 a0_1] 24 (0, 0)) (by (with_reducible repeat (first | refine blk_drewN ?_ _ | refine blk_drew ?_ | refine blk_alloc ?_ _)); exact BK239.out) hb); have n1_ := Aside0.mk (below_step (by repeat (first | (with_reducible first | exact HB.out | apply below_alloc | apply pw_below_drewN | apply below_drew1 | refine below_set ?_ GE239.out) | exact HB.out)) hb); have n2_ := Aside0.mk (hbox); have n3_ := Aside0.mk ((by rw [hg]; exact (below_size (by repeat (first | (with_reducible first | exact HB.out | apply below_alloc | apply pw_below_drewN | apply below_drew1 | refine below_set ?_ GE239.out) | exact HB.out))) : w.heap.size ≤ gb240)); have n4_ := Aside0.mk ((by rw [hg]; exact (below_size (by repeat (first | (with_reducible first | exact HB.out | apply below_alloc | apply pw_below_drewN | apply below_drew1 | refine below_set ?_ GE239.out) | exact HB.out))) : w.heap.size ≤ gb240)); have n5_ := Aside0.mk ((by rw [hg]; exact Nat.ne_of_lt (blk_lt (g := gb239) (o := .cells #[.int .u64 a0_0, .int .u64 a0_1] 24 (0, 0)) (by (with_reducible repeat (first | refine blk_drewN ?_ _ | refine blk_drew ?_ | refine blk_alloc ?_ _)); exact BK239.out)) : gb239 ≠ gb240)); have n6_ := Aside0.mk ((by rw [hg]; exact Nat.ne_of_gt (blk_lt (g := gb239) (o := .cells #[.int .u64 a0_0, .int .u64 a0_1] 24 (0, 0)) (by (with_reducible repeat (first | refine blk_drewN ?_ _ | refine blk_drew ?_ | refine blk_alloc ?_ _)); exact BK239.out)) : gb240 ≠ gb239)); clear BK239; clear HB; have BK239 := n0_; have HB := n1_; have BK240 := n2_; have GW240 := n3_; have GE240 := n4_; have NB239_240 := n5_; have NB240_239 := n6_; clear n0_ n1_ n2_ n3_ n4_ n5_ n6_; clear hb hbox hg) | ((with_reducible refine gate_callee (f := 52) rfl ?_); refine goesL_ (some 10) rfl rfl Try.func52 (by kernel_rfl) rfl #[.int .i64 a1, .int .i64 a2] rfl (by (try simp only [List.map_toArray, List.map_cons, List.map_nil]); first | done | rfl | (simp only [List.length_drop, List.length_take]; rfl)) ?_; (with_reducible refine (turnpikeref1_fits.calls a1 a2 false _ A4.out).mono ?_); rintro e w' ⟨rfl, ⟨nd, rfl⟩⟩; refine ⟨_, rfl, ?_⟩; (try (rw [drewN_self w16]; generalize hq_ : World.drewN w16 _ = w16; have n0_ : Aside0 (w16.heap[gb239]? = some (.cells #[.int .u64 a0_0, .int .u64 a0_1] 24 (0, 0))) := ⟨by rw [← hq_]; exact (by (with_reducible repeat (first | refine blk_drewN ?_ _ | refine blk_drew ?_ | refine blk_alloc ?_ _)); exact BK239.out)⟩; have n1_ : Aside0 (w16.heap[gb240]? = some (.cells #[.int .u64 0, .int .u64 0] 24 (0, 0))) := ⟨by rw [← hq_]; exact (by (with_reducible repeat (first | refine blk_drewN ?_ _ | refine blk_drew ?_ | refine blk_alloc ?_ _)); exact BK240.out)⟩; have n2_ : Aside0 (Below w.heap.size w w16) := ⟨by rw [← hq_]; exact (by repeat (first | (with_reducible first | exact HB.out | apply below_alloc | apply pw_below_drewN | apply below_drew1 | refine below_set ?_ GE239.out | refine below_set ?_ GE240.out) | exact HB.out))⟩; clear BK239 BK240 HB hq_; have BK239 := n0_; have BK240 := n1_; have HB := n2_; clear n0_ n1_ n2_)); have hnb17 := NB240_239.out; have hnc17 := NB239_240.out; have hcz18_0 : w16.cell? ⟨gb240, 0, none⟩ = some (.int .u64 0) := (blk_cell BK240.out 0).trans rfl; have hcz18_1 : w16.cell? ⟨gb240, 1, none⟩ = some (.int .u64 0) := (blk_cell BK240.out 1).trans rfl; have hfz18_0 := blk_frozen BK240.out 0; have hfz18_1 := blk_frozen BK240.out 1))
    refine bodyPost_ret (results_ct rfl _ _ gb240 24 #[.int .u64 0, .int .u64 0] (0, 0) _ rfl (by (with_reducible repeat (first | refine blk_drewN ?_ _ | refine blk_drew ?_ | refine blk_alloc ?_ _)); refine blk_put (cs := #[.int .u64 0, .int .u64 0]) ?_ 1 _ rfl; (with_reducible repeat (first | refine blk_drewN ?_ _ | refine blk_drew ?_ | refine blk_alloc ?_ _)); refine blk_put (cs := #[.int .u64 0, .int .u64 0]) ?_ 0 _ rfl; (with_reducible repeat (first | refine blk_drewN ?_ _ | refine blk_drew ?_ | refine blk_alloc ?_ _)); exact BK240.out) Try.underlying24 rfl (by kernel_rfl)) rfl ?_
    exact ⟨by first | rfl | (simp [errW_none, errW_some] <;> rfl) | (simp [*, errW_none, errW_some] <;> rfl), by repeat (first | (with_reducible first | exact HB.out | apply below_alloc | apply pw_below_drewN | apply below_drew1 | refine below_set ?_ GE239.out | refine below_set ?_ GE240.out) | exact HB.out)⟩

end Go.Proofs.Ytoobnnkneppgkaa.F
