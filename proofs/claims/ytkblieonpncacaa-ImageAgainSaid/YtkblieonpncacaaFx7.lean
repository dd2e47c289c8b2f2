-- Written by this session's px.sh, a turned copy of the print, out of the translation. Lean checks it.
import Derived.Test.YtkblieonpncacaaFx0
import Derived.Test.YtkblieonpncacaaFx2
import Derived.Test.YtkblieonpncacaaFx4
import Derived.Test.YtkblieonpncacaaFx5
import Derived.Test.YtkblieonpncacaaFx6
namespace Go.Proofs.Ytkblieonpncacaa.F
open Go.RowKit Go.Proofs.YtkblieonpncacaaW.PrintWords Go.Proofs.YtkblieonpncacaaW.PrintLast Go.Proofs.YtkblieonpncacaaW.PrintMore
attribute [local go_sem] max2_int min2_int max_two min_two max_three min_three max_four min_four   -- for this text's walks alone
set_option linter.unusedVariables false
set_option linter.unusedSimpArgs false

/-! ### image_Open: function 13 -/
/-- The reader's block, as it stands. -/
structure Rd (w0 : World) (g : Nat) (x0 x1 x2 x3 : Int) (A : Option Addr) (n c : Nat) (w : World) : Prop where
  mk ::
  bl : Below w0.heap.size w0 w
  ge : w0.heap.size ≤ g
  hp : w.heap[g]? = some (.cells #[.int .i64 x0, .int .i64 x1, .int .i64 x2, .int .i64 x3, .slice A n c] 57 (0, 0))
theorem Rd.below {w0 w w1 : World} {g : Nat} {x0 x1 x2 x3 : Int} {A : Option Addr} {n c : Nat} (h : Rd w0 g x0 x1 x2 x3 A n c w) (hb : Below w.heap.size w w1) : Rd w0 g x0 x1 x2 x3 A n c w1 := ⟨below_step h.bl hb, h.ge, blk_below h.hp hb⟩
theorem Rd.c0 {w0 w : World} {g : Nat} {x0 x1 x2 x3 : Int} {A : Option Addr} {n c : Nat} (h : Rd w0 g x0 x1 x2 x3 A n c w) : w.cell? ⟨g, 0, none⟩ = some (.int .i64 x0) := blk_cell h.hp 0
theorem Rd.c1 {w0 w : World} {g : Nat} {x0 x1 x2 x3 : Int} {A : Option Addr} {n c : Nat} (h : Rd w0 g x0 x1 x2 x3 A n c w) : w.cell? ⟨g, 1, none⟩ = some (.int .i64 x1) := blk_cell h.hp 1
theorem Rd.c2 {w0 w : World} {g : Nat} {x0 x1 x2 x3 : Int} {A : Option Addr} {n c : Nat} (h : Rd w0 g x0 x1 x2 x3 A n c w) : w.cell? ⟨g, 2, none⟩ = some (.int .i64 x2) := blk_cell h.hp 2
theorem Rd.c3 {w0 w : World} {g : Nat} {x0 x1 x2 x3 : Int} {A : Option Addr} {n c : Nat} (h : Rd w0 g x0 x1 x2 x3 A n c w) : w.cell? ⟨g, 3, none⟩ = some (.int .i64 x3) := blk_cell h.hp 3
theorem Rd.c4 {w0 w : World} {g : Nat} {x0 x1 x2 x3 : Int} {A : Option Addr} {n c : Nat} (h : Rd w0 g x0 x1 x2 x3 A n c w) : w.cell? ⟨g, 4, none⟩ = some (.slice A n c) := blk_cell h.hp 4
theorem Rd.fz {w0 w : World} {g : Nat} {x0 x1 x2 x3 : Int} {A : Option Addr} {n c : Nat} (h : Rd w0 g x0 x1 x2 x3 A n c w) (j : Nat) : w.frozen? ⟨g, j, none⟩ = false := blk_frozen h.hp j
theorem C_two {W : World} {b t e : Nat} {A1 A2 : Option Addr} {c1 c2 : Nat} {l1 l2 : List Int} (hb : W.heap[b]? = some (.cells #[.slice A1 l1.length c1, .slice A2 l2.length c2] t (0, 0))) (h1 : l1.length ≤ c1) (h2 : l2.length ≤ c2)
    (C1 : Kd.C (Kd.int .u8) W A1 l1.length l1) (C2 : Kd.C (Kd.int .u8) W A2 l2.length l2) : Kd.C (Kd.slice e (Kd.int .u8)) W (some ⟨b, 0, none⟩) ([l1, l2] : List (List Int)).length [l1, l2] := by
  refine ⟨rfl, by simp, fun _ => ⟨_, rfl, fun j p hp => ?_⟩⟩
  match j, hp with
  | 0, hp =>
    obtain rfl : l1 = p := by simpa using hp
    refine ⟨[.slice A1 l1.length c1], rfl, ⟨A1, c1, rfl, h1, C1⟩, fun i u hu => ?_⟩
    match i, hu with
    | 0, hu => obtain rfl : Value.slice A1 l1.length c1 = u := by simpa using hu
               exact blk_cell hb 0
    | i + 1, hu => simp at hu
  | 1, hp =>
    obtain rfl : l2 = p := by simpa using hp
    refine ⟨[.slice A2 l2.length c2], rfl, ⟨A2, c2, rfl, h2, C2⟩, fun i u hu => ?_⟩
    match i, hu with
    | 0, hu => obtain rfl : Value.slice A2 l2.length c2 = u := by simpa using hu
               exact blk_cell hb 1
    | i + 1, hu => simp at hu
  | j + 2, hp => simp at hp
theorem Rd.set {w0 w : World} {g : Nat} {x0 x1 x2 x3 : Int} {A : Option Addr} {n c : Nat} (h : Rd w0 g x0 x1 x2 x3 A n c w) (z0 z1 z2 z3 : Int) :
    Rd w0 g z0 z1 z2 z3 A n c ((((w.setCell ⟨g, 0, none⟩ (.int .i64 z0)).setCell ⟨g, 1, none⟩ (.int .i64 z1)).setCell ⟨g, 2, none⟩ (.int .i64 z2)).setCell ⟨g, 3, none⟩ (.int .i64 z3)) :=
  ⟨below_set (below_set (below_set (below_set h.bl h.ge) h.ge) h.ge) h.ge, h.ge, blk_put (blk_put (blk_put (blk_put h.hp 0 _ rfl) 1 _ rfl) 2 _ rfl) 3 _ rfl⟩
theorem Rd.drew {w0 w : World} {g : Nat} {x0 x1 x2 x3 : Int} {A : Option Addr} {n c : Nat} (h : Rd w0 g x0 x1 x2 x3 A n c w) : Rd w0 g x0 x1 x2 x3 A n c w.drew := ⟨below_drew h.bl, h.ge, h.hp⟩
theorem Rd.S {w0 w : World} {g : Nat} {x0 x1 x2 x3 : Int} {A : Option Addr} {n c : Nat} (h : Rd w0 g x0 x1 x2 x3 A n c w) {a b : Addr} {u v : Value} (ha : w0.cell? a = some u) (hb : w0.cell? b = some v) :
    w.cell? ⟨g, 4, none⟩ = some (.slice A n c) ∧ w.cell? a = some u ∧ w.cell? b = some v := ⟨h.c4, pw_cell_below h.bl ha, pw_cell_below h.bl hb⟩
theorem pw_cell_below' {w0 w : World} (h : Below w0.heap.size w0 w) {a : Addr} {v : Value} (hc : w0.cell? a = some v) : w.cell? a = some v := pw_cell_below h hc
set_option maxHeartbeats 8000000 in
set_option maxRecDepth 100000 in
theorem image_open_short (k : Nat) (g : Nat) (A : Option Addr) (c0 : Nat) (l : List Int) (w0 w : World) (hr0 : Kd.C (Kd.int .u8) w0 A l.length l) (hc0 : l.length ≤ c0) (hrd : Rd w0 g 0 0 0 0 A l.length c0 w) (hl : l.length < 16) :
    Calls Try.prog 28 #[.pointer (some ⟨g, 0, none⟩)] w fun e w' => ∃ v, e = .returned (.tuple #[v, .int .i64 22]) ∧ Below w0.heap.size w0 w' := by
  have HR := Aside0.mk hr0
  have HC := Aside0.mk hc0
  have RD := Aside0.mk hrd
  clear hr0 hc0 hrd
  have k0 := RD.out.c0
  have k1 := RD.out.c1
  have k2 := RD.out.c2
  have k3 := RD.out.c3
  have k4 := RD.out.c4
  have hd16 : decide ((l.length : Int) < 16) = true := decide_eq_true (by omega)
  have hd16n : decide (l.length < 16) = true := decide_eq_true (by omega)
  go_enter Try.func28, Try.ntmps28
  go_wp2
  go_ret2
  exact ⟨_, rfl, RD.out.bl⟩

set_option maxHeartbeats 8000000 in
set_option maxRecDepth 100000 in
theorem image_open_magic (k : Nat) (g : Nat) (A : Option Addr) (c0 : Nat) (l : List Int) (w0 w : World) (hr0 : Kd.C (Kd.int .u8) w0 A l.length l) (hc0 : l.length ≤ c0) (hrd : Rd w0 g 0 0 0 0 A l.length c0 w) (hl : 16 ≤ l.length) (hm : ¬ (strOfNums (l.take 4)).toList = ([84, 80, 75, 49] : List UInt8)) :
    Calls Try.prog 28 #[.pointer (some ⟨g, 0, none⟩)] w fun e w' => ∃ v, e = .returned (.tuple #[v, .int .i64 21]) ∧ Below w0.heap.size w0 w' := by
  have HR := Aside0.mk hr0
  have HC := Aside0.mk hc0
  have RD := Aside0.mk hrd
  clear hr0 hc0 hrd
  have k0 := RD.out.c0
  have k1 := RD.out.c1
  have k2 := RD.out.c2
  have k3 := RD.out.c3
  have k4 := RD.out.c4
  have HM := Aside0.mk hm
  clear hm
  have hl64 : (l.length : Int) ≤ 9223372036854775807 := by have := HR.out.2.1; omega
  obtain ⟨i026, hi026, _, hsz26, _⟩ := info_parts info5
  obtain ⟨hcut26, hA26, hC26⟩ := print_take_of (P := Try.prog) (Value.int .u8) 0 24 5 .i64 Try.underlying24 hi026 hsz26 A c0 l 4 (by omega) (by omega) HC.out
  have HR4 := Aside0.mk (Kd.C_of_reads (h1 := fun _ => rfl) (hA26 _ (Kd.reads_of_C HR.out)))
  rw [show (4 : Int).toNat = 4 from rfl] at hcut26
  have HR4 := Aside0.mk (show Kd.C (Kd.int .u8) w0 A (l.take 4).length (l.take 4) from HR4.out)
  obtain ⟨l4, hl4⟩ : ∃ l4, l4 = l.take 4 := ⟨_, rfl⟩
  rw [← hl4] at hcut26
  have HR4 := Aside0.mk (hl4 ▸ HR4.out)
  have HM := Aside0.mk (hl4 ▸ HM.out)
  have hl4A := Aside0.mk hl4
  clear hl4 hA26 hC26
  have hcv1 := Kd.C_string (P := Try.prog) (A := A) (c := c0) Try.underlying24 Try.underlying5 Try.underlying9 (Kd.C_below HR4.out RD.out.bl)
  have hmb : ((strOfNums l4).toList != ([84, 80, 75, 49] : List UInt8)) = true := bne_iff_ne.mpr HM.out
  have hmb2 : ((strOfNums l4).toList == ([84, 80, 75, 49] : List UInt8)) = false := beq_eq_false_iff_ne.mpr HM.out
  have hd16 : decide ((l.length : Int) < 16) = false := decide_eq_false (by omega)
  have hd16n : decide (l.length < 16) = false := decide_eq_false (by omega)
  go_enter Try.func28, Try.ntmps28
  go_wp2
  go_ret2
  exact ⟨_, rfl, RD.out.bl⟩

set_option maxHeartbeats 8000000 in
set_option maxRecDepth 100000 in
theorem image_open_wrong (k : Nat) (g : Nat) (A : Option Addr) (c0 : Nat) (l : List Int) (w0 w : World) (hr0 : Kd.C (Kd.int .u8) w0 A l.length l) (hc0 : l.length ≤ c0) (hrd : Rd w0 g 0 0 0 0 A l.length c0 w) (s1 n1 q1 s2 n2 q2 : Int) (hl : 16 ≤ l.length) (hm : (strOfNums (l.take 4)).toList = ([84, 80, 75, 49] : List UInt8))
    (hs : wire_Get16.f l 6 = some (s1, s2)) (hn : wire_Get32.f l 8 = some (n1, n2)) (hq : wire_Get32.f l 12 = some (q1, q2)) (r : Int) (hw : image_head_wrong.f k (wrap64 (rd l 4)) (wrap64 (rd l 5)) (wrap64 s1) (wrap64 n1) = some r) (x3 : Int) (hx3 : wrap64 n1 = x3) (hr : ¬ r = 0) :
    Calls Try.prog 28 #[.pointer (some ⟨g, 0, none⟩)] w fun e w' => ∃ v, e = .returned (.tuple #[v, .int .i64 r]) ∧ Below w0.heap.size w0 w' := by
  have HR := Aside0.mk hr0
  have HC := Aside0.mk hc0
  have HM := Aside0.mk hm
  have HS := Aside0.mk hs
  have HN := Aside0.mk hn
  have HQ := Aside0.mk hq
  have RD := Aside0.mk hrd
  have HW := Aside0.mk hw
  have HX3 := Aside0.mk hx3
  clear hr0 hc0 hm hs hn hq hrd hw hx3
  have hl64 : (l.length : Int) ≤ 9223372036854775807 := by have := HR.out.2.1; omega
  have k0 := RD.out.c0
  have k1 := RD.out.c1
  have k2 := RD.out.c2
  have k3 := RD.out.c3
  have k4 := RD.out.c4
  have hrb : (r == 0) = false := beq_eq_false_iff_ne.mpr hr
  have hrn : (r != 0) = true := bne_iff_ne.mpr hr
  obtain ⟨i026, hi026, _, hsz26, _⟩ := info_parts info5
  obtain ⟨hcut26, hA26, hC26⟩ := print_take_of (P := Try.prog) (Value.int .u8) 0 24 5 .i64 Try.underlying24 hi026 hsz26 A c0 l 4 (by omega) (by omega) HC.out
  have HR4 := Aside0.mk (Kd.C_of_reads (h1 := fun _ => rfl) (hA26 _ (Kd.reads_of_C HR.out)))
  rw [show (4 : Int).toNat = 4 from rfl] at hcut26
  have HR4 := Aside0.mk (show Kd.C (Kd.int .u8) w0 A (l.take 4).length (l.take 4) from HR4.out)
  obtain ⟨l4, hl4⟩ : ∃ l4, l4 = l.take 4 := ⟨_, rfl⟩
  rw [← hl4] at hcut26
  have HR4 := Aside0.mk (hl4 ▸ HR4.out)
  have HM := Aside0.mk (hl4 ▸ HM.out)
  have hl4A := Aside0.mk hl4
  clear hl4 hA26 hC26
  have hcv1 := Kd.C_string (P := Try.prog) (A := A) (c := c0) Try.underlying24 Try.underlying5 Try.underlying9 (Kd.C_below HR4.out RD.out.bl)
  have hmb : ((strOfNums l4).toList != ([84, 80, 75, 49] : List UInt8)) = false := bne_eq_false_iff_eq.mpr HM.out
  have hmb2 : ((strOfNums l4).toList == ([84, 80, 75, 49] : List UInt8)) = true := beq_iff_eq.mpr HM.out
  have hd16 : decide ((l.length : Int) < 16) = false := decide_eq_false (by omega)
  have hd16n : decide (l.length < 16) = false := decide_eq_false (by omega)
  obtain ⟨ad, cA, hA, hcl4, hK4, hcell4⟩ := Kd.C_get HR.out (0 : Int) 4 (by omega) (by omega)
  obtain ⟨ad', cA', hA', hcl5, hK5, hcell5⟩ := Kd.C_get HR.out (0 : Int) 5 (by omega) (by omega)
  subst hA
  obtain rfl := Option.some.inj hA'
  have e4 : cA = [Value.int .u8 (l.getD 4 0)] := hK4
  have e5 : cA' = [Value.int .u8 (l.getD 5 0)] := hK5
  subst e4
  subst e5
  have b4 := Aside0.mk (hcell4 0 _ rfl)
  have b5 := Aside0.mk (hcell5 0 _ rfl)
  have z1 : (Kd.int .u8).sz = 1 := rfl
  obtain ⟨v4, hv4⟩ : ∃ v4, v4 = l.getD 4 0 := ⟨_, rfl⟩
  obtain ⟨v5, hv5⟩ : ∃ v5, v5 = l.getD 5 0 := ⟨_, rfl⟩
  have b4 : Aside0 (w0.cell? ⟨ad.block, ad.off + 4, none⟩ = some (.int .u8 v4)) := ⟨hv4 ▸ b4.out⟩
  have b5 : Aside0 (w0.cell? ⟨ad.block, ad.off + 5, none⟩ = some (.int .u8 v5)) := ⟨hv5 ▸ b5.out⟩
  have HW : Aside0 (image_head_wrong.f k (wrap64 v4) (wrap64 v5) (wrap64 s1) (wrap64 n1) = some r) := ⟨by rw [hv4, hv5]; exact HW.out⟩
  have HV4 := Aside0.mk (show rd l 4 = v4 by rw [hv4]; rfl)
  have HV5 := Aside0.mk (show rd l 5 = v5 by rw [hv5]; rfl)
  clear hv4 hv5
  clear hi026 hsz26
  go_enter Try.func28, Try.ntmps28
  go_wp2_with (first | (go_at_call 36; (with_reducible refine (wire_Get16.calls (some ad) c0 l 6 s1 s2 _ ?hr1 ?hc1 HS.out).mono ?_); (case hr1 => exact Kd.C_below HR.out RD.out.bl); (case hc1 => exact HC.out); rintro e w1 ⟨rfl, hd1⟩; have RD1 := Aside0.mk (RD.out.below hd1.below); have y0 := RD1.out.c0; have y1 := RD1.out.c1; have y2 := RD1.out.c2; have y3 := RD1.out.c3; have y4 := RD1.out.c4; clear hd1) | (go_at_call 37; (with_reducible refine (wire_Get32.calls (some ad) c0 l 8 n1 n2 _ ?hr2 ?hc2 HN.out).mono ?_); (case hr2 => exact Kd.C_below HR.out RD1.out.bl); (case hc2 => exact HC.out); rintro e w2 ⟨rfl, hd2⟩; have RD2 := Aside0.mk (RD1.out.below hd2.below); have y0 := RD2.out.c0; have y1 := RD2.out.c1; have y2 := RD2.out.c2; have y3 := RD2.out.c3; have y4 := RD2.out.c4; clear hd2) | (go_at_call 37; (with_reducible refine (wire_Get32.calls (some ad) c0 l 12 q1 q2 _ ?hr3 ?hc3 HQ.out).mono ?_); (case hr3 => exact Kd.C_below HR.out RD2.out.bl); (case hc3 => exact HC.out); rintro e w3 ⟨rfl, hd3⟩; have RD3 := Aside0.mk (RD2.out.below hd3.below); have y0 := RD3.out.c0; have y1 := RD3.out.c1; have y2 := RD3.out.c2; have y3 := RD3.out.c3; have y4 := RD3.out.c4; clear hd3))
  have b4w := pw_cell_below' RD3.out.bl b4.out
  have b5w := pw_cell_below' RD3.out.bl b5.out
  have fz0 := RD3.out.fz 0
  have fz1 := RD3.out.fz 1
  have fz2 := RD3.out.fz 2
  have fz3 := RD3.out.fz 3
  have hgl : g < w3.heap.size := blk_lt RD3.out.hp
  have hl4i : (4 : Int) < (l.length : Int) := by omega
  have hl5i : (5 : Int) < (l.length : Int) := by omega
  go_region_held3 (fun w' => w'.cell? ⟨g, 4, none⟩ = some (.slice (some ad) l.length c0) ∧ w'.cell? ⟨ad.block, ad.off + 4, none⟩ = some (.int .u8 v4) ∧ w'.cell? ⟨ad.block, ad.off + 5, none⟩ = some (.int .u8 v5)) (first | exact ⟨y4, b4w, b5w⟩ | exact Rd.S (Rd.drew (Rd.set RD3.out _ _ _ _)) b4.out b5.out | go_keep) (fail)
  have RD4 := Aside0.mk (Rd.drew (Rd.set RD3.out (IntKind.i64.wrap v4) (IntKind.i64.wrap v5) (IntKind.i64.wrap s1) (IntKind.i64.wrap n1)))
  generalize hw4 : World.drew _ = w4 at RD4 ⊢
  have RD4 : Aside0 (Rd w0 g (wrap64 v4) (wrap64 v5) (wrap64 s1) x3 (some ad) l.length c0 w4) := ⟨by have z := RD4.out; rw [IntWalk.i64_left, IntWalk.i64_left, IntWalk.i64_left, IntWalk.i64_left, HX3.out] at z; exact z⟩
  have HW : Aside0 (image_head_wrong.f k (wrap64 v4) (wrap64 v5) (wrap64 s1) x3 = some r) := ⟨by rw [← HX3.out]; exact HW.out⟩
  clear hw4 y0 y1 y2 y3 y4 b4w b5w fz0 fz1 fz2 fz3 hgl
  have y0 := RD4.out.c0
  have y1 := RD4.out.c1
  have y2 := RD4.out.c2
  have y3 := RD4.out.c3
  have y4 := RD4.out.c4
  go_wp2_with (first | (go_at_call 19; (with_reducible refine (image_head_wrong.calls k (wrap64 v4) (wrap64 v5) (wrap64 s1) x3 r _ HW.out).mono ?_); rintro e w5 ⟨rfl, hb5⟩; have RD5 := Aside0.mk (RD4.out.below hb5); have y0 := RD5.out.c0; have y1 := RD5.out.c1; have y2 := RD5.out.c2; have y3 := RD5.out.c3; have y4 := RD5.out.c4; clear hb5))
  go_ret2
  exact ⟨_, rfl, RD5.out.bl⟩

set_option maxHeartbeats 8000000 in
set_option maxRecDepth 100000 in
theorem image_open_big (k : Nat) (g : Nat) (A : Option Addr) (c0 : Nat) (l : List Int) (w0 w : World) (hr0 : Kd.C (Kd.int .u8) w0 A l.length l) (hc0 : l.length ≤ c0) (hrd : Rd w0 g 0 0 0 0 A l.length c0 w) (s1 n1 q1 s2 n2 q2 : Int) (hl : 16 ≤ l.length) (hm : (strOfNums (l.take 4)).toList = ([84, 80, 75, 49] : List UInt8))
    (hs : wire_Get16.f l 6 = some (s1, s2)) (hn : wire_Get32.f l 8 = some (n1, n2)) (hq : wire_Get32.f l 12 = some (q1, q2)) (hw : image_head_wrong.f k (wrap64 (rd l 4)) (wrap64 (rd l 5)) (wrap64 s1) (wrap64 n1) = some 0) (hbig : image_head_big.f (wrap64 (rd l 4)) (wrap64 (rd l 5)) (wrap64 s1) (wrap64 n1) = some true) (x3 : Int) (hx3 : wrap64 n1 = x3) :
    Calls Try.prog 28 #[.pointer (some ⟨g, 0, none⟩)] w fun e w' => ∃ v, e = .returned (.tuple #[v, .int .i64 18]) ∧ Below w0.heap.size w0 w' := by
  have HR := Aside0.mk hr0
  have HC := Aside0.mk hc0
  have HM := Aside0.mk hm
  have HS := Aside0.mk hs
  have HN := Aside0.mk hn
  have HQ := Aside0.mk hq
  have RD := Aside0.mk hrd
  have HW := Aside0.mk hw
  have HBG := Aside0.mk hbig
  have HX3 := Aside0.mk hx3
  clear hr0 hc0 hm hs hn hq hrd hw hbig hx3
  have hl64 : (l.length : Int) ≤ 9223372036854775807 := by have := HR.out.2.1; omega
  have k0 := RD.out.c0
  have k1 := RD.out.c1
  have k2 := RD.out.c2
  have k3 := RD.out.c3
  have k4 := RD.out.c4
  obtain ⟨i026, hi026, _, hsz26, _⟩ := info_parts info5
  obtain ⟨hcut26, hA26, hC26⟩ := print_take_of (P := Try.prog) (Value.int .u8) 0 24 5 .i64 Try.underlying24 hi026 hsz26 A c0 l 4 (by omega) (by omega) HC.out
  have HR4 := Aside0.mk (Kd.C_of_reads (h1 := fun _ => rfl) (hA26 _ (Kd.reads_of_C HR.out)))
  rw [show (4 : Int).toNat = 4 from rfl] at hcut26
  have HR4 := Aside0.mk (show Kd.C (Kd.int .u8) w0 A (l.take 4).length (l.take 4) from HR4.out)
  obtain ⟨l4, hl4⟩ : ∃ l4, l4 = l.take 4 := ⟨_, rfl⟩
  rw [← hl4] at hcut26
  have HR4 := Aside0.mk (hl4 ▸ HR4.out)
  have HM := Aside0.mk (hl4 ▸ HM.out)
  have hl4A := Aside0.mk hl4
  clear hl4 hA26 hC26
  have hcv1 := Kd.C_string (P := Try.prog) (A := A) (c := c0) Try.underlying24 Try.underlying5 Try.underlying9 (Kd.C_below HR4.out RD.out.bl)
  have hmb : ((strOfNums l4).toList != ([84, 80, 75, 49] : List UInt8)) = false := bne_eq_false_iff_eq.mpr HM.out
  have hmb2 : ((strOfNums l4).toList == ([84, 80, 75, 49] : List UInt8)) = true := beq_iff_eq.mpr HM.out
  have hd16 : decide ((l.length : Int) < 16) = false := decide_eq_false (by omega)
  have hd16n : decide (l.length < 16) = false := decide_eq_false (by omega)
  obtain ⟨ad, cA, hA, hcl4, hK4, hcell4⟩ := Kd.C_get HR.out (0 : Int) 4 (by omega) (by omega)
  obtain ⟨ad', cA', hA', hcl5, hK5, hcell5⟩ := Kd.C_get HR.out (0 : Int) 5 (by omega) (by omega)
  subst hA
  obtain rfl := Option.some.inj hA'
  have e4 : cA = [Value.int .u8 (l.getD 4 0)] := hK4
  have e5 : cA' = [Value.int .u8 (l.getD 5 0)] := hK5
  subst e4
  subst e5
  have b4 := Aside0.mk (hcell4 0 _ rfl)
  have b5 := Aside0.mk (hcell5 0 _ rfl)
  have z1 : (Kd.int .u8).sz = 1 := rfl
  obtain ⟨v4, hv4⟩ : ∃ v4, v4 = l.getD 4 0 := ⟨_, rfl⟩
  obtain ⟨v5, hv5⟩ : ∃ v5, v5 = l.getD 5 0 := ⟨_, rfl⟩
  have b4 : Aside0 (w0.cell? ⟨ad.block, ad.off + 4, none⟩ = some (.int .u8 v4)) := ⟨hv4 ▸ b4.out⟩
  have b5 : Aside0 (w0.cell? ⟨ad.block, ad.off + 5, none⟩ = some (.int .u8 v5)) := ⟨hv5 ▸ b5.out⟩
  have HW : Aside0 (image_head_wrong.f k (wrap64 v4) (wrap64 v5) (wrap64 s1) (wrap64 n1) = some 0) := ⟨by rw [hv4, hv5]; exact HW.out⟩
  have HBG : Aside0 (image_head_big.f (wrap64 v4) (wrap64 v5) (wrap64 s1) (wrap64 n1) = some true) := ⟨by rw [hv4, hv5]; exact HBG.out⟩
  have HV4 := Aside0.mk (show rd l 4 = v4 by rw [hv4]; rfl)
  have HV5 := Aside0.mk (show rd l 5 = v5 by rw [hv5]; rfl)
  clear hv4 hv5
  clear hi026 hsz26
  go_enter Try.func28, Try.ntmps28
  go_wp2_with (first | (go_at_call 36; (with_reducible refine (wire_Get16.calls (some ad) c0 l 6 s1 s2 _ ?hr1 ?hc1 HS.out).mono ?_); (case hr1 => exact Kd.C_below HR.out RD.out.bl); (case hc1 => exact HC.out); rintro e w1 ⟨rfl, hd1⟩; have RD1 := Aside0.mk (RD.out.below hd1.below); have y0 := RD1.out.c0; have y1 := RD1.out.c1; have y2 := RD1.out.c2; have y3 := RD1.out.c3; have y4 := RD1.out.c4; clear hd1) | (go_at_call 37; (with_reducible refine (wire_Get32.calls (some ad) c0 l 8 n1 n2 _ ?hr2 ?hc2 HN.out).mono ?_); (case hr2 => exact Kd.C_below HR.out RD1.out.bl); (case hc2 => exact HC.out); rintro e w2 ⟨rfl, hd2⟩; have RD2 := Aside0.mk (RD1.out.below hd2.below); have y0 := RD2.out.c0; have y1 := RD2.out.c1; have y2 := RD2.out.c2; have y3 := RD2.out.c3; have y4 := RD2.out.c4; clear hd2) | (go_at_call 37; (with_reducible refine (wire_Get32.calls (some ad) c0 l 12 q1 q2 _ ?hr3 ?hc3 HQ.out).mono ?_); (case hr3 => exact Kd.C_below HR.out RD2.out.bl); (case hc3 => exact HC.out); rintro e w3 ⟨rfl, hd3⟩; have RD3 := Aside0.mk (RD2.out.below hd3.below); have y0 := RD3.out.c0; have y1 := RD3.out.c1; have y2 := RD3.out.c2; have y3 := RD3.out.c3; have y4 := RD3.out.c4; clear hd3))
  have b4w := pw_cell_below' RD3.out.bl b4.out
  have b5w := pw_cell_below' RD3.out.bl b5.out
  have fz0 := RD3.out.fz 0
  have fz1 := RD3.out.fz 1
  have fz2 := RD3.out.fz 2
  have fz3 := RD3.out.fz 3
  have hgl : g < w3.heap.size := blk_lt RD3.out.hp
  have hl4i : (4 : Int) < (l.length : Int) := by omega
  have hl5i : (5 : Int) < (l.length : Int) := by omega
  go_region_held3 (fun w' => w'.cell? ⟨g, 4, none⟩ = some (.slice (some ad) l.length c0) ∧ w'.cell? ⟨ad.block, ad.off + 4, none⟩ = some (.int .u8 v4) ∧ w'.cell? ⟨ad.block, ad.off + 5, none⟩ = some (.int .u8 v5)) (first | exact ⟨y4, b4w, b5w⟩ | exact Rd.S (Rd.drew (Rd.set RD3.out _ _ _ _)) b4.out b5.out | go_keep) (fail)
  have RD4 := Aside0.mk (Rd.drew (Rd.set RD3.out (IntKind.i64.wrap v4) (IntKind.i64.wrap v5) (IntKind.i64.wrap s1) (IntKind.i64.wrap n1)))
  generalize hw4 : World.drew _ = w4 at RD4 ⊢
  have RD4 : Aside0 (Rd w0 g (wrap64 v4) (wrap64 v5) (wrap64 s1) x3 (some ad) l.length c0 w4) := ⟨by have z := RD4.out; rw [IntWalk.i64_left, IntWalk.i64_left, IntWalk.i64_left, IntWalk.i64_left, HX3.out] at z; exact z⟩
  have HW : Aside0 (image_head_wrong.f k (wrap64 v4) (wrap64 v5) (wrap64 s1) x3 = some 0) := ⟨by rw [← HX3.out]; exact HW.out⟩
  have HBG : Aside0 (image_head_big.f (wrap64 v4) (wrap64 v5) (wrap64 s1) x3 = some true) := ⟨by rw [← HX3.out]; exact HBG.out⟩
  clear hw4 y0 y1 y2 y3 y4 b4w b5w fz0 fz1 fz2 fz3 hgl
  have y0 := RD4.out.c0
  have y1 := RD4.out.c1
  have y2 := RD4.out.c2
  have y3 := RD4.out.c3
  have y4 := RD4.out.c4
  go_wp2_with (first | (go_at_call 19; (with_reducible refine (image_head_wrong.calls k (wrap64 v4) (wrap64 v5) (wrap64 s1) x3 0 _ HW.out).mono ?_); rintro e w5 ⟨rfl, hb5⟩; have RD5 := Aside0.mk (RD4.out.below hb5); have y0 := RD5.out.c0; have y1 := RD5.out.c1; have y2 := RD5.out.c2; have y3 := RD5.out.c3; have y4 := RD5.out.c4; clear hb5) | (go_at_call 20; (with_reducible refine (image_head_big.calls (wrap64 v4) (wrap64 v5) (wrap64 s1) x3 true _ HBG.out).mono ?_); rintro e w6 ⟨rfl, hb6⟩; have RD6 := Aside0.mk (RD5.out.below hb6); have y0 := RD6.out.c0; have y1 := RD6.out.c1; have y2 := RD6.out.c2; have y3 := RD6.out.c3; have y4 := RD6.out.c4; clear hb6))
  go_ret2
  exact ⟨_, rfl, RD6.out.bl⟩

set_option maxHeartbeats 8000000 in
set_option maxRecDepth 100000 in
theorem image_open_cut (k : Nat) (g : Nat) (A : Option Addr) (c0 : Nat) (l : List Int) (w0 w : World) (hr0 : Kd.C (Kd.int .u8) w0 A l.length l) (hc0 : l.length ≤ c0) (hrd : Rd w0 g 0 0 0 0 A l.length c0 w) (s1 n1 q1 s2 n2 q2 : Int) (hl : 16 ≤ l.length) (hm : (strOfNums (l.take 4)).toList = ([84, 80, 75, 49] : List UInt8))
    (hs : wire_Get16.f l 6 = some (s1, s2)) (hn : wire_Get32.f l 8 = some (n1, n2)) (hq : wire_Get32.f l 12 = some (q1, q2)) (hw : image_head_wrong.f k (wrap64 (rd l 4)) (wrap64 (rd l 5)) (wrap64 s1) (wrap64 n1) = some 0) (hbig : image_head_big.f (wrap64 (rd l 4)) (wrap64 (rd l 5)) (wrap64 s1) (wrap64 n1) = some false) (x3 : Int) (hx3 : wrap64 n1 = x3) (hx1 : ((l.length : Int) - 16) / 4 < x3) :
    Calls Try.prog 28 #[.pointer (some ⟨g, 0, none⟩)] w fun e w' => ∃ v, e = .returned (.tuple #[v, .int .i64 22]) ∧ Below w0.heap.size w0 w' := by
  have HR := Aside0.mk hr0
  have HC := Aside0.mk hc0
  have HM := Aside0.mk hm
  have HS := Aside0.mk hs
  have HN := Aside0.mk hn
  have HQ := Aside0.mk hq
  have RD := Aside0.mk hrd
  have HW := Aside0.mk hw
  have HBG := Aside0.mk hbig
  have HX3 := Aside0.mk hx3
  clear hr0 hc0 hm hs hn hq hrd hw hbig hx3
  have hl64 : (l.length : Int) ≤ 9223372036854775807 := by have := HR.out.2.1; omega
  have k0 := RD.out.c0
  have k1 := RD.out.c1
  have k2 := RD.out.c2
  have k3 := RD.out.c3
  have k4 := RD.out.c4
  obtain ⟨i026, hi026, _, hsz26, _⟩ := info_parts info5
  obtain ⟨hcut26, hA26, hC26⟩ := print_take_of (P := Try.prog) (Value.int .u8) 0 24 5 .i64 Try.underlying24 hi026 hsz26 A c0 l 4 (by omega) (by omega) HC.out
  have HR4 := Aside0.mk (Kd.C_of_reads (h1 := fun _ => rfl) (hA26 _ (Kd.reads_of_C HR.out)))
  rw [show (4 : Int).toNat = 4 from rfl] at hcut26
  have HR4 := Aside0.mk (show Kd.C (Kd.int .u8) w0 A (l.take 4).length (l.take 4) from HR4.out)
  obtain ⟨l4, hl4⟩ : ∃ l4, l4 = l.take 4 := ⟨_, rfl⟩
  rw [← hl4] at hcut26
  have HR4 := Aside0.mk (hl4 ▸ HR4.out)
  have HM := Aside0.mk (hl4 ▸ HM.out)
  have hl4A := Aside0.mk hl4
  clear hl4 hA26 hC26
  have hcv1 := Kd.C_string (P := Try.prog) (A := A) (c := c0) Try.underlying24 Try.underlying5 Try.underlying9 (Kd.C_below HR4.out RD.out.bl)
  have hmb : ((strOfNums l4).toList != ([84, 80, 75, 49] : List UInt8)) = false := bne_eq_false_iff_eq.mpr HM.out
  have hmb2 : ((strOfNums l4).toList == ([84, 80, 75, 49] : List UInt8)) = true := beq_iff_eq.mpr HM.out
  have hd16 : decide ((l.length : Int) < 16) = false := decide_eq_false (by omega)
  have hd16n : decide (l.length < 16) = false := decide_eq_false (by omega)
  obtain ⟨ad, cA, hA, hcl4, hK4, hcell4⟩ := Kd.C_get HR.out (0 : Int) 4 (by omega) (by omega)
  obtain ⟨ad', cA', hA', hcl5, hK5, hcell5⟩ := Kd.C_get HR.out (0 : Int) 5 (by omega) (by omega)
  subst hA
  obtain rfl := Option.some.inj hA'
  have e4 : cA = [Value.int .u8 (l.getD 4 0)] := hK4
  have e5 : cA' = [Value.int .u8 (l.getD 5 0)] := hK5
  subst e4
  subst e5
  have b4 := Aside0.mk (hcell4 0 _ rfl)
  have b5 := Aside0.mk (hcell5 0 _ rfl)
  have z1 : (Kd.int .u8).sz = 1 := rfl
  obtain ⟨v4, hv4⟩ : ∃ v4, v4 = l.getD 4 0 := ⟨_, rfl⟩
  obtain ⟨v5, hv5⟩ : ∃ v5, v5 = l.getD 5 0 := ⟨_, rfl⟩
  have b4 : Aside0 (w0.cell? ⟨ad.block, ad.off + 4, none⟩ = some (.int .u8 v4)) := ⟨hv4 ▸ b4.out⟩
  have b5 : Aside0 (w0.cell? ⟨ad.block, ad.off + 5, none⟩ = some (.int .u8 v5)) := ⟨hv5 ▸ b5.out⟩
  have HW : Aside0 (image_head_wrong.f k (wrap64 v4) (wrap64 v5) (wrap64 s1) (wrap64 n1) = some 0) := ⟨by rw [hv4, hv5]; exact HW.out⟩
  have HBG : Aside0 (image_head_big.f (wrap64 v4) (wrap64 v5) (wrap64 s1) (wrap64 n1) = some false) := ⟨by rw [hv4, hv5]; exact HBG.out⟩
  have HV4 := Aside0.mk (show rd l 4 = v4 by rw [hv4]; rfl)
  have HV5 := Aside0.mk (show rd l 5 = v5 by rw [hv5]; rfl)
  clear hv4 hv5
  clear hi026 hsz26
  have ex3 : IntKind.i64.wrap ((l.length : Int) - 16) = (l.length : Int) - 16 := IntWalk.i64_in _ (by omega)
  have hgt : decide (((l.length : Int) - 16) / 4 < x3) = true := decide_eq_true (by omega)
  go_enter Try.func28, Try.ntmps28
  go_wp2_with (first | (go_at_call 36; (with_reducible refine (wire_Get16.calls (some ad) c0 l 6 s1 s2 _ ?hr1 ?hc1 HS.out).mono ?_); (case hr1 => exact Kd.C_below HR.out RD.out.bl); (case hc1 => exact HC.out); rintro e w1 ⟨rfl, hd1⟩; have RD1 := Aside0.mk (RD.out.below hd1.below); have y0 := RD1.out.c0; have y1 := RD1.out.c1; have y2 := RD1.out.c2; have y3 := RD1.out.c3; have y4 := RD1.out.c4; clear hd1) | (go_at_call 37; (with_reducible refine (wire_Get32.calls (some ad) c0 l 8 n1 n2 _ ?hr2 ?hc2 HN.out).mono ?_); (case hr2 => exact Kd.C_below HR.out RD1.out.bl); (case hc2 => exact HC.out); rintro e w2 ⟨rfl, hd2⟩; have RD2 := Aside0.mk (RD1.out.below hd2.below); have y0 := RD2.out.c0; have y1 := RD2.out.c1; have y2 := RD2.out.c2; have y3 := RD2.out.c3; have y4 := RD2.out.c4; clear hd2) | (go_at_call 37; (with_reducible refine (wire_Get32.calls (some ad) c0 l 12 q1 q2 _ ?hr3 ?hc3 HQ.out).mono ?_); (case hr3 => exact Kd.C_below HR.out RD2.out.bl); (case hc3 => exact HC.out); rintro e w3 ⟨rfl, hd3⟩; have RD3 := Aside0.mk (RD2.out.below hd3.below); have y0 := RD3.out.c0; have y1 := RD3.out.c1; have y2 := RD3.out.c2; have y3 := RD3.out.c3; have y4 := RD3.out.c4; clear hd3))
  have b4w := pw_cell_below' RD3.out.bl b4.out
  have b5w := pw_cell_below' RD3.out.bl b5.out
  have fz0 := RD3.out.fz 0
  have fz1 := RD3.out.fz 1
  have fz2 := RD3.out.fz 2
  have fz3 := RD3.out.fz 3
  have hgl : g < w3.heap.size := blk_lt RD3.out.hp
  have hl4i : (4 : Int) < (l.length : Int) := by omega
  have hl5i : (5 : Int) < (l.length : Int) := by omega
  go_region_held3 (fun w' => w'.cell? ⟨g, 4, none⟩ = some (.slice (some ad) l.length c0) ∧ w'.cell? ⟨ad.block, ad.off + 4, none⟩ = some (.int .u8 v4) ∧ w'.cell? ⟨ad.block, ad.off + 5, none⟩ = some (.int .u8 v5)) (first | exact ⟨y4, b4w, b5w⟩ | exact Rd.S (Rd.drew (Rd.set RD3.out _ _ _ _)) b4.out b5.out | go_keep) (fail)
  have RD4 := Aside0.mk (Rd.drew (Rd.set RD3.out (IntKind.i64.wrap v4) (IntKind.i64.wrap v5) (IntKind.i64.wrap s1) (IntKind.i64.wrap n1)))
  generalize hw4 : World.drew _ = w4 at RD4 ⊢
  have RD4 : Aside0 (Rd w0 g (wrap64 v4) (wrap64 v5) (wrap64 s1) x3 (some ad) l.length c0 w4) := ⟨by have z := RD4.out; rw [IntWalk.i64_left, IntWalk.i64_left, IntWalk.i64_left, IntWalk.i64_left, HX3.out] at z; exact z⟩
  have HW : Aside0 (image_head_wrong.f k (wrap64 v4) (wrap64 v5) (wrap64 s1) x3 = some 0) := ⟨by rw [← HX3.out]; exact HW.out⟩
  have HBG : Aside0 (image_head_big.f (wrap64 v4) (wrap64 v5) (wrap64 s1) x3 = some false) := ⟨by rw [← HX3.out]; exact HBG.out⟩
  clear hw4 y0 y1 y2 y3 y4 b4w b5w fz0 fz1 fz2 fz3 hgl
  have y0 := RD4.out.c0
  have y1 := RD4.out.c1
  have y2 := RD4.out.c2
  have y3 := RD4.out.c3
  have y4 := RD4.out.c4
  go_wp2_with (first | (go_at_call 19; (with_reducible refine (image_head_wrong.calls k (wrap64 v4) (wrap64 v5) (wrap64 s1) x3 0 _ HW.out).mono ?_); rintro e w5 ⟨rfl, hb5⟩; have RD5 := Aside0.mk (RD4.out.below hb5); have y0 := RD5.out.c0; have y1 := RD5.out.c1; have y2 := RD5.out.c2; have y3 := RD5.out.c3; have y4 := RD5.out.c4; clear hb5) | (go_at_call 20; (with_reducible refine (image_head_big.calls (wrap64 v4) (wrap64 v5) (wrap64 s1) x3 false _ HBG.out).mono ?_); rintro e w6 ⟨rfl, hb6⟩; have RD6 := Aside0.mk (RD5.out.below hb6); have y0 := RD6.out.c0; have y1 := RD6.out.c1; have y2 := RD6.out.c2; have y3 := RD6.out.c3; have y4 := RD6.out.c4; clear hb6))
  go_quiet (fail)
  go_wp2
  go_ret2
  exact ⟨_, rfl, pw_below_drewN RD6.out.bl _⟩

set_option maxHeartbeats 8000000 in
set_option maxRecDepth 100000 in
theorem image_open_sum (k : Nat) (g : Nat) (A : Option Addr) (c0 : Nat) (l : List Int) (w0 w : World) (hr0 : Kd.C (Kd.int .u8) w0 A l.length l) (hc0 : l.length ≤ c0) (hrd : Rd w0 g 0 0 0 0 A l.length c0 w) (s1 n1 q1 s2 n2 q2 : Int) (hl : 16 ≤ l.length) (hm : (strOfNums (l.take 4)).toList = ([84, 80, 75, 49] : List UInt8))
    (hs : wire_Get16.f l 6 = some (s1, s2)) (hn : wire_Get32.f l 8 = some (n1, n2)) (hq : wire_Get32.f l 12 = some (q1, q2)) (hw : image_head_wrong.f k (wrap64 (rd l 4)) (wrap64 (rd l 5)) (wrap64 s1) (wrap64 n1) = some 0) (hbig : image_head_big.f (wrap64 (rd l 4)) (wrap64 (rd l 5)) (wrap64 s1) (wrap64 n1) = some false) (x3 : Int) (hx3 : wrap64 n1 = x3) (hx0 : 0 ≤ x3) (hx1 : x3 ≤ ((l.length : Int) - 16) / 4)
    (t : Int) (hsum : wire_Sum.f [l.take 12, (l.take (16 + 4 * x3).toNat).drop 16] = some t) (ht : (t == q1) = false) :
    Calls Try.prog 28 #[.pointer (some ⟨g, 0, none⟩)] w fun e w' => ∃ v, e = .returned (.tuple #[v, .int .i64 23]) ∧ Below w0.heap.size w0 w' := by
  have HR := Aside0.mk hr0
  have HC := Aside0.mk hc0
  have HM := Aside0.mk hm
  have HS := Aside0.mk hs
  have HN := Aside0.mk hn
  have HQ := Aside0.mk hq
  have RD := Aside0.mk hrd
  have HW := Aside0.mk hw
  have HBG := Aside0.mk hbig
  have HX3 := Aside0.mk hx3
  have HSM := Aside0.mk hsum
  clear hr0 hc0 hm hs hn hq hrd hw hbig hx3 hsum
  have hl64 : (l.length : Int) ≤ 9223372036854775807 := by have := HR.out.2.1; omega
  have k0 := RD.out.c0
  have k1 := RD.out.c1
  have k2 := RD.out.c2
  have k3 := RD.out.c3
  have k4 := RD.out.c4
  obtain ⟨i026, hi026, _, hsz26, _⟩ := info_parts info5
  obtain ⟨hcut26, hA26, hC26⟩ := print_take_of (P := Try.prog) (Value.int .u8) 0 24 5 .i64 Try.underlying24 hi026 hsz26 A c0 l 4 (by omega) (by omega) HC.out
  have HR4 := Aside0.mk (Kd.C_of_reads (h1 := fun _ => rfl) (hA26 _ (Kd.reads_of_C HR.out)))
  rw [show (4 : Int).toNat = 4 from rfl] at hcut26
  have HR4 := Aside0.mk (show Kd.C (Kd.int .u8) w0 A (l.take 4).length (l.take 4) from HR4.out)
  obtain ⟨l4, hl4⟩ : ∃ l4, l4 = l.take 4 := ⟨_, rfl⟩
  rw [← hl4] at hcut26
  have HR4 := Aside0.mk (hl4 ▸ HR4.out)
  have HM := Aside0.mk (hl4 ▸ HM.out)
  have hl4A := Aside0.mk hl4
  clear hl4 hA26 hC26
  have hcv1 := Kd.C_string (P := Try.prog) (A := A) (c := c0) Try.underlying24 Try.underlying5 Try.underlying9 (Kd.C_below HR4.out RD.out.bl)
  have hmb : ((strOfNums l4).toList != ([84, 80, 75, 49] : List UInt8)) = false := bne_eq_false_iff_eq.mpr HM.out
  have hmb2 : ((strOfNums l4).toList == ([84, 80, 75, 49] : List UInt8)) = true := beq_iff_eq.mpr HM.out
  have hd16 : decide ((l.length : Int) < 16) = false := decide_eq_false (by omega)
  have hd16n : decide (l.length < 16) = false := decide_eq_false (by omega)
  obtain ⟨ad, cA, hA, hcl4, hK4, hcell4⟩ := Kd.C_get HR.out (0 : Int) 4 (by omega) (by omega)
  obtain ⟨ad', cA', hA', hcl5, hK5, hcell5⟩ := Kd.C_get HR.out (0 : Int) 5 (by omega) (by omega)
  subst hA
  obtain rfl := Option.some.inj hA'
  have e4 : cA = [Value.int .u8 (l.getD 4 0)] := hK4
  have e5 : cA' = [Value.int .u8 (l.getD 5 0)] := hK5
  subst e4
  subst e5
  have b4 := Aside0.mk (hcell4 0 _ rfl)
  have b5 := Aside0.mk (hcell5 0 _ rfl)
  have z1 : (Kd.int .u8).sz = 1 := rfl
  obtain ⟨v4, hv4⟩ : ∃ v4, v4 = l.getD 4 0 := ⟨_, rfl⟩
  obtain ⟨v5, hv5⟩ : ∃ v5, v5 = l.getD 5 0 := ⟨_, rfl⟩
  have b4 : Aside0 (w0.cell? ⟨ad.block, ad.off + 4, none⟩ = some (.int .u8 v4)) := ⟨hv4 ▸ b4.out⟩
  have b5 : Aside0 (w0.cell? ⟨ad.block, ad.off + 5, none⟩ = some (.int .u8 v5)) := ⟨hv5 ▸ b5.out⟩
  have HW : Aside0 (image_head_wrong.f k (wrap64 v4) (wrap64 v5) (wrap64 s1) (wrap64 n1) = some 0) := ⟨by rw [hv4, hv5]; exact HW.out⟩
  have HBG : Aside0 (image_head_big.f (wrap64 v4) (wrap64 v5) (wrap64 s1) (wrap64 n1) = some false) := ⟨by rw [hv4, hv5]; exact HBG.out⟩
  have HV4 := Aside0.mk (show rd l 4 = v4 by rw [hv4]; rfl)
  have HV5 := Aside0.mk (show rd l 5 = v5 by rw [hv5]; rfl)
  clear hv4 hv5
  obtain ⟨hcut12, hA12, hC12⟩ := print_take_of (P := Try.prog) (Value.int .u8) 0 24 5 .i64 Try.underlying24 hi026 hsz26 (some ad) c0 l 12 (by omega) (by omega) HC.out
  have HR12 := Aside0.mk (Kd.C_of_reads (h1 := fun _ => rfl) (hA12 _ (Kd.reads_of_C HR.out)))
  have HC12 := Aside0.mk hC12
  obtain ⟨AC, hcutC, hAC, hCC⟩ := print_mid_of (P := Try.prog) (Value.int .u8) 0 24 5 .i64 .i64 Try.underlying24 hi026 hsz26 (some ad) c0 l 16 (16 + 4 * x3) (by omega) (by omega) (by omega) HC.out
  have HRC := Aside0.mk (Kd.C_of_reads (h1 := fun _ => rfl) (hAC _ (Kd.reads_of_C HR.out)))
  have HCC := Aside0.mk hCC
  clear hA12 hAC hC12 hCC
  obtain ⟨l12, hl12⟩ : ∃ l12, l12 = l.take 12 := ⟨_, rfl⟩
  obtain ⟨lc, hlc⟩ : ∃ lc, lc = (l.take (16 + 4 * x3).toNat).drop 16 := ⟨_, rfl⟩
  rw [show (12 : Int).toNat = 12 from rfl, ← hl12] at hcut12
  rw [show (16 : Int).toNat = 16 from rfl, ← hlc] at hcutC
  have HR12 : Aside0 (Kd.C (Kd.int .u8) w0 (some ad) l12.length l12) := ⟨hl12 ▸ HR12.out⟩
  have HC12 : Aside0 (l12.length ≤ c0) := ⟨hl12 ▸ HC12.out⟩
  have HRC : Aside0 (Kd.C (Kd.int .u8) w0 AC lc.length lc) := ⟨hlc ▸ HRC.out⟩
  have HCC : Aside0 (lc.length ≤ c0 - 16) := ⟨hlc ▸ HCC.out⟩
  have HSM : Aside0 (wire_Sum.f [l12, lc] = some t) := ⟨by rw [hl12, hlc]; exact HSM.out⟩
  have HLC := Aside0.mk hlc
  clear hl12 hlc hi026 hsz26
  have ex1 : IntKind.i64.wrap (4 * x3) = 4 * x3 := IntWalk.i64_in _ (by omega)
  have ex2 : IntKind.i64.wrap (16 + 4 * x3) = 16 + 4 * x3 := IntWalk.i64_in _ (by omega)
  have ex3 : IntKind.i64.wrap ((l.length : Int) - 16) = (l.length : Int) - 16 := IntWalk.i64_in _ (by omega)
  have hgt : decide (((l.length : Int) - 16) / 4 < x3) = false := decide_eq_false (by omega)
  clear z1 hcell4 hcell5 hK4 hK5 hcl4 hcl5 hA'
  go_enter Try.func28, Try.ntmps28
  go_wp2_with (first | (go_at_call 36; (with_reducible refine (wire_Get16.calls (some ad) c0 l 6 s1 s2 _ ?hr1 ?hc1 HS.out).mono ?_); (case hr1 => exact Kd.C_below HR.out RD.out.bl); (case hc1 => exact HC.out); rintro e w1 ⟨rfl, hd1⟩; have RD1 := Aside0.mk (RD.out.below hd1.below); have y0 := RD1.out.c0; have y1 := RD1.out.c1; have y2 := RD1.out.c2; have y3 := RD1.out.c3; have y4 := RD1.out.c4; clear hd1) | (go_at_call 37; (with_reducible refine (wire_Get32.calls (some ad) c0 l 8 n1 n2 _ ?hr2 ?hc2 HN.out).mono ?_); (case hr2 => exact Kd.C_below HR.out RD1.out.bl); (case hc2 => exact HC.out); rintro e w2 ⟨rfl, hd2⟩; have RD2 := Aside0.mk (RD1.out.below hd2.below); have y0 := RD2.out.c0; have y1 := RD2.out.c1; have y2 := RD2.out.c2; have y3 := RD2.out.c3; have y4 := RD2.out.c4; clear hd2) | (go_at_call 37; (with_reducible refine (wire_Get32.calls (some ad) c0 l 12 q1 q2 _ ?hr3 ?hc3 HQ.out).mono ?_); (case hr3 => exact Kd.C_below HR.out RD2.out.bl); (case hc3 => exact HC.out); rintro e w3 ⟨rfl, hd3⟩; have RD3 := Aside0.mk (RD2.out.below hd3.below); have y0 := RD3.out.c0; have y1 := RD3.out.c1; have y2 := RD3.out.c2; have y3 := RD3.out.c3; have y4 := RD3.out.c4; clear hd3))
  have b4w := pw_cell_below' RD3.out.bl b4.out
  have b5w := pw_cell_below' RD3.out.bl b5.out
  have fz0 := RD3.out.fz 0
  have fz1 := RD3.out.fz 1
  have fz2 := RD3.out.fz 2
  have fz3 := RD3.out.fz 3
  have hgl : g < w3.heap.size := blk_lt RD3.out.hp
  have hl4i : (4 : Int) < (l.length : Int) := by omega
  have hl5i : (5 : Int) < (l.length : Int) := by omega
  go_region_held3 (fun w' => w'.cell? ⟨g, 4, none⟩ = some (.slice (some ad) l.length c0) ∧ w'.cell? ⟨ad.block, ad.off + 4, none⟩ = some (.int .u8 v4) ∧ w'.cell? ⟨ad.block, ad.off + 5, none⟩ = some (.int .u8 v5)) (first | exact ⟨y4, b4w, b5w⟩ | exact Rd.S (Rd.drew (Rd.set RD3.out _ _ _ _)) b4.out b5.out | go_keep) (fail)
  have RD4 := Aside0.mk (Rd.drew (Rd.set RD3.out (IntKind.i64.wrap v4) (IntKind.i64.wrap v5) (IntKind.i64.wrap s1) (IntKind.i64.wrap n1)))
  generalize hw4 : World.drew _ = w4 at RD4 ⊢
  have RD4 : Aside0 (Rd w0 g (wrap64 v4) (wrap64 v5) (wrap64 s1) x3 (some ad) l.length c0 w4) := ⟨by have z := RD4.out; rw [IntWalk.i64_left, IntWalk.i64_left, IntWalk.i64_left, IntWalk.i64_left, HX3.out] at z; exact z⟩
  have HW : Aside0 (image_head_wrong.f k (wrap64 v4) (wrap64 v5) (wrap64 s1) x3 = some 0) := ⟨by rw [← HX3.out]; exact HW.out⟩
  have HBG : Aside0 (image_head_big.f (wrap64 v4) (wrap64 v5) (wrap64 s1) x3 = some false) := ⟨by rw [← HX3.out]; exact HBG.out⟩
  clear hw4 y0 y1 y2 y3 y4 b4w b5w fz0 fz1 fz2 fz3 hgl
  have y0 := RD4.out.c0
  have y1 := RD4.out.c1
  have y2 := RD4.out.c2
  have y3 := RD4.out.c3
  have y4 := RD4.out.c4
  go_wp2_with (first | (go_at_call 19; (with_reducible refine (image_head_wrong.calls k (wrap64 v4) (wrap64 v5) (wrap64 s1) x3 0 _ HW.out).mono ?_); rintro e w5 ⟨rfl, hb5⟩; have RD5 := Aside0.mk (RD4.out.below hb5); have y0 := RD5.out.c0; have y1 := RD5.out.c1; have y2 := RD5.out.c2; have y3 := RD5.out.c3; have y4 := RD5.out.c4; clear hb5) | (go_at_call 20; (with_reducible refine (image_head_big.calls (wrap64 v4) (wrap64 v5) (wrap64 s1) x3 false _ HBG.out).mono ?_); rintro e w6 ⟨rfl, hb6⟩; have RD6 := Aside0.mk (RD5.out.below hb6); have y0 := RD6.out.c0; have y1 := RD6.out.c1; have y2 := RD6.out.c2; have y3 := RD6.out.c3; have y4 := RD6.out.c4; clear hb6))
  have hS : Aside0 (∀ m, Calls Try.prog 23 #[.slice (some ⟨w6.heap.size, 0, none⟩) 2 2] ((w6.drewN m).alloc (Obj.cells #[Value.slice (some ad) l12.length c0, Value.slice AC lc.length (c0 - 16)] 24)) (fun e w' => e = .returned (.int .u32 t) ∧ Rd w0 g (wrap64 v4) (wrap64 v5) (wrap64 s1) x3 (some ad) l.length c0 w')) := ⟨fun m => by
    have RD7 := RD6.out.below (below_alloc (pw_below_drewN (Below.refl _ w6) m) (Obj.cells #[Value.slice (some ad) l12.length c0, Value.slice AC lc.length (c0 - 16)] 24))
    have HB7 := blk_new (w6.drewN m) (Obj.cells #[Value.slice (some ad) l12.length c0, Value.slice AC lc.length (c0 - 16)] 24)
    exact (wire_Sum.calls (some ⟨w6.heap.size, 0, none⟩) 2 [l12, lc] t _ (C_two HB7 HC12.out HCC.out (Kd.C_below HR12.out RD7.bl) (Kd.C_below HRC.out RD7.bl)) (Nat.le_refl _) HSM.out).mono (fun e w8 h => ⟨h.1, RD7.below h.2⟩)⟩
  go_quiet (fail)
  go_wp2_with fail
  go_quiet (fail)
  go_wp2_with fail
  have htn : (t != q1) = true := by rw [bne, ht]; rfl
  refine (hS.out _).mono ?_
  rintro e w8 ⟨rfl, RD8⟩
  have RD8 := Aside0.mk RD8
  go_wp2
  go_ret2
  exact ⟨_, rfl, RD8.out.bl⟩

set_option maxHeartbeats 8000000 in
set_option maxRecDepth 100000 in
theorem image_open_good (k : Nat) (g : Nat) (A : Option Addr) (c0 : Nat) (l : List Int) (w0 w : World) (hr0 : Kd.C (Kd.int .u8) w0 A l.length l) (hc0 : l.length ≤ c0) (hrd : Rd w0 g 0 0 0 0 A l.length c0 w) (s1 n1 q1 s2 n2 q2 : Int) (hl : 16 ≤ l.length) (hm : (strOfNums (l.take 4)).toList = ([84, 80, 75, 49] : List UInt8))
    (hs : wire_Get16.f l 6 = some (s1, s2)) (hn : wire_Get32.f l 8 = some (n1, n2)) (hq : wire_Get32.f l 12 = some (q1, q2)) (hw : image_head_wrong.f k (wrap64 (rd l 4)) (wrap64 (rd l 5)) (wrap64 s1) (wrap64 n1) = some 0) (hbig : image_head_big.f (wrap64 (rd l 4)) (wrap64 (rd l 5)) (wrap64 s1) (wrap64 n1) = some false) (x3 : Int) (hx3 : wrap64 n1 = x3) (hx0 : 0 ≤ x3) (hx1 : x3 ≤ ((l.length : Int) - 16) / 4)
    (t : Int) (hsum : wire_Sum.f [l.take 12, (l.take (16 + 4 * x3).toNat).drop 16] = some t) (ht : (t == q1) = true) :
    Calls Try.prog 28 #[.pointer (some ⟨g, 0, none⟩)] w fun e w' => ∃ A' c', e = .returned (.tuple #[.slice A' ((l.take (16 + 4 * x3).toNat).drop 16).length c', .int .i64 0]) ∧ ((l.take (16 + 4 * x3).toNat).drop 16).length ≤ c' ∧ Kd.C (Kd.int .u8) w0 A' ((l.take (16 + 4 * x3).toNat).drop 16).length ((l.take (16 + 4 * x3).toNat).drop 16) ∧ Rd w0 g (wrap64 (rd l 4)) (wrap64 (rd l 5)) (wrap64 s1) x3 A l.length c0 w' := by
  have HR := Aside0.mk hr0
  have HC := Aside0.mk hc0
  have HM := Aside0.mk hm
  have HS := Aside0.mk hs
  have HN := Aside0.mk hn
  have HQ := Aside0.mk hq
  have RD := Aside0.mk hrd
  have HW := Aside0.mk hw
  have HBG := Aside0.mk hbig
  have HX3 := Aside0.mk hx3
  have HSM := Aside0.mk hsum
  clear hr0 hc0 hm hs hn hq hrd hw hbig hx3 hsum
  have hl64 : (l.length : Int) ≤ 9223372036854775807 := by have := HR.out.2.1; omega
  have k0 := RD.out.c0
  have k1 := RD.out.c1
  have k2 := RD.out.c2
  have k3 := RD.out.c3
  have k4 := RD.out.c4
  obtain ⟨i026, hi026, _, hsz26, _⟩ := info_parts info5
  obtain ⟨hcut26, hA26, hC26⟩ := print_take_of (P := Try.prog) (Value.int .u8) 0 24 5 .i64 Try.underlying24 hi026 hsz26 A c0 l 4 (by omega) (by omega) HC.out
  have HR4 := Aside0.mk (Kd.C_of_reads (h1 := fun _ => rfl) (hA26 _ (Kd.reads_of_C HR.out)))
  rw [show (4 : Int).toNat = 4 from rfl] at hcut26
  have HR4 := Aside0.mk (show Kd.C (Kd.int .u8) w0 A (l.take 4).length (l.take 4) from HR4.out)
  obtain ⟨l4, hl4⟩ : ∃ l4, l4 = l.take 4 := ⟨_, rfl⟩
  rw [← hl4] at hcut26
  have HR4 := Aside0.mk (hl4 ▸ HR4.out)
  have HM := Aside0.mk (hl4 ▸ HM.out)
  have hl4A := Aside0.mk hl4
  clear hl4 hA26 hC26
  have hcv1 := Kd.C_string (P := Try.prog) (A := A) (c := c0) Try.underlying24 Try.underlying5 Try.underlying9 (Kd.C_below HR4.out RD.out.bl)
  have hmb : ((strOfNums l4).toList != ([84, 80, 75, 49] : List UInt8)) = false := bne_eq_false_iff_eq.mpr HM.out
  have hmb2 : ((strOfNums l4).toList == ([84, 80, 75, 49] : List UInt8)) = true := beq_iff_eq.mpr HM.out
  have hd16 : decide ((l.length : Int) < 16) = false := decide_eq_false (by omega)
  have hd16n : decide (l.length < 16) = false := decide_eq_false (by omega)
  obtain ⟨ad, cA, hA, hcl4, hK4, hcell4⟩ := Kd.C_get HR.out (0 : Int) 4 (by omega) (by omega)
  obtain ⟨ad', cA', hA', hcl5, hK5, hcell5⟩ := Kd.C_get HR.out (0 : Int) 5 (by omega) (by omega)
  subst hA
  obtain rfl := Option.some.inj hA'
  have e4 : cA = [Value.int .u8 (l.getD 4 0)] := hK4
  have e5 : cA' = [Value.int .u8 (l.getD 5 0)] := hK5
  subst e4
  subst e5
  have b4 := Aside0.mk (hcell4 0 _ rfl)
  have b5 := Aside0.mk (hcell5 0 _ rfl)
  have z1 : (Kd.int .u8).sz = 1 := rfl
  obtain ⟨v4, hv4⟩ : ∃ v4, v4 = l.getD 4 0 := ⟨_, rfl⟩
  obtain ⟨v5, hv5⟩ : ∃ v5, v5 = l.getD 5 0 := ⟨_, rfl⟩
  have b4 : Aside0 (w0.cell? ⟨ad.block, ad.off + 4, none⟩ = some (.int .u8 v4)) := ⟨hv4 ▸ b4.out⟩
  have b5 : Aside0 (w0.cell? ⟨ad.block, ad.off + 5, none⟩ = some (.int .u8 v5)) := ⟨hv5 ▸ b5.out⟩
  have HW : Aside0 (image_head_wrong.f k (wrap64 v4) (wrap64 v5) (wrap64 s1) (wrap64 n1) = some 0) := ⟨by rw [hv4, hv5]; exact HW.out⟩
  have HBG : Aside0 (image_head_big.f (wrap64 v4) (wrap64 v5) (wrap64 s1) (wrap64 n1) = some false) := ⟨by rw [hv4, hv5]; exact HBG.out⟩
  have HV4 := Aside0.mk (show rd l 4 = v4 by rw [hv4]; rfl)
  have HV5 := Aside0.mk (show rd l 5 = v5 by rw [hv5]; rfl)
  clear hv4 hv5
  obtain ⟨hcut12, hA12, hC12⟩ := print_take_of (P := Try.prog) (Value.int .u8) 0 24 5 .i64 Try.underlying24 hi026 hsz26 (some ad) c0 l 12 (by omega) (by omega) HC.out
  have HR12 := Aside0.mk (Kd.C_of_reads (h1 := fun _ => rfl) (hA12 _ (Kd.reads_of_C HR.out)))
  have HC12 := Aside0.mk hC12
  obtain ⟨AC, hcutC, hAC, hCC⟩ := print_mid_of (P := Try.prog) (Value.int .u8) 0 24 5 .i64 .i64 Try.underlying24 hi026 hsz26 (some ad) c0 l 16 (16 + 4 * x3) (by omega) (by omega) (by omega) HC.out
  have HRC := Aside0.mk (Kd.C_of_reads (h1 := fun _ => rfl) (hAC _ (Kd.reads_of_C HR.out)))
  have HCC := Aside0.mk hCC
  clear hA12 hAC hC12 hCC
  obtain ⟨l12, hl12⟩ : ∃ l12, l12 = l.take 12 := ⟨_, rfl⟩
  obtain ⟨lc, hlc⟩ : ∃ lc, lc = (l.take (16 + 4 * x3).toNat).drop 16 := ⟨_, rfl⟩
  rw [show (12 : Int).toNat = 12 from rfl, ← hl12] at hcut12
  rw [show (16 : Int).toNat = 16 from rfl, ← hlc] at hcutC
  have HR12 : Aside0 (Kd.C (Kd.int .u8) w0 (some ad) l12.length l12) := ⟨hl12 ▸ HR12.out⟩
  have HC12 : Aside0 (l12.length ≤ c0) := ⟨hl12 ▸ HC12.out⟩
  have HRC : Aside0 (Kd.C (Kd.int .u8) w0 AC lc.length lc) := ⟨hlc ▸ HRC.out⟩
  have HCC : Aside0 (lc.length ≤ c0 - 16) := ⟨hlc ▸ HCC.out⟩
  have HSM : Aside0 (wire_Sum.f [l12, lc] = some t) := ⟨by rw [hl12, hlc]; exact HSM.out⟩
  have HLC := Aside0.mk hlc
  clear hl12 hlc hi026 hsz26
  have ex1 : IntKind.i64.wrap (4 * x3) = 4 * x3 := IntWalk.i64_in _ (by omega)
  have ex2 : IntKind.i64.wrap (16 + 4 * x3) = 16 + 4 * x3 := IntWalk.i64_in _ (by omega)
  have ex3 : IntKind.i64.wrap ((l.length : Int) - 16) = (l.length : Int) - 16 := IntWalk.i64_in _ (by omega)
  have hgt : decide (((l.length : Int) - 16) / 4 < x3) = false := decide_eq_false (by omega)
  clear z1 hcell4 hcell5 hK4 hK5 hcl4 hcl5 hA'
  go_enter Try.func28, Try.ntmps28
  go_wp2_with (first | (go_at_call 36; (with_reducible refine (wire_Get16.calls (some ad) c0 l 6 s1 s2 _ ?hr1 ?hc1 HS.out).mono ?_); (case hr1 => exact Kd.C_below HR.out RD.out.bl); (case hc1 => exact HC.out); rintro e w1 ⟨rfl, hd1⟩; have RD1 := Aside0.mk (RD.out.below hd1.below); have y0 := RD1.out.c0; have y1 := RD1.out.c1; have y2 := RD1.out.c2; have y3 := RD1.out.c3; have y4 := RD1.out.c4; clear hd1) | (go_at_call 37; (with_reducible refine (wire_Get32.calls (some ad) c0 l 8 n1 n2 _ ?hr2 ?hc2 HN.out).mono ?_); (case hr2 => exact Kd.C_below HR.out RD1.out.bl); (case hc2 => exact HC.out); rintro e w2 ⟨rfl, hd2⟩; have RD2 := Aside0.mk (RD1.out.below hd2.below); have y0 := RD2.out.c0; have y1 := RD2.out.c1; have y2 := RD2.out.c2; have y3 := RD2.out.c3; have y4 := RD2.out.c4; clear hd2) | (go_at_call 37; (with_reducible refine (wire_Get32.calls (some ad) c0 l 12 q1 q2 _ ?hr3 ?hc3 HQ.out).mono ?_); (case hr3 => exact Kd.C_below HR.out RD2.out.bl); (case hc3 => exact HC.out); rintro e w3 ⟨rfl, hd3⟩; have RD3 := Aside0.mk (RD2.out.below hd3.below); have y0 := RD3.out.c0; have y1 := RD3.out.c1; have y2 := RD3.out.c2; have y3 := RD3.out.c3; have y4 := RD3.out.c4; clear hd3))
  have b4w := pw_cell_below' RD3.out.bl b4.out
  have b5w := pw_cell_below' RD3.out.bl b5.out
  have fz0 := RD3.out.fz 0
  have fz1 := RD3.out.fz 1
  have fz2 := RD3.out.fz 2
  have fz3 := RD3.out.fz 3
  have hgl : g < w3.heap.size := blk_lt RD3.out.hp
  have hl4i : (4 : Int) < (l.length : Int) := by omega
  have hl5i : (5 : Int) < (l.length : Int) := by omega
  go_region_held3 (fun w' => w'.cell? ⟨g, 4, none⟩ = some (.slice (some ad) l.length c0) ∧ w'.cell? ⟨ad.block, ad.off + 4, none⟩ = some (.int .u8 v4) ∧ w'.cell? ⟨ad.block, ad.off + 5, none⟩ = some (.int .u8 v5)) (first | exact ⟨y4, b4w, b5w⟩ | exact Rd.S (Rd.drew (Rd.set RD3.out _ _ _ _)) b4.out b5.out | go_keep) (fail)
  have RD4 := Aside0.mk (Rd.drew (Rd.set RD3.out (IntKind.i64.wrap v4) (IntKind.i64.wrap v5) (IntKind.i64.wrap s1) (IntKind.i64.wrap n1)))
  generalize hw4 : World.drew _ = w4 at RD4 ⊢
  have RD4 : Aside0 (Rd w0 g (wrap64 v4) (wrap64 v5) (wrap64 s1) x3 (some ad) l.length c0 w4) := ⟨by have z := RD4.out; rw [IntWalk.i64_left, IntWalk.i64_left, IntWalk.i64_left, IntWalk.i64_left, HX3.out] at z; exact z⟩
  have HW : Aside0 (image_head_wrong.f k (wrap64 v4) (wrap64 v5) (wrap64 s1) x3 = some 0) := ⟨by rw [← HX3.out]; exact HW.out⟩
  have HBG : Aside0 (image_head_big.f (wrap64 v4) (wrap64 v5) (wrap64 s1) x3 = some false) := ⟨by rw [← HX3.out]; exact HBG.out⟩
  clear hw4 y0 y1 y2 y3 y4 b4w b5w fz0 fz1 fz2 fz3 hgl
  have y0 := RD4.out.c0
  have y1 := RD4.out.c1
  have y2 := RD4.out.c2
  have y3 := RD4.out.c3
  have y4 := RD4.out.c4
  go_wp2_with (first | (go_at_call 19; (with_reducible refine (image_head_wrong.calls k (wrap64 v4) (wrap64 v5) (wrap64 s1) x3 0 _ HW.out).mono ?_); rintro e w5 ⟨rfl, hb5⟩; have RD5 := Aside0.mk (RD4.out.below hb5); have y0 := RD5.out.c0; have y1 := RD5.out.c1; have y2 := RD5.out.c2; have y3 := RD5.out.c3; have y4 := RD5.out.c4; clear hb5) | (go_at_call 20; (with_reducible refine (image_head_big.calls (wrap64 v4) (wrap64 v5) (wrap64 s1) x3 false _ HBG.out).mono ?_); rintro e w6 ⟨rfl, hb6⟩; have RD6 := Aside0.mk (RD5.out.below hb6); have y0 := RD6.out.c0; have y1 := RD6.out.c1; have y2 := RD6.out.c2; have y3 := RD6.out.c3; have y4 := RD6.out.c4; clear hb6))
  have hS : Aside0 (∀ m, Calls Try.prog 23 #[.slice (some ⟨w6.heap.size, 0, none⟩) 2 2] ((w6.drewN m).alloc (Obj.cells #[Value.slice (some ad) l12.length c0, Value.slice AC lc.length (c0 - 16)] 24)) (fun e w' => e = .returned (.int .u32 t) ∧ Rd w0 g (wrap64 v4) (wrap64 v5) (wrap64 s1) x3 (some ad) l.length c0 w')) := ⟨fun m => by
    have RD7 := RD6.out.below (below_alloc (pw_below_drewN (Below.refl _ w6) m) (Obj.cells #[Value.slice (some ad) l12.length c0, Value.slice AC lc.length (c0 - 16)] 24))
    have HB7 := blk_new (w6.drewN m) (Obj.cells #[Value.slice (some ad) l12.length c0, Value.slice AC lc.length (c0 - 16)] 24)
    exact (wire_Sum.calls (some ⟨w6.heap.size, 0, none⟩) 2 [l12, lc] t _ (C_two HB7 HC12.out HCC.out (Kd.C_below HR12.out RD7.bl) (Kd.C_below HRC.out RD7.bl)) (Nat.le_refl _) HSM.out).mono (fun e w8 h => ⟨h.1, RD7.below h.2⟩)⟩
  go_quiet (fail)
  go_wp2_with fail
  go_quiet (fail)
  go_wp2_with fail
  have htn : (t != q1) = false := by rw [bne, ht]; rfl
  refine (hS.out _).mono ?_
  rintro e w8 ⟨rfl, RD8⟩
  have RD8 := Aside0.mk RD8
  go_wp2
  go_ret2
  exact ⟨AC, c0 - 16, by rw [← HLC.out]; rfl, by rw [← HLC.out]; exact HCC.out, by rw [← HLC.out]; exact HRC.out, by rw [HV4.out, HV5.out]; exact RD8.out⟩
/-- What the reader's open tells: the header, the code, an error. -/
def image_open1.f (k : Nat) (l : List Int) : Option (Int × Int × Int × Int × List Int × Int) := if l.length < 16 then some (0, 0, 0, 0, [], 22) else if (strOfNums (l.take 4)).toList = ([84, 80, 75, 49] : List UInt8) then ((wire_Get16.f l 6).bind fun s => (wire_Get32.f l 8).bind fun n => (wire_Get32.f l 12).bind fun q => (image_head_wrong.f k (wrap64 (rd l 4)) (wrap64 (rd l 5)) (wrap64 s.1) (wrap64 n.1)).bind fun r => if r = 0 then ((image_head_big.f (wrap64 (rd l 4)) (wrap64 (rd l 5)) (wrap64 s.1) (wrap64 n.1)).bind fun b => if b = true then some (0, 0, 0, 0, [], 18) else if 0 ≤ wrap64 n.1 then (if ((l.length : Int) - 16) / 4 < wrap64 n.1 then some (0, 0, 0, 0, [], 22) else ((wire_Sum.f [l.take 12, (l.take (16 + 4 * wrap64 n.1).toNat).drop 16]).bind fun t => if (t == q.1) = true then some (wrap64 (rd l 4), wrap64 (rd l 5), wrap64 s.1, wrap64 n.1, (l.take (16 + 4 * wrap64 n.1).toNat).drop 16, 0) else some (0, 0, 0, 0, [], 23))) else none) else some (0, 0, 0, 0, [], r)) else some (0, 0, 0, 0, [], 21)
def image_Open.f (k : Nat) (l0 : List Int) (a1 : Int) : Option (Int × Int × Int × Int × List Int × Int) := if a1 < 0 then some (0, 0, 0, 0, [], 30) else if (l0.length : Int) < a1 then some (0, 0, 0, 0, [], 30) else (image_open1.f k (l0.drop a1.toNat)).bind fun x => if x.2.2.2.2.2 = 0 then ((slices_Clone_byte_byte.f x.2.2.2.2.1).bind fun c => some (x.1, x.2.1, x.2.2.1, x.2.2.2.1, c, 0)) else some (0, 0, 0, 0, [], x.2.2.2.2.2)
theorem image_open1.mono : ∀ a0 k, LeO (image_open1.f k a0) (image_open1.f (k + 1) a0) := by
  intro a0 k
  unfold image_open1.f
  repeat' first
      | (with_reducible exact image_head_wrong.mono _ _ _ _ _)
      | (with_reducible exact LeO.refl _)
      | (with_reducible exact LeO.none _)
      | (with_reducible refine LeO.ite ?_ ?_)
      | (with_reducible refine LeO.bind ?_ (fun _ => ?_))
theorem image_Open.mono : ∀ a0 a1 k, LeO (image_Open.f k a0 a1) (image_Open.f (k + 1) a0 a1) := by
  intro a0 a1 k
  unfold image_Open.f
  repeat' first
      | (with_reducible exact image_open1.mono _ _)
      | (with_reducible exact LeO.refl _)
      | (with_reducible exact LeO.none _)
      | (with_reducible refine LeO.ite ?_ ?_)
      | (with_reducible refine LeO.bind ?_ (fun _ => ?_))
theorem image_open1.calls (k : Nat) (g : Nat) (A : Option Addr) (c0 : Nat) (l : List Int) (r1 r2 r3 r4 : Int) (rl : List Int) (re : Int) (w0 w : World) (hr0 : Kd.C (Kd.int .u8) w0 A l.length l) (hc0 : l.length ≤ c0) (hrd : Rd w0 g 0 0 0 0 A l.length c0 w) (h : image_open1.f k l = some (r1, r2, r3, r4, rl, re)) :
    Calls Try.prog 28 #[.pointer (some ⟨g, 0, none⟩)] w fun e w' => ∃ v, e = .returned (.tuple #[v, .int .i64 re]) ∧ Below w0.heap.size w0 w' ∧ (re = 0 → ∃ A' c', v = .slice A' rl.length c' ∧ rl.length ≤ c' ∧ Kd.C (Kd.int .u8) w0 A' rl.length rl ∧ Rd w0 g r1 r2 r3 r4 A l.length c0 w') := by
  have bad : ∀ e0 : Int, ¬ e0 = 0 → some ((0 : Int), (0 : Int), (0 : Int), (0 : Int), ([] : List Int), e0) = some (r1, r2, r3, r4, rl, re) → (Calls Try.prog 28 #[.pointer (some ⟨g, 0, none⟩)] w fun e w' => ∃ v, e = .returned (.tuple #[v, .int .i64 e0]) ∧ Below w0.heap.size w0 w') → Calls Try.prog 28 #[.pointer (some ⟨g, 0, none⟩)] w fun e w' => ∃ v, e = .returned (.tuple #[v, .int .i64 re]) ∧ Below w0.heap.size w0 w' ∧ (re = 0 → ∃ A' c', v = .slice A' rl.length c' ∧ rl.length ≤ c' ∧ Kd.C (Kd.int .u8) w0 A' rl.length rl ∧ Rd w0 g r1 r2 r3 r4 A l.length c0 w') := by
    intro e0 hne he hc
    simp only [Option.some.injEq, Prod.mk.injEq] at he
    obtain ⟨_, _, _, _, _, rfl⟩ := he
    exact hc.mono (fun e w' ⟨v, h1, h2⟩ => ⟨v, h1, h2, fun h0 => absurd h0 hne⟩)
  unfold image_open1.f at h
  by_cases c1 : l.length < 16
  · rw [if_pos c1] at h
    exact bad 22 (by decide) h (image_open_short k g A c0 l w0 w hr0 hc0 hrd c1)
  rw [if_neg c1] at h
  by_cases c2 : (strOfNums (l.take 4)).toList = ([84, 80, 75, 49] : List UInt8)
  case neg =>
    rw [if_neg c2] at h
    exact bad 21 (by decide) h (image_open_magic k g A c0 l w0 w hr0 hc0 hrd (by omega) c2)
  rw [if_pos c2] at h
  obtain ⟨⟨s1, s2⟩, hs, h⟩ := Option.bind_eq_some_iff.mp h
  obtain ⟨⟨n1, n2⟩, hn, h⟩ := Option.bind_eq_some_iff.mp h
  obtain ⟨⟨q1, q2⟩, hq, h⟩ := Option.bind_eq_some_iff.mp h
  obtain ⟨r, hw, h⟩ := Option.bind_eq_some_iff.mp h
  by_cases c3 : r = 0
  case neg =>
    rw [if_neg c3] at h
    exact bad r c3 h (image_open_wrong k g A c0 l w0 w hr0 hc0 hrd s1 n1 q1 s2 n2 q2 (by omega) c2 hs hn hq r hw _ rfl c3)
  rw [if_pos c3] at h
  subst c3
  obtain ⟨b, hb, h⟩ := Option.bind_eq_some_iff.mp h
  by_cases c4 : b = true
  · subst c4
    rw [if_pos rfl] at h
    exact bad 18 (by decide) h (image_open_big k g A c0 l w0 w hr0 hc0 hrd s1 n1 q1 s2 n2 q2 (by omega) c2 hs hn hq hw hb _ rfl)
  rw [if_neg c4] at h
  obtain rfl : b = false := by simpa using c4
  by_cases c5 : 0 ≤ wrap64 n1
  case neg => rw [if_neg c5] at h; cases h
  rw [if_pos c5] at h
  by_cases c6 : ((l.length : Int) - 16) / 4 < wrap64 n1
  · rw [if_pos c6] at h
    exact bad 22 (by decide) h (image_open_cut k g A c0 l w0 w hr0 hc0 hrd s1 n1 q1 s2 n2 q2 (by omega) c2 hs hn hq hw hb _ rfl c6)
  rw [if_neg c6] at h
  obtain ⟨t, ht, h⟩ := Option.bind_eq_some_iff.mp h
  by_cases c7 : (t == q1) = true
  · rw [if_pos c7] at h
    have hg := image_open_good k g A c0 l w0 w hr0 hc0 hrd s1 n1 q1 s2 n2 q2 (by omega) c2 hs hn hq hw hb _ rfl c5 (by omega) t ht c7
    simp only [Option.some.injEq, Prod.mk.injEq] at h
    obtain ⟨rfl, rfl, rfl, rfl, rfl, rfl⟩ := h
    exact hg.mono (fun e w' ⟨A', c', h1, h2, h3, h4⟩ => ⟨_, h1, h4.bl, fun _ => ⟨A', c', rfl, h2, h3, h4⟩⟩)
  · rw [if_neg c7] at h
    exact bad 23 (by decide) h (image_open_sum k g A c0 l w0 w hr0 hc0 hrd s1 n1 q1 s2 n2 q2 (by omega) c2 hs hn hq hw hb _ rfl c5 (by omega) t ht (by simpa using c7))
set_option maxHeartbeats 8000000 in
set_option maxRecDepth 100000 in
theorem image_Open.calls_out (A0 : Option Addr) (c0 : Nat) (l0 : List Int) (a1 : Int) (w : World) (h : a1 < 0 ∨ (0 ≤ a1 ∧ (l0.length : Int) < a1)) :
    Calls Try.prog 13 #[.slice A0 l0.length c0, .int .i64 a1] w fun e w' => e = .returned (.tuple #[.agg #[.int .i64 0, .int .i64 0, .int .i64 0, .int .i64 0], .slice none 0 0, .int .i64 30]) ∧ Below w.heap.size w w' := by
  rcases h with h | ⟨h, h0⟩
  all_goals
    go_enter Try.func13, Try.ntmps13
    go_wp2
    refine bodyPost_ret (v := .tuple #[.agg #[.int .i64 0, .int .i64 0, .int .i64 0, .int .i64 0], .slice none 0 0, .int .i64 30]) (by simp [results, Try.results13, go_sem]) rfl ⟨rfl, ?_⟩
    first | exact below_alloc (Below.refl _ w) _ | (repeat (refine below_set ?_ (by simp; try omega))); exact below_alloc (Below.refl _ w) _
set_option maxHeartbeats 8000000 in
set_option maxRecDepth 100000 in
theorem image_Open.calls_err (k : Nat) (A0 : Option Addr) (c0 : Nat) (l0 : List Int) (a1 : Int) (r1 r2 r3 r4 : Int) (rl : List Int) (re : Int) (w : World) (hr0 : Kd.C (Kd.int .u8) w A0 l0.length l0) (hc0 : l0.length ≤ c0) (h0 : 0 ≤ a1) (h1 : a1 ≤ (l0.length : Int)) (h : image_open1.f k (l0.drop a1.toNat) = some (r1, r2, r3, r4, rl, re)) (hne : ¬ re = 0) :
    Calls Try.prog 13 #[.slice A0 l0.length c0, .int .i64 a1] w fun e w' => e = .returned (.tuple #[.agg #[.int .i64 0, .int .i64 0, .int .i64 0, .int .i64 0], .slice none 0 0, .int .i64 re]) ∧ Below w.heap.size w w' := by
  have HR := Aside0.mk hr0
  have HC := Aside0.mk hc0
  have HF := Aside0.mk h
  clear hr0 hc0 h
  obtain ⟨i026, hi026, _, hsz26, _⟩ := info_parts info5
  obtain ⟨A1, hcut, hA1, hC1⟩ := print_drop_of (P := Try.prog) (Value.int .u8) 0 24 5 .i64 Try.underlying24 hi026 hsz26 A0 c0 l0 a1 h0 h1 HC.out
  have HR1 := Aside0.mk (Kd.C_of_reads (h1 := fun _ => rfl) (hA1 _ (Kd.reads_of_C HR.out)))
  have HC1 := Aside0.mk hC1
  clear hA1 hC1 hi026 hsz26
  obtain ⟨l1, hl1⟩ : ∃ l1, l1 = l0.drop a1.toNat := ⟨_, rfl⟩
  rw [← hl1] at hcut
  have HR1 : Aside0 (Kd.C (Kd.int .u8) w A1 l1.length l1) := ⟨hl1 ▸ HR1.out⟩
  have HC1 : Aside0 (l1.length ≤ c0 - a1.toNat) := ⟨hl1 ▸ HC1.out⟩
  have HF : Aside0 (image_open1.f k l1 = some (r1, r2, r3, r4, rl, re)) := ⟨hl1 ▸ HF.out⟩
  clear hl1
  have HRA := Aside0.mk (Kd.C_alloc HR1.out (Obj.cells #[.int .i64 0, .int .i64 0, .int .i64 0, .int .i64 0] 23))
  have hsA : (w.alloc (Obj.cells #[.int .i64 0, .int .i64 0, .int .i64 0, .int .i64 0] 23)).heap.size = w.heap.size + 1 := Array.size_push ..
  have RD : Aside0 (Rd (w.alloc (Obj.cells #[.int .i64 0, .int .i64 0, .int .i64 0, .int .i64 0] 23)) (w.heap.size + 1) 0 0 0 0 A1 l1.length (c0 - a1.toNat) ((w.alloc (Obj.cells #[.int .i64 0, .int .i64 0, .int .i64 0, .int .i64 0] 23)).alloc (.cells #[.int .i64 0, .int .i64 0, .int .i64 0, .int .i64 0, .slice A1 l1.length (c0 - a1.toNat)] 57))) := ⟨⟨below_alloc (Below.refl _ _) _, by rw [hsA]; omega, by rw [← hsA]; exact blk_new _ _⟩⟩
  have hreb : (re == 0) = false := beq_eq_false_iff_ne.mpr hne
  have hren : (re != 0) = true := bne_iff_ne.mpr hne
  go_enter Try.func13, Try.ntmps13
  go_wp2_with (go_at_call 28; (with_reducible refine (image_open1.calls k _ A1 (c0 - a1.toNat) l1 r1 r2 r3 r4 rl re (w.alloc (Obj.cells #[.int .i64 0, .int .i64 0, .int .i64 0, .int .i64 0] 23)) _ HRA.out HC1.out RD.out HF.out).mono ?_); rintro e w1 ⟨v, rfl, hb1, hgood⟩; have HG := Aside0.mk hgood; clear hgood; have HB1 := Aside0.mk (below_step (below_alloc (Below.refl _ w) _) hb1); have BK := Aside0.mk (blk_below (blk_new w (Obj.cells #[.int .i64 0, .int .i64 0, .int .i64 0, .int .i64 0] 23)) hb1); have z0 : w1.cell? ⟨w.heap.size, 0, none⟩ = some (.int .i64 0) := blk_cell BK.out 0; have z1 : w1.cell? ⟨w.heap.size, 1, none⟩ = some (.int .i64 0) := blk_cell BK.out 1; have z2 : w1.cell? ⟨w.heap.size, 2, none⟩ = some (.int .i64 0) := blk_cell BK.out 2; have z3 : w1.cell? ⟨w.heap.size, 3, none⟩ = some (.int .i64 0) := blk_cell BK.out 3; have f0 := blk_frozen BK.out 0; have f1 := blk_frozen BK.out 1; have f2 := blk_frozen BK.out 2; have f3 := blk_frozen BK.out 3; clear hb1)
  refine bodyPost_ret (v := .tuple #[.agg #[.int .i64 0, .int .i64 0, .int .i64 0, .int .i64 0], .slice none 0 0, .int .i64 re]) (by simp [results, Try.results13, go_sem, z0, z1, z2, z3]) rfl ⟨rfl, ?_⟩
  exact below_set (below_set (below_set (below_set HB1.out (Nat.le_refl _)) (Nat.le_refl _)) (Nat.le_refl _)) (Nat.le_refl _)
set_option maxHeartbeats 8000000 in
set_option maxRecDepth 100000 in
theorem image_Open.calls_ok (k : Nat) (A0 : Option Addr) (c0 : Nat) (l0 : List Int) (a1 : Int) (r1 r2 r3 r4 : Int) (rl : List Int) (re : Int) (w : World) (hr0 : Kd.C (Kd.int .u8) w A0 l0.length l0) (hc0 : l0.length ≤ c0) (h0 : 0 ≤ a1) (h1 : a1 ≤ (l0.length : Int)) (h : image_open1.f k (l0.drop a1.toNat) = some (r1, r2, r3, r4, rl, re)) (hre : re = 0) (rc : List Int) (hcl : slices_Clone_byte_byte.f rl = some rc) :
    Calls Try.prog 13 #[.slice A0 l0.length c0, .int .i64 a1] w fun e w' => ∃ v : Value, e = .returned (.tuple #[.agg #[.int .i64 r1, .int .i64 r2, .int .i64 r3, .int .i64 r4], v, .int .i64 0]) ∧ Kd.R (Kd.int .u8) 5 w' w.heap.size (fun _ => True) v rc ∧ Below w.heap.size w w' := by
  subst hre
  have HR := Aside0.mk hr0
  have HC := Aside0.mk hc0
  have HF := Aside0.mk h
  clear hr0 hc0 h
  obtain ⟨i026, hi026, _, hsz26, _⟩ := info_parts info5
  obtain ⟨A1, hcut, hA1, hC1⟩ := print_drop_of (P := Try.prog) (Value.int .u8) 0 24 5 .i64 Try.underlying24 hi026 hsz26 A0 c0 l0 a1 h0 h1 HC.out
  have HR1 := Aside0.mk (Kd.C_of_reads (h1 := fun _ => rfl) (hA1 _ (Kd.reads_of_C HR.out)))
  have HC1 := Aside0.mk hC1
  clear hA1 hC1 hi026 hsz26
  obtain ⟨l1, hl1⟩ : ∃ l1, l1 = l0.drop a1.toNat := ⟨_, rfl⟩
  rw [← hl1] at hcut
  have HR1 : Aside0 (Kd.C (Kd.int .u8) w A1 l1.length l1) := ⟨hl1 ▸ HR1.out⟩
  have HC1 : Aside0 (l1.length ≤ c0 - a1.toNat) := ⟨hl1 ▸ HC1.out⟩
  have HF : Aside0 (image_open1.f k l1 = some (r1, r2, r3, r4, rl, 0)) := ⟨hl1 ▸ HF.out⟩
  clear hl1
  have HRA := Aside0.mk (Kd.C_alloc HR1.out (Obj.cells #[.int .i64 0, .int .i64 0, .int .i64 0, .int .i64 0] 23))
  have hsA : (w.alloc (Obj.cells #[.int .i64 0, .int .i64 0, .int .i64 0, .int .i64 0] 23)).heap.size = w.heap.size + 1 := Array.size_push ..
  have RD : Aside0 (Rd (w.alloc (Obj.cells #[.int .i64 0, .int .i64 0, .int .i64 0, .int .i64 0] 23)) (w.heap.size + 1) 0 0 0 0 A1 l1.length (c0 - a1.toNat) ((w.alloc (Obj.cells #[.int .i64 0, .int .i64 0, .int .i64 0, .int .i64 0] 23)).alloc (.cells #[.int .i64 0, .int .i64 0, .int .i64 0, .int .i64 0, .slice A1 l1.length (c0 - a1.toNat)] 57))) := ⟨⟨below_alloc (Below.refl _ _) _, by rw [hsA]; omega, by rw [← hsA]; exact blk_new _ _⟩⟩
  have HCL := Aside0.mk hcl
  clear hcl
  go_enter Try.func13, Try.ntmps13
  go_wp2_with (go_at_call 28; (with_reducible refine (image_open1.calls k _ A1 (c0 - a1.toNat) l1 r1 r2 r3 r4 rl 0 (w.alloc (Obj.cells #[.int .i64 0, .int .i64 0, .int .i64 0, .int .i64 0] 23)) _ HRA.out HC1.out RD.out HF.out).mono ?_); rintro e w1 ⟨v, rfl, hb1, hgood⟩; obtain ⟨A', c', rfl, hlc', hC', hR'⟩ := hgood rfl; have HCC := Aside0.mk hlc'; have HCR := Aside0.mk (Kd.C_below hC' hb1); have RD1 := Aside0.mk hR'; clear hlc' hC' hR' hgood; have HB1 := Aside0.mk (below_step (below_alloc (Below.refl _ w) _) hb1); have BK := Aside0.mk (blk_below (blk_new w (Obj.cells #[.int .i64 0, .int .i64 0, .int .i64 0, .int .i64 0] 23)) hb1); have z0 : w1.cell? ⟨w.heap.size, 0, none⟩ = some (.int .i64 0) := blk_cell BK.out 0; have z1 : w1.cell? ⟨w.heap.size, 1, none⟩ = some (.int .i64 0) := blk_cell BK.out 1; have z2 : w1.cell? ⟨w.heap.size, 2, none⟩ = some (.int .i64 0) := blk_cell BK.out 2; have z3 : w1.cell? ⟨w.heap.size, 3, none⟩ = some (.int .i64 0) := blk_cell BK.out 3; have f0 := blk_frozen BK.out 0; have f1 := blk_frozen BK.out 1; have f2 := blk_frozen BK.out 2; have f3 := blk_frozen BK.out 3; have y0 := RD1.out.c0; have y1 := RD1.out.c1; have y2 := RD1.out.c2; have y3 := RD1.out.c3; have hlt1 : w.heap.size < w1.heap.size := blk_lt BK.out; have hlt2 : w.heap.size + 1 < w1.heap.size := blk_lt RD1.out.hp; clear hb1)
  go_wp2_with fail
  go_region_held3 (fun w' => w'.cell? ⟨w.heap.size + 1, 0, none⟩ = some (.int .i64 r1) ∧ w'.cell? ⟨w.heap.size + 1, 1, none⟩ = some (.int .i64 r2) ∧ w'.cell? ⟨w.heap.size + 1, 2, none⟩ = some (.int .i64 r3) ∧ w'.cell? ⟨w.heap.size + 1, 3, none⟩ = some (.int .i64 r4)) (first | exact ⟨y0, y1, y2, y3⟩ | exact ⟨n0, n1, n2, n3⟩ | go_keep) (first | (go_at_call 29; (with_reducible refine (slices_Clone_byte_byte.calls A' c' rl rc _ ?hr1 ?hc1 HCL.out).mono ?_); (case hr1 => first | exact HCR.out | exact Kd.C_drew HCR.out | exact Kd.C_below HCR.out (below_drew (below_set (below_set (below_set (below_set (Below.refl _ _) (by omega)) (by omega)) (by omega)) (by omega)))); (case hc1 => exact HCC.out); rintro e w2 ⟨v2, rfl, ho2, hb2⟩; have HB2 := Aside0.mk (show Below w.heap.size w w2 from below_step (by first | exact HB1.out | exact below_drew HB1.out | exact below_drew (below_set (below_set (below_set (below_set HB1.out (Nat.le_refl _)) (Nat.le_refl _)) (Nat.le_refl _)) (Nat.le_refl _)) | exact (below_set (below_set (below_set (below_set HB1.out (Nat.le_refl _)) (Nat.le_refl _)) (Nat.le_refl _)) (Nat.le_refl _))) hb2); have HO2 := Aside0.mk (Kd.R_lower (base' := w.heap.size + 1) ho2 (by first | omega | (simp; omega))); have hs2 := below_size hb2; have n0 : w2.cell? ⟨w.heap.size + 1, 0, none⟩ = some (.int .i64 r1) := pw_cell_below hb2 (by first | assumption | go_simp); have n1 : w2.cell? ⟨w.heap.size + 1, 1, none⟩ = some (.int .i64 r2) := pw_cell_below hb2 (by first | assumption | go_simp); have n2 : w2.cell? ⟨w.heap.size + 1, 2, none⟩ = some (.int .i64 r3) := pw_cell_below hb2 (by first | assumption | go_simp); have n3 : w2.cell? ⟨w.heap.size + 1, 3, none⟩ = some (.int .i64 r4) := pw_cell_below hb2 (by first | assumption | go_simp); (try (have z0' : w2.cell? ⟨w.heap.size, 0, none⟩ = some (.int .i64 0) := pw_cell_below hb2 z0; have z1' : w2.cell? ⟨w.heap.size, 1, none⟩ = some (.int .i64 0) := pw_cell_below hb2 z1; have z2' : w2.cell? ⟨w.heap.size, 2, none⟩ = some (.int .i64 0) := pw_cell_below hb2 z2; have z3' : w2.cell? ⟨w.heap.size, 3, none⟩ = some (.int .i64 0) := pw_cell_below hb2 z3; have f0' := frozen_below hb2 z0 f0; have f1' := frozen_below hb2 z1 f1; have f2' := frozen_below hb2 z2 f2; have f3' := frozen_below hb2 z3 f3)); clear ho2 hb2))
  have HO3 := Aside0.mk (Kd.R_mono (Kd.R_bound HO2.out) (ok' := fun k => k ≠ w.heap.size) (fun k hk => by have := hk.2.1; omega))
  have hne : ∀ k, k ≠ w.heap.size → k ≠ (⟨w.heap.size, 0, none⟩ : Addr).block := fun _ h => h
  have HOF := Aside0.mk (Kd.R_far (Kd.R_far (Kd.R_far (Kd.R_far HO3.out (p := ⟨w.heap.size, 0, none⟩) (fun _ h => h) (.int .i64 r1)) (p := ⟨w.heap.size, 1, none⟩) (fun _ h => h) (.int .i64 r2)) (p := ⟨w.heap.size, 2, none⟩) (fun _ h => h) (.int .i64 r3)) (p := ⟨w.heap.size, 3, none⟩) (fun _ h => h) (.int .i64 r4))
  have HBF := Aside0.mk (below_set (below_set (below_set (below_set HB2.out (Nat.le_refl _) (j := 0) (v := .int .i64 r1)) (Nat.le_refl _) (j := 1) (v := .int .i64 r2)) (Nat.le_refl _) (j := 2) (v := .int .i64 r3)) (Nat.le_refl _) (j := 3) (v := .int .i64 r4))
  go_wp2
  refine bodyPost_ret (v := .tuple #[.agg #[.int .i64 r1, .int .i64 r2, .int .i64 r3, .int .i64 r4], v2, .int .i64 0]) (by simp [results, Try.results13, go_sem, z0', z1', z2', z3']) rfl ⟨v2, rfl, ?_, ?_⟩
  · first | exact Kd.R_lower (Kd.R_mono HOF.out (fun _ _ => trivial)) (by omega) | exact Kd.R_drew (Kd.R_lower (Kd.R_mono HOF.out (fun _ _ => trivial)) (by omega))
  · first | exact HBF.out | exact below_drew HBF.out
theorem image_Open.calls (k : Nat) (A0 : Option Addr) (c0 : Nat) (l0 : List Int) (a1 : Int) (r1 r2 r3 r4 : Int) (r5 : List Int) (r6 : Int) (w : World) (hr0 : Kd.C (Kd.int .u8) w A0 l0.length l0) (hc0 : l0.length ≤ c0) (h : image_Open.f k l0 a1 = some (r1, r2, r3, r4, r5, r6)) :
    Calls Try.prog 13 #[.slice A0 l0.length c0, .int .i64 a1] w fun e w' => ∃ v1_ : Value, e = .returned (.tuple #[.agg #[.int .i64 r1, .int .i64 r2, .int .i64 r3, .int .i64 r4], v1_, .int .i64 r6]) ∧ Kd.R (Kd.int .u8) 5 w' w.heap.size (fun _ => True) v1_ r5 ∧ Below w.heap.size w w' := by
  unfold image_Open.f at h
  by_cases c1 : a1 < 0
  · rw [if_pos c1] at h
    simp only [Option.some.injEq, Prod.mk.injEq] at h
    obtain ⟨rfl, rfl, rfl, rfl, rfl, rfl⟩ := h
    exact (image_Open.calls_out A0 c0 l0 a1 w (.inl c1)).mono (fun e w' h => ⟨_, h.1, Kd.R_nil _ _ _ _ _, h.2⟩)
  rw [if_neg c1] at h
  by_cases c2 : (l0.length : Int) < a1
  · rw [if_pos c2] at h
    simp only [Option.some.injEq, Prod.mk.injEq] at h
    obtain ⟨rfl, rfl, rfl, rfl, rfl, rfl⟩ := h
    exact (image_Open.calls_out A0 c0 l0 a1 w (.inr ⟨by omega, c2⟩)).mono (fun e w' h => ⟨_, h.1, Kd.R_nil _ _ _ _ _, h.2⟩)
  rw [if_neg c2] at h
  obtain ⟨⟨x1, x2, x3, x4, xl, xe⟩, hx, h⟩ := Option.bind_eq_some_iff.mp h
  by_cases c3 : xe = 0
  · rw [if_pos c3] at h
    obtain ⟨c, hc, h⟩ := Option.bind_eq_some_iff.mp h
    simp only [Option.some.injEq, Prod.mk.injEq] at h
    obtain ⟨rfl, rfl, rfl, rfl, rfl, rfl⟩ := h
    exact image_Open.calls_ok k A0 c0 l0 a1 _ _ _ _ xl xe w hr0 hc0 (by omega) (by omega) hx c3 _ hc
  · rw [if_neg c3] at h
    simp only [Option.some.injEq, Prod.mk.injEq] at h
    obtain ⟨rfl, rfl, rfl, rfl, rfl, rfl⟩ := h
    exact (image_Open.calls_err k A0 c0 l0 a1 _ _ _ _ xl _ w hr0 hc0 (by omega) (by omega) hx c3).mono (fun e w' h => ⟨_, h.1, Kd.R_nil _ _ _ _ _, h.2⟩)

end Go.Proofs.Ytkblieonpncacaa.F
