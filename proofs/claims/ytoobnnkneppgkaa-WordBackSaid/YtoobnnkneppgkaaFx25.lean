-- Written by this session's px.sh, a turned copy of the print, out of the translation. Lean checks it.
import Derived.Test.YtoobnnkneppgkaaFx0
import Derived.Test.YtoobnnkneppgkaaFx2
namespace Go.Proofs.Ytoobnnkneppgkaa.F
open Go.RowKit Go.Proofs.YtoobnnkneppgkaaW.PrintWords Go.Proofs.YtoobnnkneppgkaaW.PrintLast Go.Proofs.YtoobnnkneppgkaaW.PrintMore
attribute [local go_sem] max2_int min2_int max_two min_two max_three min_three max_four min_four   -- for this text's walks alone
set_option linter.unusedVariables false
set_option linter.unusedSimpArgs false

/-! ### word_Text: function 41 -/
/-- The i-th digit of a word's text. -/
def textd (p : Int) : Int := IntKind.u8.wrap (Go.bits .and .u64 p 15)
def textc (d : Int) : Int := if d < 10 then IntKind.u8.wrap (48 + d) else IntKind.u8.wrap (IntKind.u8.wrap (97 + d) - 10)
def texti (a b : Int) (i : Nat) : Int := match word_Shr.f a b (124 - 4 * (i : Int)) with | some p => textc (textd p.2) | none => 0
def word_Text.f (a0_0 : Int) (a0_1 : Int) : Option ByteArray := some (strOfNums ((List.range 32).map (texti a0_0 a0_1)))
theorem shr_some (a b : Int) {n : Int} (h0 : 0 ≤ n) (h1 : n ≤ 127) : ∃ r, word_Shr.f a b n = some r := by
  unfold word_Shr.f
  by_cases c1 : n ≤ 0
  · rw [if_pos c1]; exact ⟨_, rfl⟩
  rw [if_neg c1]
  by_cases c2 : n < 64
  · have e1 : wrap64 (64 - n) = 64 - n := by unfold wrap64; omega
    simp only [if_pos c2, show (0 : Int) ≤ n by omega, e1, show (0 : Int) ≤ 64 - n by omega, if_true]; exact ⟨_, rfl⟩
  rw [if_neg c2]
  have e1 : wrap64 (n - 64) = n - 64 := by unfold wrap64; omega
  simp only [show n < 128 by omega, e1, show (0 : Int) ≤ n - 64 by omega, if_true]; exact ⟨_, rfl⟩
theorem word_field_lo (x y : Int) (w : World) : (Instr.field 24 (.agg #[.int .u64 x, .int .u64 y]) 1).run Try.prog w = .ok (.int .u64 y) w := by
  have hu := Try.underlying24
  unfold Instr.field
  go_simp
  rfl
theorem size_alloc (w : World) (o : Obj) : (w.alloc o).heap.size = w.heap.size + 1 := Array.size_push ..
theorem alloc_at (w : World) (o : Obj) : (w.alloc o).heap[w.heap.size]? = some o := Array.getElem?_push_size ..
structure Txt (w : World) (a b : Int) (i : Nat) (wr : World) : Prop where
  c0 : wr.cell? ⟨w.heap.size, 0, none⟩ = some (.int .u64 a)
  c1 : wr.cell? ⟨w.heap.size, 1, none⟩ = some (.int .u64 b)
  ar : ∀ j, j < 32 → wr.cell? ⟨w.heap.size + 1, j, none⟩ = some (.int .u8 (if j < i then texti a b j else 0))
  fr : ∀ j, j < 32 → wr.frozen? ⟨w.heap.size + 1, j, none⟩ = false
  bl : Below w.heap.size w wr
theorem wrap8_eq (x : Int) : IntKind.u8.wrap x = x % 256 := by
  simp only [IntKind.wrap]
  rfl
theorem Txt.step {w wr w1 : World} {a b : Int} {i : Nat} (h : Txt w a b i wr) (hi : i < 32) (hb : Below wr.heap.size wr w1) {v : Int} (hv : texti a b i = v) : Txt w a b (i + 1) (w1.setCell ⟨w.heap.size + 1, i, none⟩ (.int .u8 v)) := by
  have far : ∀ {c off : Nat} {u : Value}, w1.cell? ⟨c, off, none⟩ = some u → (c ≠ w.heap.size + 1 ∨ off ≠ i) → (w1.setCell ⟨w.heap.size + 1, i, none⟩ (.int .u8 v)).cell? ⟨c, off, none⟩ = some u := by
    intro c off u hc hne
    rw [World.cell?_setCell_other _ _ _ _ (by intro e; simp only [Addr.mk.injEq] at e; omega)]; exact hc
  refine ⟨far (pw_cell_below hb h.c0) (.inl (by omega)), far (pw_cell_below hb h.c1) (.inl (by omega)), fun j hj => ?_, fun j hj => ?_, below_set (below_step h.bl hb) (by omega)⟩
  · by_cases c : j = i
    · subst c
      rw [if_pos (by omega), hv]
      exact World.cell?_setCell_same _ _ _ (pw_cell_below hb (h.ar j hj))
    · have h2 := pw_cell_below hb (h.ar j hj)
      have e3 : (if j < i + 1 then texti a b j else 0) = (if j < i then texti a b j else 0) := by
        by_cases q : j < i
        · rw [if_pos q, if_pos (by omega)]
        · rw [if_neg q, if_neg (by omega)]
      rw [e3]
      exact far h2 (.inr c)
  · have h2 := frozen_below hb (h.ar j hj) (h.fr j hj)
    rw [World.frozen?_setCell]; exact h2
attribute [local go_sem high] word_field_lo in
set_option maxHeartbeats 2000000 in
set_option maxRecDepth 100000 in
theorem word_Text.calls (a0_0 : Int) (a0_1 : Int) (r : ByteArray) (w : World) (h : word_Text.f a0_0 a0_1 = some r) :
    Calls Try.prog 41 #[.agg #[.int .u64 a0_0, .int .u64 a0_1]] w fun e w' => e = .returned (.string r) ∧ Below w.heap.size w w' := by
  have huW := Try.underlying24
  unfold word_Text.f at h
  obtain rfl := Option.some.inj h
  clear h
  go_enter Try.func41, Try.ntmps41
  go_wp2
  go_loopw [6] (fun v wr => ∃ i : Nat, i ≤ 32 ∧ v = .int .i64 (i : Int) ∧ Aside0 (Txt w a0_0 a0_1 i wr)) (fun v _ => 32 - (intOf v).toNat)
  case atStart =>
    have HB : Below w.heap.size w ((w.alloc (Obj.cells #[.int .u64 a0_0, .int .u64 a0_1] 24))) := below_alloc (Below.refl _ w) _
    refine ⟨0, by omega, rfl, ⟨⟨by go_simp, by go_simp, fun j hj => ?_, fun j hj => ?_, below_alloc HB _⟩⟩⟩
    · rw [if_neg (by omega)]
      refine (blk_cell (g := w.heap.size + 1) (cs := Array.replicate 32 (.int .u8 0)) (t := 59) (by rw [show w.heap.size + 1 = (w.alloc (Obj.cells #[.int .u64 a0_0, .int .u64 a0_1] 24)).heap.size from (size_alloc _ _).symm]; exact alloc_at _ _) j).trans ?_
      rw [Array.getElem?_replicate, if_pos hj]
    · exact World.frozen?_alloc_at _ _ _ _ (by rw [size_alloc])
  case round =>
    obtain ⟨i, hi, rfl, HT⟩ := hrel
    by_cases hlt : i < 32
    · have e1 : IntKind.i64.wrap (4 * (i : Int)) = 4 * (i : Int) := IntWalk.i64_in _ (by omega)
      have e2 : IntKind.i64.wrap (124 - 4 * (i : Int)) = 124 - 4 * (i : Int) := IntWalk.i64_in _ (by omega)
      obtain ⟨⟨p1, p2⟩, hp0⟩ := shr_some a0_0 a0_1 (n := 124 - 4 * (i : Int)) (by omega) (by omega)
      have hp := Aside0.mk hp0
      clear hp0
      have c0 := HT.out.c0
      have c1 := HT.out.c1
      have ci := HT.out.ar i hlt
      rw [if_neg (by omega)] at ci
      have fi := HT.out.fr i hlt
      have hi0 : (0 : Int) ≤ (i : Int) := by omega
      have hi1 : (i : Int) < 32 := by omega
      have ht : texti a0_0 a0_1 i = textc (textd p2) := by unfold texti; rw [hp.out]
      go_wp2_with (go_at_call 22; (with_reducible refine (word_Shr.calls a0_0 a0_1 (124 - 4 * (i : Int)) p1 p2 _ hp.out).mono ?_); rintro e w1 ⟨rfl, hb⟩; have ci1 := pw_cell_below hb ci; have fi1 := frozen_below hb ci fi; have hbA := Aside0.mk hb; clear hb)
      all_goals refine ⟨⟨i + 1, by omega, by go_num, ⟨HT.out.step hlt hbA.out (ht.trans ?_)⟩⟩, by simp [intOf]; omega⟩
      all_goals simp only [textc, textd, wrap8_eq]
      all_goals split <;> omega
    · obtain rfl : i = 32 := by omega
      have hc := run_convert_bytes_arg (P := Try.prog) wr 60 5 Try.underlying60 Try.underlying5 (w.heap.size + 1) 0 32 32 ((List.range 32).map (texti a0_0 a0_1)) (by simp) (fun j hj => by
        have := HT.out.ar j hj
        rw [if_pos hj] at this
        rw [Nat.zero_add, this, List.getD_eq_getElem?_getD, List.getElem?_map, List.getElem?_range hj]; rfl) 9 Try.underlying9
      go_wp2_with (simp only [hc])
      go_ret
      exact ⟨rfl, HT.out.bl⟩

end Go.Proofs.Ytoobnnkneppgkaa.F
