-- Written by this session's px.sh, a turned copy of the print, out of the translation. Lean checks it.
import Derived.Test.YtkblieonpncacaaFx0
namespace Go.Proofs.Ytkblieonpncacaa.F
open Go.RowKit Go.Proofs.YtkblieonpncacaaW.PrintWords Go.Proofs.YtkblieonpncacaaW.PrintLast Go.Proofs.YtkblieonpncacaaW.PrintMore
attribute [local go_sem] max2_int min2_int max_two min_two max_three min_three max_four min_four   -- for this text's walks alone
set_option linter.unusedVariables false
set_option linter.unusedSimpArgs false

/-! ### wire_Sum: function 23 -/
/-- A step of the sum's table. -/
def hstep (c : Int) : Int := Go.bits .xor .u32 (c / 2) (Go.bits .and .u32 2197175160 ((-Go.bits .and .u32 c 1) % 4294967296))
def hph (i : Nat) : Nat → Int
  | 0 => (i : Int)
  | k + 1 => hstep (hph i k)
def htab : List Int := (List.range 16).map fun i => hph i 4
theorem hph_ok : ∀ i : Fin 16, ∀ k : Fin 5, 0 ≤ hph i.val k.val ∧ hph i.val k.val < 4294967296 := by decide +kernel
theorem htab_at : ∀ i : Fin 16, hph i.val 4 = htab.getD i.val 0 := by decide +kernel
theorem ws_size_alloc (w : World) (o : Obj) : (w.alloc o).heap.size = w.heap.size + 1 := Array.size_push ..
theorem ws_alloc_at (w : World) (o : Obj) : (w.alloc o).heap[w.heap.size]? = some o := Array.getElem?_push_size ..
structure Hlv (w : World) (i : Nat) (wr : World) : Prop where
  r0 : ∀ j, j < 16 → wr.cell? ⟨w.heap.size, j, none⟩ = some (.int .u32 0)
  f0 : ∀ j, j < 16 → wr.frozen? ⟨w.heap.size, j, none⟩ = false
  c1 : ∀ j, j < 16 → wr.cell? ⟨w.heap.size + 1, j, none⟩ = some (.int .u32 (if j < i then htab.getD j 0 else 0))
  f1 : ∀ j, j < 16 → wr.frozen? ⟨w.heap.size + 1, j, none⟩ = false
  bl : Below w.heap.size w wr
theorem Hlv.start (w : World) (a b : Nat) : Hlv w 0 ((w.alloc (.cells (Array.replicate 16 (.int .u32 0)) a (0, 0))).alloc (.cells (Array.replicate 16 (.int .u32 0)) b (0, 0))) := by
  have HB : Below w.heap.size w (w.alloc (.cells (Array.replicate 16 (.int .u32 0)) a (0, 0))) := below_alloc (Below.refl _ w) _
  have e0 : ((w.alloc (.cells (Array.replicate 16 (.int .u32 0)) a (0, 0))).alloc (.cells (Array.replicate 16 (.int .u32 0)) b (0, 0))).heap[w.heap.size]? = some (.cells (Array.replicate 16 (.int .u32 0)) a (0, 0)) := by
    rw [(below_alloc (Below.refl _ (w.alloc (.cells (Array.replicate 16 (.int .u32 0)) a (0, 0)))) (.cells (Array.replicate 16 (.int .u32 0)) b (0, 0))).block _ (by rw [ws_size_alloc]; omega)]; exact ws_alloc_at _ _
  have e1 : ((w.alloc (.cells (Array.replicate 16 (.int .u32 0)) a (0, 0))).alloc (.cells (Array.replicate 16 (.int .u32 0)) b (0, 0))).heap[w.heap.size + 1]? = some (.cells (Array.replicate 16 (.int .u32 0)) b (0, 0)) := by
    rw [show w.heap.size + 1 = (w.alloc (.cells (Array.replicate 16 (.int .u32 0)) a (0, 0))).heap.size from (ws_size_alloc _ _).symm]; exact ws_alloc_at _ _
  refine ⟨fun j hj => ?_, fun j hj => ?_, fun j hj => ?_, fun j hj => ?_, below_alloc HB _⟩
  · refine (blk_cell e0 j).trans ?_
    rw [Array.getElem?_replicate, if_pos hj]
  · exact blk_frozen e0 j
  · refine (blk_cell e1 j).trans ?_
    rw [Array.getElem?_replicate, if_pos hj, if_neg (by omega)]
  · exact blk_frozen e1 j
theorem Hlv.step {w wr : World} {i : Nat} (h : Hlv w i wr) (hi : i < 16) : Hlv w (i + 1) (wr.setCell ⟨w.heap.size + 1, i, none⟩ (.int .u32 (hph i 4))) := by
  have far : ∀ {c off : Nat} {u v : Value}, wr.cell? ⟨c, off, none⟩ = some u → (c ≠ w.heap.size + 1 ∨ off ≠ i) → (wr.setCell ⟨w.heap.size + 1, i, none⟩ v).cell? ⟨c, off, none⟩ = some u := by
    intro c off u v hc hne
    rw [World.cell?_setCell_other _ _ _ _ (by intro e; simp only [Addr.mk.injEq] at e; omega)]; exact hc
  refine ⟨fun j hj => far (h.r0 j hj) (.inl (by omega)), fun j hj => by rw [World.frozen?_setCell]; exact h.f0 j hj, fun j hj => ?_, fun j hj => by rw [World.frozen?_setCell]; exact h.f1 j hj, below_set h.bl (by omega)⟩
  by_cases c : j = i
  · subst c
    rw [if_pos (by omega), htab_at ⟨j, hj⟩]
    exact World.cell?_setCell_same _ _ _ (h.c1 j hj)
  · have h2 := h.c1 j hj
    have e3 : (if j < i + 1 then htab.getD j 0 else 0) = (if j < i then htab.getD j 0 else 0) := by
      by_cases q : j < i
      · rw [if_pos q, if_pos (by omega)]
      · rw [if_neg q, if_neg (by omega)]
    rw [e3]
    exact far h2 (.inr c)
theorem ws_below_cells {w : World} (b : Nat) (hb : w.heap.size ≤ b) : ∀ (vs : List Value) (o : Nat) (W : World), Below w.heap.size w W → Below w.heap.size w (W.setCells b o vs)
  | [], _, _, h => h
  | v :: vs, o, W, h => ws_below_cells b hb vs (o + 1) _ (below_set h hb)
theorem ws_results_cell_mid {P : Program} {fn : Func} {p : Tmp} {ty : TypeId} (h : fn.results = #[.cell p ty]) (tmps : Array Value) (w : World) (b : Nat) (cs : List Value) (d : TypeDesc)
    (hp : tmps.getD p undef = .pointer (some ⟨b, 0, none⟩)) (hc : w.rangeAt b 0 cs) (hu : P.underlying ty = some d) (hd : d.isRow = true) (hi : (P.info? ty).map (·.size) = some cs.length) :
    (results fn tmps).run P w = .ok (.agg cs.toArray) w := by
  have hp' : tmps[p]?.getD undef = .pointer (some ⟨b, 0, none⟩) := by simpa using hp
  simp [results, h, hp', asAddr, run_loadVar_mid w b 0 ty cs d hc hu hd hi]
def ws_int : Value → Int | .int _ q => q | _ => 0
set_option maxHeartbeats 4000000 in
set_option maxRecDepth 100000 in
theorem wire_halves1.calls (w : World) :
    Calls Try.prog 34 #[] w fun e w' => e = .returned (.agg (htab.map (Value.int .u32)).toArray) ∧ Below w.heap.size w w' := by
  go_enter Try.func34, Try.ntmps34
  go_wp2
  go_loopw [2, 3, 4, 5, 6, 7, 8, 9] (fun v2 v3 v4 v5 v6 v7 v8 v9 wr => ∃ i : Nat, i ≤ 16 ∧ v4 = .int .i64 (i : Int) ∧ Aside0 (Hlv w i wr)) (fun v2 v3 v4 v5 v6 v7 v8 v9 _ => 16 - (ws_int v4).toNat)
  case atStart => exact ⟨0, by omega, rfl, ⟨Hlv.start w _ _⟩⟩
  case round =>
    obtain ⟨i, hi, rfl, HT⟩ := hrel
    by_cases hlt : i < 16
    · have ci := HT.out.c1 i hlt
      rw [if_neg (by omega)] at ci
      have fi := HT.out.f1 i hlt
      go_wp2
      go_loop [3, 9] (fun v3 v9 => ∃ (k : Nat), k ≤ 4 ∧ v9 = .int .i64 (k : Int) ∧ v3 = .int .u32 (hph i k)) (fun v3 v9 => 4 - (ws_int v9).toNat)
      case atStart => exact ⟨0, by omega, rfl, rfl⟩
      case round =>
        obtain ⟨k, hk, rfl, rfl⟩ := hrel
        obtain ⟨hc0, hc1⟩ := hph_ok ⟨i, hlt⟩ ⟨k, by omega⟩
        simp only at hc0 hc1
        by_cases hk4 : k < 4
        · go_wp2
          exact ⟨⟨k + 1, by omega, by go_num, rfl⟩, by simp [ws_int]; omega⟩
        · obtain rfl : k = 4 := by omega
          go_wp2
          exact ⟨⟨i + 1, by omega, by go_num, ⟨HT.out.step hlt⟩⟩, by simp [ws_int]; omega⟩
    · obtain rfl : i = 16 := by omega
      have hr : wr.rangeAt (w.heap.size + 1) 0 (htab.map (Value.int .u32)) := by
        intro j v hv
        have hj : j < 16 := by
          have := (List.getElem?_eq_some_iff.mp hv).1
          rw [List.length_map] at this; exact this
        have := HT.out.c1 j hj
        rw [if_pos hj] at this
        rw [Nat.zero_add, this, List.getElem?_map] at *
        rw [List.getD_eq_getElem?_getD]
        cases hq : htab[j]? with
        | none => rw [hq] at hv; cases hv
        | some x => rw [hq] at hv; simpa using hv
      have ht : wr.there w.heap.size 0 16 := by
        intro j hj
        rw [Nat.zero_add, HT.out.r0 j hj, HT.out.f0 j hj]; exact ⟨rfl, rfl⟩
      have hi : (Try.prog.info? 68).map (·.size) = some (htab.map (Value.int .u32)).length := by kernel_rfl
      have hone : ((htab.map (Value.int .u32)).toArray).all (·.oneCell') = true := by decide +kernel
      have hbl := ws_below_cells (w := w) w.heap.size (Nat.le_refl _) (htab.map (Value.int .u32)) 0 wr HT.out.bl
      have hr2 : (wr.setCells w.heap.size 0 (htab.map (Value.int .u32))).rangeAt w.heap.size 0 (htab.map (Value.int .u32)) := World.rangeAt_setCells_same wr w.heap.size 0 _ ht
      have hrA := Aside0.mk hr
      have htA := Aside0.mk ht
      have hiA := Aside0.mk hi
      have hoA := Aside0.mk hone
      have hbA := Aside0.mk hbl
      have hr2A := Aside0.mk hr2
      clear hr ht hi hone hbl hr2
      have hu := Try.underlying68
      go_wp2_with (first | refine wpList_load_mid rfl 68 _ rfl (w.heap.size + 1) 0 rfl (htab.map (Value.int .u32)) _ hrA.out hu rfl hiA.out ?_ | refine wpList_store_mid rfl 68 _ _ rfl w.heap.size 0 ((htab.map (Value.int .u32)).toArray) rfl rfl htA.out hiA.out hoA.out ?_)
      refine bodyPost_ret (v := .agg (htab.map (Value.int .u32)).toArray) (ws_results_cell_mid (p := 0) (ty := 68) (by kernel_rfl) _ _ w.heap.size _ _ rfl hr2A.out hu rfl hiA.out) rfl ⟨rfl, hbA.out⟩
/-- A byte goes into the sum, four bits at a time. -/
def sfour (e : Int) : Int := Go.bits .xor .u32 (e / 16) (htab.getD (Go.bits .and .u32 e 15).toNat 0)
def sstep (c b : Int) : Int := sfour (sfour (Go.bits .xor .u32 c b))
def srow (c : Int) (l : List Int) : Int := l.foldl sstep c
def srows (l0 : List (List Int)) : Int := l0.foldl srow 4294967295
def wire_Sum.f (l0 : List (List Int)) : Option Int := if ∀ l ∈ l0, ∀ b ∈ l, 0 ≤ b ∧ b < 256 then some (Go.bits .xor .u32 IntKind.u32.max (srows l0)) else none
theorem s_xor_range {a b : Int} (h1 : 0 ≤ a) (h2 : a < 4294967296) (h3 : 0 ≤ b) (h4 : b < 4294967296) : 0 ≤ Go.bits .xor .u32 a b ∧ Go.bits .xor .u32 a b < 4294967296 := by
  rw [u32_xor a b h1 h2 h3 h4]
  have := Nat.xor_lt_two_pow (n := 32) (show a.toNat < 2 ^ 32 by omega) (show b.toNat < 2 ^ 32 by omega)
  omega
theorem s_and15 {a : Int} (h1 : 0 ≤ a) (h2 : a < 4294967296) : 0 ≤ Go.bits .and .u32 a 15 ∧ Go.bits .and .u32 a 15 < 16 := by
  rw [u32_and a 15 h1 h2 (by decide) (by decide)]
  have : a.toNat &&& (15 : Int).toNat ≤ (15 : Int).toNat := Nat.and_le_right
  omega
theorem htab_range (i : Nat) : 0 ≤ htab.getD i 0 ∧ htab.getD i 0 < 4294967296 := by
  by_cases h : i < 16
  · have : ∀ i : Fin 16, 0 ≤ htab.getD i.val 0 ∧ htab.getD i.val 0 < 4294967296 := by decide +kernel
    exact this ⟨i, h⟩
  · rw [List.getD_eq_getElem?_getD, List.getElem?_eq_none (by show 16 ≤ i; omega)]; decide
theorem sfour_range {e : Int} (h1 : 0 ≤ e) (h2 : e < 4294967296) : 0 ≤ sfour e ∧ sfour e < 4294967296 := by
  have := htab_range (Go.bits .and .u32 e 15).toNat
  exact s_xor_range (by omega) (by omega) this.1 this.2
theorem sstep_range {c b : Int} (h1 : 0 ≤ c) (h2 : c < 4294967296) (h3 : 0 ≤ b) (h4 : b < 256) : 0 ≤ sstep c b ∧ sstep c b < 4294967296 := by
  have e := s_xor_range h1 h2 h3 (show b < 4294967296 by omega)
  have g := sfour_range e.1 e.2
  exact sfour_range g.1 g.2
theorem srow_range {l : List Int} (hl : ∀ b ∈ l, 0 ≤ b ∧ b < 256) : ∀ {c : Int}, 0 ≤ c → c < 4294967296 → 0 ≤ srow c l ∧ srow c l < 4294967296 := by
  induction l with
  | nil => intro c h1 h2; exact ⟨h1, h2⟩
  | cons b l ih =>
    intro c h1 h2
    have hb := hl b (by simp)
    have := sstep_range h1 h2 hb.1 hb.2
    exact ih (fun x hx => hl x (by simp [hx])) this.1 this.2
theorem srows_range {ls : List (List Int)} (hl : ∀ l ∈ ls, ∀ b ∈ l, 0 ≤ b ∧ b < 256) : ∀ {c : Int}, 0 ≤ c → c < 4294967296 → 0 ≤ ls.foldl srow c ∧ ls.foldl srow c < 4294967296 := by
  induction ls with
  | nil => intro c h1 h2; exact ⟨h1, h2⟩
  | cons l ls ih =>
    intro c h1 h2
    have := srow_range (hl l (by simp)) h1 h2
    exact ih (fun x hx => hl x (by simp [hx])) this.1 this.2
theorem take_fold {α β : Type} (f : β → α → β) (z : α) (c : β) (l : List α) (k : Nat) (h : k < l.length) : (l.take (k + 1)).foldl f c = f ((l.take k).foldl f c) (l.getD k z) := by
  rw [List.take_succ_eq_append_getElem h, List.foldl_append, List.getD_eq_getElem?_getD, List.getElem?_eq_getElem h]; rfl
set_option maxHeartbeats 4000000 in
set_option maxRecDepth 100000 in
theorem wire_Sum.calls (A0 : Option Addr) (c0 : Nat) (l0 : List (List Int)) (r : Int) (w : World) (hr0 : Kd.C (Kd.slice 5 (Kd.int .u8)) w A0 l0.length l0) (hc0 : l0.length ≤ c0) (h : wire_Sum.f l0 = some r) :
    Calls Try.prog 23 #[.slice A0 l0.length c0] w fun e w' => e = .returned (.int .u32 r) ∧ Below w.heap.size w w' := by
  have HR0 := Aside0.mk hr0
  clear hr0
  unfold wire_Sum.f at h
  by_cases hall : ∀ l ∈ l0, ∀ b ∈ l, 0 ≤ b ∧ b < 256
  case neg => rw [if_neg hall] at h; cases h
  rw [if_pos hall] at h
  obtain rfl := Option.some.inj h
  clear h
  have hallA := Aside0.mk hall
  clear hall
  have hu := Try.underlying68
  have hi := Aside0.mk (show (Try.prog.info? 68).map (·.size) = some ((htab.map (Value.int .u32)).toArray).size from by kernel_rfl)
  have ho := Aside0.mk (show ((htab.map (Value.int .u32)).toArray).all (·.oneCell') = true from by decide +kernel)
  go_enter Try.func23, Try.ntmps23
  go_wp2_with (first | (go_at_call 34; (with_reducible refine (wire_halves1.calls _).mono ?_); rintro e w1 ⟨rfl, hb⟩) | refine wpList_store_mid rfl 68 _ _ rfl _ 0 ((htab.map (Value.int .u32)).toArray) rfl rfl ?hth hi.out ho.out ?_)
  case hth =>
    have hz : ((w1.alloc (Obj.cells (Array.replicate 16 (.int .u32 0)) 68))).heap[w1.heap.size]? = some (Obj.cells (Array.replicate 16 (.int .u32 0)) 68) := ws_alloc_at _ _
    intro j hj
    have hj16 : j < 16 := hj
    rw [Nat.zero_add]
    refine ⟨?_, blk_frozen hz j⟩
    have := blk_cell hz j
    rw [Array.getElem?_replicate, if_pos hj16] at this
    exact Option.isSome_iff_exists.mpr ⟨_, this⟩
  have hB : Below w.heap.size w (World.setCells (w1.alloc (Obj.cells (Array.replicate 16 (.int .u32 0)) 68)) w1.heap.size 0 (htab.map (Value.int .u32))) := ws_below_cells _ (by have := below_size hb; omega) _ _ _ (below_alloc hb _)
  have hT : ∀ j, j < 16 → (World.setCells (w1.alloc (Obj.cells (Array.replicate 16 (.int .u32 0)) 68)) w1.heap.size 0 (htab.map (Value.int .u32))).cell? ⟨w1.heap.size, j, none⟩ = some (.int .u32 (htab.getD j 0)) := by
    have hz : ((w1.alloc (Obj.cells (Array.replicate 16 (.int .u32 0)) 68))).heap[w1.heap.size]? = some (Obj.cells (Array.replicate 16 (.int .u32 0)) 68) := ws_alloc_at _ _
    intro j hj
    have ht : (w1.alloc (Obj.cells (Array.replicate 16 (.int .u32 0)) 68)).there w1.heap.size 0 (htab.map (Value.int .u32)).length := by
      intro j hj
      have hj16 : j < 16 := hj
      rw [Nat.zero_add]
      refine ⟨?_, blk_frozen hz j⟩
      have := blk_cell hz j
      rw [Array.getElem?_replicate, if_pos hj16] at this
      exact Option.isSome_iff_exists.mpr ⟨_, this⟩
    have := World.rangeAt_setCells_same _ w1.heap.size 0 (htab.map (Value.int .u32)) ht j (.int .u32 (htab.getD j 0)) (by
      rw [List.getElem?_map, List.getD_eq_getElem?_getD, List.getElem?_eq_getElem (show j < htab.length from hj)]; rfl)
    rwa [Nat.zero_add] at this
  have hC : Kd.C (Kd.slice 5 (Kd.int .u8)) (World.setCells (w1.alloc (Obj.cells (Array.replicate 16 (.int .u32 0)) 68)) w1.heap.size 0 (htab.map (Value.int .u32))) A0 l0.length l0 := Kd.C_below HR0.out hB
  have hTA := Aside0.mk hT
  have hCA := Aside0.mk hC
  have hBA := Aside0.mk hB
  clear hT hC hB hb
  generalize hW : World.setCells _ _ _ _ = W
  have hTA := Aside0.mk (hW ▸ hTA.out)
  have hCA := Aside0.mk (hW ▸ hCA.out)
  have hBA := Aside0.mk (hW ▸ hBA.out)
  have hWA := Aside0.mk hW
  clear hW
  have hl63 : (l0.length : Int) ≤ 9223372036854775807 := by have := hCA.out.2.1; omega
  go_loop [4, 11] (fun v4 v11 => ∃ i : Nat, i ≤ l0.length ∧ v11 = .int .i64 (i : Int) ∧ v4 = .int .u32 ((l0.take i).foldl srow 4294967295)) (fun _ v11 => l0.length - (ws_int v11).toNat)
  case atStart => exact ⟨0, by omega, rfl, rfl⟩
  case round =>
    obtain ⟨i, hi2, rfl, rfl⟩ := hrel
    have hcvr := srows_range (ls := l0.take i) (fun l hl => hallA.out l (List.mem_of_mem_take hl)) (c := 4294967295) (by decide) (by decide)
    by_cases hlt : i < l0.length
    · obtain ⟨ad, cc, hA, hcl, hK, hcell⟩ := Kd.C_get hCA.out ([] : List Int) (i : Int) (by omega) (by omega)
      subst hA
      obtain ⟨A, c1, hce, hlc, hrow⟩ := hK
      subst hce
      have hcell0 := hcell 0 _ rfl
      have htf0 := Aside0.mk (take_fold srow [] 4294967295 l0 i hlt)
      have hbyte := hallA.out (l0.getD i []) (by rw [List.getD_eq_getElem?_getD, List.getElem?_eq_getElem hlt]; exact List.getElem_mem hlt)
      simp only [Int.toNat_natCast] at hcell0 hlc hrow
      generalize hll : l0.getD i [] = l at hcell0 hlc hrow htf0 hbyte
      have hrowA := Aside0.mk hrow
      have hlcA := Aside0.mk hlc
      clear hll hrow hlc hcell
      have z1 : (Kd.slice 5 (Kd.int .u8)).sz = 1 := rfl
      rw [z1] at hcell0
      simp only [Nat.mul_one, Nat.add_zero] at hcell0
      generalize hcv : List.foldl srow 4294967295 (List.take i l0) = cv at hcvr htf0 ⊢
      clear hcv z1
      obtain ⟨hcv0, hcv1⟩ := hcvr
      have hl2 : (l.length : Int) ≤ 9223372036854775807 := by have := hrowA.out.2.1; omega
      go_wp2
      refine wp_scope_jumps 0 (fun a' w' => w' = W ∧ ∃ (k : Nat) (u15 u16 u17 u18 u19 u20 u21 u22 u23 u24 u25 u26 u27 u28 u29 u30 u31 u32 u33 u34 u35 u36 u37 u38 u39 u40 u41 : Value), k ≤ l.length ∧ a' = { tmps := #[.slice (some ad) l0.length c0, undef, .int .u32 0, .pointer (some ⟨w1.heap.size, 0, none⟩), .int .u32 ((l.take k).foldl sstep cv), undef, .slice A l.length c1, .int .i64 (k : Int), .agg (htab.map (Value.int .u32)).toArray, .slice (some ad) l0.length c0, .int .i64 (l0.length : Int), .int .i64 (i : Int), .bool true, .pointer (some (ad.add i)), .slice A l.length c1, u15, u16, u17, u18, u19, u20, u21, u22, u23, u24, u25, u26, u27, u28, u29, u30, u31, u32, u33, u34, u35, u36, u37, u38, u39, u40, u41, u42, undef, undef], defers := [] }) (fun a' _ => l.length - (ws_int (a'.tmps.getD 7 undef)).toNat) rfl ?_ ?_
      · go_wp2_with fail
        go_step3
        obtain ⟨k, hk0⟩ : ∃ k : Nat, k = 0 := ⟨0, rfl⟩
        have hcc0 := Aside0.mk (show (l.take k).foldl sstep cv = cv by rw [hk0]; rfl)
        rw [show (Value.int .i64 0) = Value.int .i64 (k : Int) by rw [hk0]; rfl]
        clear hk0
        by_cases hk4 : k < l.length
        · obtain ⟨ad2, cc2, hA2, hcl2, hK2, hcell2⟩ := Kd.C_get hrowA.out (0 : Int) ((k : Nat) : Int) (by omega) (by omega)
          subst hA2
          have hce2 : cc2 = [Value.int .u8 (l.getD (k : Nat) 0)] := hK2
          subst hce2
          have hc2 := hcell2 0 _ rfl
          have z2 : (Kd.int .u8).sz = 1 := rfl
          rw [z2] at hc2
          simp only [Int.toNat_natCast, Nat.mul_one, Nat.add_zero] at hc2
          have htf := Aside0.mk (take_fold sstep 0 cv l k hk4)
          have hb0 := hbyte (l.getD k 0) (by rw [List.getD_eq_getElem?_getD, List.getElem?_eq_getElem hk4]; exact List.getElem_mem hk4)
          have hcr := srow_range (l := l.take k) (fun b hb => hbyte b (List.mem_of_mem_take hb)) hcv0 hcv1
          unfold srow at hcr
          generalize hbb : l.getD k 0 = b at hb0 hc2 htf
          rw [hcc0.out] at hcr
          have htf := Aside0.mk (by have z := htf.out; rw [hcc0.out] at z; exact z)
          clear hcell2 hbb hK2 hcl2
          obtain ⟨hb1, hb2⟩ := hb0
          obtain ⟨hc3, hc4⟩ := hcr
          have he0 := s_xor_range hc3 hc4 hb1 (show b < 4294967296 by omega)
          generalize he : Go.bits .xor .u32 cv b = e at he0
          have hx0 := s_and15 he0.1 he0.2
          have hg0 := sfour_range he0.1 he0.2
          have hgd := Aside0.mk (show sfour e = _ from rfl)
          unfold sfour at hg0
          generalize hx : Go.bits .and .u32 e 15 = x at hx0 hg0
          have hcx := hTA.out x.toNat (by omega)
          generalize htx : htab.getD x.toNat 0 = tx at hcx hg0
          generalize hg : Go.bits .xor .u32 (e / 16) tx = g at hg0
          have hy0 := s_and15 hg0.1 hg0.2
          generalize hy : Go.bits .and .u32 g 15 = y at hy0
          have hcy := hTA.out y.toNat (by omega)
          generalize hty : htab.getD y.toNat 0 = ty at hcy
          have hend := Aside0.mk (show sstep cv b = Go.bits .xor .u32 (g / 16) ty by unfold sstep sfour; rw [he, hx, htx, hg, hy, hty])
          obtain ⟨he1, he2⟩ := he0
          obtain ⟨hx1, hx2⟩ := hx0
          obtain ⟨hg1, hg2⟩ := hg0
          obtain ⟨hy1, hy2⟩ := hy0
          clear htx hty hgd
          go_wp2
          go_step3
          rw [show Go.bits .xor .u32 (g / 16) ty = (l.take (k + 1)).foldl sstep cv by rw [htf.out, hend.out]]
          exact ⟨rfl, rfl, k + 1, _, _, _, _, _, _, _, _, _, _, _, _, _, _, _, _, _, _, _, _, _, _, _, _, _, _, _, by omega, rfl⟩
        · have hfull : (l.take k).foldl sstep cv = srow cv l := by unfold srow; rw [List.take_of_length_le (by omega)]
          have hfA := Aside0.mk hfull
          clear hfull
          go_wp2
          simp only [Exit.jump]
          go_wp2
          exact ⟨⟨i + 1, by omega, by go_num, by rw [htf0.out, ← hfA.out, hcc0.out]⟩, by simp [ws_int]; omega⟩
      · rintro a' w' ⟨rfl, k, u15, u16, u17, u18, u19, u20, u21, u22, u23, u24, u25, u26, u27, u28, u29, u30, u31, u32, u33, u34, u35, u36, u37, u38, u39, u40, u41, hk, rfl⟩
        by_cases hk4 : k < l.length
        · obtain ⟨ad2, cc2, hA2, hcl2, hK2, hcell2⟩ := Kd.C_get hrowA.out (0 : Int) ((k : Nat) : Int) (by omega) (by omega)
          subst hA2
          have hce2 : cc2 = [Value.int .u8 (l.getD (k : Nat) 0)] := hK2
          subst hce2
          have hc2 := hcell2 0 _ rfl
          have z2 : (Kd.int .u8).sz = 1 := rfl
          rw [z2] at hc2
          simp only [Int.toNat_natCast, Nat.mul_one, Nat.add_zero] at hc2
          have htf := Aside0.mk (take_fold sstep 0 cv l k hk4)
          have hb0 := hbyte (l.getD k 0) (by rw [List.getD_eq_getElem?_getD, List.getElem?_eq_getElem hk4]; exact List.getElem_mem hk4)
          have hcr := srow_range (l := l.take k) (fun b hb => hbyte b (List.mem_of_mem_take hb)) hcv0 hcv1
          unfold srow at hcr
          generalize hbb : l.getD k 0 = b at hb0 hc2 htf
          generalize hcc : (l.take k).foldl sstep cv = c at hcr htf ⊢
          clear hcell2 hbb hK2 hcl2
          obtain ⟨hb1, hb2⟩ := hb0
          obtain ⟨hc3, hc4⟩ := hcr
          have he0 := s_xor_range hc3 hc4 hb1 (show b < 4294967296 by omega)
          generalize he : Go.bits .xor .u32 c b = e at he0
          have hx0 := s_and15 he0.1 he0.2
          have hg0 := sfour_range he0.1 he0.2
          have hgd := Aside0.mk (show sfour e = _ from rfl)
          unfold sfour at hg0
          generalize hx : Go.bits .and .u32 e 15 = x at hx0 hg0
          have hcx := hTA.out x.toNat (by omega)
          generalize htx : htab.getD x.toNat 0 = tx at hcx hg0
          generalize hg : Go.bits .xor .u32 (e / 16) tx = g at hg0
          have hy0 := s_and15 hg0.1 hg0.2
          generalize hy : Go.bits .and .u32 g 15 = y at hy0
          have hcy := hTA.out y.toNat (by omega)
          generalize hty : htab.getD y.toNat 0 = ty at hcy
          have hend := Aside0.mk (show sstep c b = Go.bits .xor .u32 (g / 16) ty by unfold sstep sfour; rw [he, hx, htx, hg, hy, hty])
          obtain ⟨he1, he2⟩ := he0
          obtain ⟨hx1, hx2⟩ := hx0
          obtain ⟨hg1, hg2⟩ := hg0
          obtain ⟨hy1, hy2⟩ := hy0
          clear htx hty hgd
          clear hcc
          go_wp2
          go_step3
          rw [show Go.bits .xor .u32 (g / 16) ty = (l.take (k + 1)).foldl sstep cv by rw [htf.out, hend.out]]
          exact ⟨rfl, ⟨rfl, k + 1, _, _, _, _, _, _, _, _, _, _, _, _, _, _, _, _, _, _, _, _, _, _, _, _, _, _, _, by omega, rfl⟩, by simp [ws_int]; omega⟩
        · have hfull : (l.take k).foldl sstep cv = srow cv l := by unfold srow; rw [List.take_of_length_le (by omega)]
          have hfA := Aside0.mk hfull
          clear hfull
          go_wp2
          simp only [Exit.jump]
          go_wp2
          exact ⟨⟨i + 1, by omega, by go_num, by rw [htf0.out, ← hfA.out]⟩, by simp [ws_int]; omega⟩
    · have hfin := Aside0.mk (show (l0.take i).foldl srow 4294967295 = srows l0 by unfold srows; rw [List.take_of_length_le (by omega)])
      generalize List.foldl srow 4294967295 (List.take i l0) = cv at hcvr hfin ⊢
      go_wp2
      go_ret
      exact ⟨by rw [← hfin.out]; rfl, hBA.out⟩

end Go.Proofs.Ytkblieonpncacaa.F
