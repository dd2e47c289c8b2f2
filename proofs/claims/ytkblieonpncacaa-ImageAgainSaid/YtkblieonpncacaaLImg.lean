/- Images: what Pack and Open come to, in both packages. -/
import Derived.Test.YtkblieonpncacaaLCrc
import Derived.Test.YtkblieonpncacaaFx5
import Derived.Test.YtkblieonpncacaaFx7
import Derived.Test.YtkblieonpncacaaFx10
import Derived.Test.YtkblieonpncacaaFx8
set_option linter.unusedVariables false
set_option linter.unusedSimpArgs false
namespace Go.Proofs.Ytkblieonpncacaa.Pure
open Go.RowKit Go.Proofs.Ytkblieonpncacaa.F Go.Proofs.YtkblieonpncacaaW.PrintWords Go.Proofs.YtkblieonpncacaaW.PrintLast Go.Proofs.YtkblieonpncacaaW.PrintMore

/-- What is wrong with a header. -/
def wrongv (W D S : Int) : Int := if ¬ (W = 32 ∨ W = 128) then 11 else if D < 0 ∨ D > W ∨ S ≠ (if D = 0 then 1 else 3 * D) then 28 else 0
theorem wrongv_cases (W D S : Int) : wrongv W D S = 11 ∨ wrongv W D S = 28 ∨ (wrongv W D S = 0 ∧ (W = 32 ∨ W = 128) ∧ 0 ≤ D ∧ D ≤ W ∧ S = (if D = 0 then 1 else 3 * D)) := by
  unfold wrongv
  by_cases c1 : (W = 32 ∨ W = 128)
  · rw [if_neg (not_not_intro c1)]
    by_cases c2 : D < 0 ∨ D > W ∨ S ≠ (if D = 0 then 1 else 3 * D)
    · rw [if_pos c2]; exact .inr (.inl rfl)
    · rw [if_neg c2]
      refine .inr (.inr ⟨rfl, c1, by omega, by omega, ?_⟩)
      exact Classical.byContradiction fun h => c2 (.inr (.inr h))
  · rw [if_pos c1]; exact .inl rfl
theorem mx_steps {D : Int} (h0 : 0 ≤ D) (h1 : D ≤ 128) : mx (wrap64 (3 * D)) 1 = if D = 0 then 1 else 3 * D := by
  rw [wrap64_id (n := 3 * D) (by omega) (by omega)]
  unfold mx
  split <;> split <;> omega
theorem wrong_ev (W D S N : Int) : Ev (fun k => image_head_wrong.f k W D S N) (wrongv W D S) := by
  have j : ∀ b : Bool, b = decide (¬ (W = 32 ∨ W = 128)) → Ev (fun k => image_head_wrong.j0 k b W D S N) (wrongv W D S) := by
    intro b hb
    refine Ev.succ (Ev.of_eq (fun k => ?_))
    simp only [image_head_wrong.j0]
    unfold wrongv
    by_cases c1 : (W = 32 ∨ W = 128)
    · rw [hb, decide_eq_false (not_not_intro c1), if_neg (by decide), if_neg (not_not_intro c1)]
      by_cases c2 : D < 0
      · rw [if_pos c2, if_pos (.inl c2)]
      rw [if_neg c2]
      by_cases c3 : D > W
      · rw [if_pos c3, if_pos (.inr (.inl c3))]
      rw [if_neg c3, mx_steps (by omega) (by omega)]
      by_cases c4 : S = (if D = 0 then 1 else 3 * D)
      · rw [if_pos c4, if_neg (by rintro (h | h | h); exact c2 h; exact c3 h; exact h c4)]
      · rw [if_neg c4, if_pos (.inr (.inr c4))]
    · rw [hb, decide_eq_true c1, if_pos rfl, if_pos c1]
  unfold image_head_wrong.f
  by_cases c : W = 32
  · simp only [c, if_true]
    have := j false (by rw [decide_eq_false]; exact not_not_intro (.inl c))
    rw [c] at this
    exact this
  · simp only [c, if_false]
    refine j _ ?_
    by_cases c2 : W = 128
    · simp [c2]
    · simp [c, c2]
theorem family_eq (W : Int) : turnpikeref2_IsFamily.f W = some (decide (W = 32 ∨ W = 128)) := by
  unfold turnpikeref2_IsFamily.f
  by_cases c : W = 32
  · simp [c]
  · by_cases c2 : W = 128 <;> simp [c, c2]
theorem counted_eq {W D S N : Int} (hW : W = 32 ∨ W = 128) : turnpikeref17_counted.f W D S N = some (decide (wrongv W D S = 0)) := by
  unfold turnpikeref17_counted.f wrongv
  rw [if_neg (not_not_intro hW)]
  by_cases c2 : D < 0
  · rw [if_pos c2, if_pos (.inl c2)]; rfl
  rw [if_neg c2]
  by_cases c3 : D > W
  · rw [if_pos c3, if_pos (.inr (.inl c3))]; rfl
  rw [if_neg c3]
  have e : wrap64 (3 * D) = 3 * D := wrap64_id (by omega) (by omega)
  have hor : (D < 0 ∨ D > W ∨ S ≠ (if D = 0 then 1 else 3 * D)) ↔ ¬ S = (if D = 0 then 1 else 3 * D) := by
    constructor
    · rintro (h | h | h)
      · exact absurd h c2
      · exact absurd h c3
      · exact h
    · exact fun h => .inr (.inr h)
  by_cases c4 : D = 0
  · rw [if_pos c4]
    by_cases c5 : S = 1
    · rw [if_pos c5, if_neg (by rw [hor, if_pos c4]; exact not_not_intro c5)]; rfl
    · rw [if_neg c5, if_neg (by omega), if_pos (by rw [hor, if_pos c4]; exact c5)]; rfl
  · rw [if_neg c4, if_pos (by omega), e]
    by_cases c5 : S = 3 * D
    · rw [if_neg (by rw [hor, if_neg c4]; exact not_not_intro c5)]; simp [c5]
    · rw [if_pos (by rw [hor, if_neg c4]; exact c5)]; simp [c5]

/-! Pack -/
/-- A head's first twelve bytes. -/
def hd12 (W D S N : Int) : List Int := [84, 80, 75, 49, W % 256, D % 256, S / 256 % 256, S % 256] ++ bytes4 N
theorem hd12_len (W D S N : Int) : (hd12 W D S N).length = 12 := rfl
theorem bytes4_bytes (v : Int) : Bytes (bytes4 v) := by
  intro x hx
  simp only [bytes4, List.mem_cons, List.not_mem_nil, or_false] at hx
  omega
theorem hd12_bytes (W D S N : Int) : Bytes (hd12 W D S N) := by
  intro x hx
  rcases List.mem_append.mp hx with h | h
  · simp only [List.mem_cons, List.not_mem_nil, or_false] at h
    omega
  · exact bytes4_bytes N x h
theorem Bytes.append {a b : List Int} (ha : Bytes a) (hb : Bytes b) : Bytes (a ++ b) := fun x hx => (List.mem_append.mp hx).elim (ha x) (hb x)
theorem Bytes.take {a : List Int} (ha : Bytes a) (n : Nat) : Bytes (a.take n) := fun x hx => ha x (List.mem_of_mem_take hx)
theorem Bytes.drop {a : List Int} (ha : Bytes a) (n : Nat) : Bytes (a.drop n) := fun x hx => ha x (List.mem_of_mem_drop hx)
theorem behind_eq {a b : List Int} (ha : a.length ≤ 100000000000000) (hb : b.length ≤ 100) : wire_behind.f a b = some (a ++ b) := by
  unfold wire_behind.f
  have e : wrap64 ((a.length : Int) + (b.length : Int)) = (a.length : Int) + (b.length : Int) := wrap64_id (by omega) (by omega)
  rw [e, if_pos (by omega), if_pos (by omega)]
  simp only [Option.bind_some, List.nil_append, List.length_nil]
  rw [if_pos (by omega), if_pos (by omega)]
theorem wrapu32 (n : Int) : IntKind.u32.wrap n = n % 4294967296 := by simp [IntKind.wrap, IntKind.signed, IntKind.bits]
theorem front_a (W D S : Int) : wire_Put16.f [84, 80, 75, 49, W % 256, D % 256] (IntKind.u16.wrap S) = some [84, 80, 75, 49, W % 256, D % 256, S / 256 % 256, S % 256] := by
  unfold wire_Put16.f
  rw [behind_eq (Nat.le_of_ble_eq_true rfl) (Nat.le_of_ble_eq_true rfl), Option.bind_some, wrap16]
  simp only [List.cons_append, List.nil_append, Option.some.injEq, List.cons.injEq, and_true, true_and]
  omega
theorem front_b (l : List Int) (h : l.length ≤ 100) (N : Int) : wire_Put32.f l (IntKind.u32.wrap N) = some (l ++ bytes4 N) := by
  unfold wire_Put32.f bytes4
  rw [behind_eq (Nat.le_trans h (Nat.le_of_ble_eq_true rfl)) (Nat.le_of_ble_eq_true rfl), Option.bind_some, wrapu32]
  rw [show N % 4294967296 / 16777216 % 256 = N / 16777216 % 256 by omega, show N % 4294967296 / 65536 % 256 = N / 65536 % 256 by omega, show N % 4294967296 / 256 % 256 = N / 256 % 256 by omega, show N % 4294967296 % 256 = N % 256 by omega]
theorem front_eq (W D S N : Int) : image_head_front.f W D S N = some (hd12 W D S N) := by
  unfold image_head_front.f
  rw [front_a, Option.bind_some, front_b _ (Nat.le_of_ble_eq_true rfl)]
  rfl
/-- What Pack tells. -/
def pk (W D S N : Int) (c : List Int) : List Int × Int :=
  if wrongv W D S ≠ 0 then ([], wrongv W D S) else if (c.length : Int) % 4 ≠ 0 ∨ (c.length : Int) / 4 ≠ N then ([], 22) else if N > 1048572 then ([], 18) else (hd12 W D S N ++ bytes4 (sm (hd12 W D S N ++ c)) ++ c, 0)
theorem pack_j {W D S N : Int} {c : List Int} (hc : Bytes c) (hn : c.length ≤ 1000000000) (hw : wrongv W D S = 0) {b : Bool} (hb : b = decide ((c.length : Int) % 4 ≠ 0 ∨ (c.length : Int) / 4 ≠ N)) : Ev (fun k => image_Pack.j0 k c b W D S N) (pk W D S N c) := by
  unfold pk
  rw [if_neg (not_not_intro hw)]
  refine Ev.succ ?_
  simp only [image_Pack.j0]
  by_cases c1 : (c.length : Int) % 4 ≠ 0 ∨ (c.length : Int) / 4 ≠ N
  · rw [hb, if_pos c1]
    simp only [decide_eq_true c1, if_true]
    exact Ev.now _
  rw [hb, if_neg c1]
  simp only [decide_eq_false c1, Bool.false_eq_true, if_false, image_head_big.f, Option.bind_some]
  by_cases c2 : N > 1048572
  · simp only [c2, decide_true, if_true]
    exact Ev.now _
  simp only [c2, decide_false, Bool.false_eq_true, if_false, front_eq, Option.bind_some, sum_two (hd12_bytes W D S N) hc]
  have h1 : wire_Put32.f (hd12 W D S N) (sm (hd12 W D S N ++ c)) = some (hd12 W D S N ++ bytes4 (sm (hd12 W D S N ++ c))) := by
    unfold wire_Put32.f
    rw [behind_eq (by rw [hd12_len]; omega) (by simp)]
    rfl
  have hl : (hd12 W D S N ++ bytes4 (sm (hd12 W D S N ++ c))).length = 16 := by rw [List.length_append, hd12_len]; rfl
  simp only [h1, Option.bind_some, hl, show 16 + c.length < 140737488355328 by omega, if_true]
  exact Ev.now _
theorem pack_ev {W D S N : Int} {c : List Int} (hc : Bytes c) (hn : c.length ≤ 1000000000) : Ev (fun k => image_Pack.f k W D S N c) (pk W D S N c) := by
  unfold image_Pack.f
  refine Ev.bind (wrong_ev W D S N) ?_
  by_cases c1 : wrongv W D S = 0
  · simp only [c1, if_true]
    rw [wrap64_id (n := (c.length : Int) / 4) (by omega) (by omega)]
    by_cases c2 : (c.length : Int) % 4 = 0
    · simp only [c2, if_true]
      refine pack_j hc hn c1 ?_
      by_cases c3 : (c.length : Int) / 4 = N
      · simp [c2, c3]
      · simp [c2, c3]
    · simp only [c2, if_false]
      exact pack_j hc hn c1 (by simp [c2])
  · simp only [c1, if_false]
    unfold pk
    rw [if_pos c1]
    exact Ev.now _
theorem rpack_j {W D S N : Int} {c : List Int} (hc : Bytes c) (hn : c.length ≤ 1000000000) (hw : wrongv W D S = 0) {b : Bool} (hb : b = decide ((c.length : Int) % 4 ≠ 0 ∨ (c.length : Int) / 4 ≠ N)) : Ev (fun k => turnpikeref17_Pack.j0 k c b W D S N) (pk W D S N c) := by
  unfold pk
  rw [if_neg (not_not_intro hw)]
  refine Ev.succ ?_
  simp only [turnpikeref17_Pack.j0]
  by_cases c1 : (c.length : Int) % 4 ≠ 0 ∨ (c.length : Int) / 4 ≠ N
  · rw [hb, if_pos c1]
    simp only [decide_eq_true c1, if_true]
    exact Ev.now _
  rw [hb, if_neg c1]
  simp only [decide_eq_false c1, Bool.false_eq_true, if_false]
  by_cases c2 : N > 1048572
  · simp only [show (c.length : Int) > 4194288 by omega, c2, if_true]
    exact Ev.now _
  simp only [show ¬ (c.length : Int) > 4194288 by omega, c2, if_false]
  refine Ev.bind (put2_ev _ _ (by simp)) ?_
  refine Ev.bind (put_ev _ _ (by simp)) ?_
  have hh : [84, 80, 75, 49, W % 256, D % 256] ++ [S % 4294967296 / 256 % 256, S % 4294967296 % 256] ++ bytes4 (N % 4294967296) = hd12 W D S N := by
    unfold hd12 bytes4
    simp only [List.cons_append, List.nil_append, List.cons.injEq, and_true, true_and]
    omega
  simp only [hh, List.nil_append, List.length_nil, hd12_len, show 0 + 12 < 140737488355328 by omega, if_true, Option.bind_some, show 12 + c.length < 140737488355328 by omega]
  refine Ev.bind (rsum_ev (Bytes.append (hd12_bytes W D S N) hc) (by rw [List.length_append, hd12_len]; omega)) ?_
  refine Ev.bind (put_ev _ _ (by rw [hd12_len]; omega)) ?_
  have hl : (hd12 W D S N ++ bytes4 (sm (hd12 W D S N ++ c))).length = 16 := by rw [List.length_append, hd12_len]; rfl
  simp only [hl, show 16 + c.length < 140737488355328 by omega, if_true]
  exact Ev.now _
theorem rpack_ev {W D S N : Int} {c : List Int} (hc : Bytes c) (hn : c.length ≤ 1000000000) : Ev (fun k => turnpikeref17_Pack.f k W D S N c) (pk W D S N c) := by
  unfold turnpikeref17_Pack.f
  simp only [family_eq, Option.bind_some]
  by_cases c0 : W = 32 ∨ W = 128
  · simp only [decide_eq_true c0, if_true, counted_eq c0, Option.bind_some]
    by_cases c1 : wrongv W D S = 0
    · simp only [c1, decide_true, if_true]
      rw [wrap64_id (n := (c.length : Int) / 4) (by omega) (by omega)]
      by_cases c2 : (c.length : Int) % 4 = 0
      · simp only [c2, if_true]
        refine rpack_j hc hn c1 ?_
        by_cases c3 : (c.length : Int) / 4 = N
        · simp [c2, c3]
        · have c3' : ¬ N = (c.length : Int) / 4 := fun h => c3 h.symm
          simp [c2, c3, c3']
      · simp only [c2, if_false]
        exact rpack_j hc hn c1 (by simp [c2])
    · simp only [c1, decide_false, Bool.false_eq_true, if_false]
      unfold pk
      rw [if_pos c1]
      rcases wrongv_cases W D S with h | h | h
      · exfalso; unfold wrongv at h; rw [if_neg (not_not_intro c0)] at h; split at h <;> omega
      · rw [h]; exact Ev.now _
      · exact absurd h.1 c1
  · simp only [decide_eq_false c0, Bool.false_eq_true, if_false]
    have : wrongv W D S = 11 := by unfold wrongv; rw [if_pos c0]
    unfold pk
    rw [this, if_pos (by decide)]
    exact Ev.now _

/-! Open -/
/-- What a head tells of bytes that begin there. -/
def opn (l : List Int) : Int × Int × Int × Int × List Int × Int :=
  if l.length < 16 then (0, 0, 0, 0, [], 22) else if (strOfNums (l.take 4)).toList = ([84, 80, 75, 49] : List UInt8) then
    (if wrongv (rd l 4) (rd l 5) (rd l 6 * 256 + rd l 7) ≠ 0 then (0, 0, 0, 0, [], wrongv (rd l 4) (rd l 5) (rd l 6 * 256 + rd l 7)) else if be32 l 8 > 1048572 then (0, 0, 0, 0, [], 18) else if ((l.length : Int) - 16) / 4 < be32 l 8 then (0, 0, 0, 0, [], 22)
      else if sm (l.take 12 ++ (l.take (16 + 4 * be32 l 8).toNat).drop 16) = be32 l 12 then (rd l 4, rd l 5, rd l 6 * 256 + rd l 7, be32 l 8, (l.take (16 + 4 * be32 l 8).toNat).drop 16, 0) else (0, 0, 0, 0, [], 23))
  else (0, 0, 0, 0, [], 21)
def opnAt (l : List Int) (a : Int) : Int × Int × Int × Int × List Int × Int := if a < 0 ∨ (l.length : Int) < a then (0, 0, 0, 0, [], 30) else opn (l.drop a.toNat)
theorem rd_id {l : List Int} (h : Bytes l) (i : Int) : wrap64 (rd l i) = rd l i := by have := h.rd i; exact wrap64_id (by omega) (by omega)
theorem open1_ev {l : List Int} (hl : Bytes l) (hn : l.length ≤ 1000000000) : Ev (fun k => image_open1.f k l) (opn l) := by
  unfold image_open1.f opn
  by_cases c1 : l.length < 16
  · simp only [c1, if_true]; exact Ev.now _
  simp only [c1, if_false]
  by_cases c2 : (strOfNums (l.take 4)).toList = ([84, 80, 75, 49] : List UInt8)
  case neg => simp only [c2, if_false]; exact Ev.now _
  simp only [c2, if_true]
  have g6 := hl.rd 6
  have g7 := hl.rd 7
  have g8 := be32_range hl 8
  rw [get16_in hl (by omega) (p := 6) (by omega) (by omega), get32_in hl (by omega) (p := 8) (by omega) (by omega), get32_in hl (by omega) (p := 12) (by omega) (by omega)]
  simp only [Option.bind_some, show (6 : Int) + 1 = 7 from rfl, rd_id hl, wrap64_id (n := rd l 6 * 256 + rd l 7) (by omega) (by omega), wrap64_id (n := be32 l 8) (by omega) (by omega)]
  refine Ev.bind (wrong_ev _ _ _ _) ?_
  by_cases c3 : wrongv (rd l 4) (rd l 5) (rd l 6 * 256 + rd l 7) = 0
  case neg =>
    simp only [c3, if_false, ne_eq, not_false_eq_true, if_true]
    exact Ev.now _
  simp only [c3, if_true, image_head_big.f, Option.bind_some, ne_eq, not_true_eq_false, if_false]
  by_cases c4 : be32 l 8 > 1048572
  · simp only [c4, decide_true, if_true]; exact Ev.now _
  simp only [c4, decide_false, Bool.false_eq_true, if_false, g8.1, if_true]
  by_cases c5 : ((l.length : Int) - 16) / 4 < be32 l 8
  · simp only [c5, if_true]; exact Ev.now _
  simp only [c5, if_false, sum_two (Bytes.take hl 12) (Bytes.drop (Bytes.take hl _) 16), Option.bind_some, beq_iff_eq]
  by_cases c6 : sm (l.take 12 ++ (l.take (16 + 4 * be32 l 8).toNat).drop 16) = be32 l 12
  · simp only [c6, if_true]; exact Ev.now _
  · simp only [c6, if_false]; exact Ev.now _
theorem opn_len (l : List Int) : (opn l).2.2.2.2.1.length ≤ l.length := by
  unfold opn
  split
  · simp
  split
  · split
    · simp
    split
    · simp
    split
    · simp
    split
    · simp only [List.length_drop, List.length_take]; omega
    · simp
  · simp
theorem opn_err {l : List Int} (h : (opn l).2.2.2.2.2 ≠ 0) : opn l = (0, 0, 0, 0, [], (opn l).2.2.2.2.2) := by
  revert h
  unfold opn
  split
  · intro _; rfl
  split
  · split
    · intro _; rfl
    split
    · intro _; rfl
    split
    · intro _; rfl
    split
    · intro h; exact absurd rfl h
    · intro _; rfl
  · intro _; rfl
theorem open_ev {l : List Int} (hl : Bytes l) (hn : l.length ≤ 1000000000) (a : Int) : Ev (fun k => image_Open.f k l a) (opnAt l a) := by
  unfold image_Open.f opnAt
  by_cases c1 : a < 0
  · simp only [c1, if_true, true_or]; exact Ev.now _
  simp only [c1, if_false, false_or]
  by_cases c2 : (l.length : Int) < a
  · simp only [c2, if_true]; exact Ev.now _
  simp only [c2, if_false]
  have hd : (l.drop a.toNat).length ≤ 1000000000 := by rw [List.length_drop]; omega
  refine Ev.bind (open1_ev (Bytes.drop hl _) hd) ?_
  have ho := opn_len (l.drop a.toNat)
  by_cases c3 : (opn (l.drop a.toNat)).2.2.2.2.2 = 0
  · simp only [c3, if_true, slices_Clone_byte_byte.f, show (opn (l.drop a.toNat)).2.2.2.2.1.length < 140737488355328 by omega, Option.bind_some]
    refine Ev.eq_now' ?_
    rw [Option.some.injEq]
    exact Prod.ext rfl (Prod.ext rfl (Prod.ext rfl (Prod.ext rfl (Prod.ext rfl c3.symm))))
  · simp only [c3, if_false]
    rw [opn_err c3]
    exact Ev.now _
def kb : List Int := [84, 80, 75, 49, 32, 0, 0, 1, 0, 0, 0, 1, 235, 24, 99, 189, 4, 0, 0, 9]
theorem kb_bytes : Bytes kb := by
  intro x hx
  simp only [kb, List.mem_cons, List.not_mem_nil, or_false] at hx
  omega
theorem kb_pack : pk 32 0 1 1 [4, 0, 0, 9] = (kb, 0) := by decide +kernel
theorem kb_open : opnAt kb 0 = (32, 0, 1, 1, [4, 0, 0, 9], 0) := by decide +kernel
theorem kb_head : (strOfNums (kb.take 12)).toList = ([84, 80, 75, 49, 32, 0, 0, 1, 0, 0, 0, 1] : List UInt8) := by decide +kernel
theorem known_ev : Ev (fun k => turnpikelaw17_known.f k) true := by
  have hb : Bytes [4, 0, 0, 9] := by intro x hx; simp only [List.mem_cons, List.not_mem_nil, or_false] at hx; omega
  unfold turnpikelaw17_known.f
  refine Ev.bind (pack_ev hb (by simp)) ?_
  rw [kb_pack]
  have hl : (kb.length : Int) = 20 := rfl
  simp only [if_true, hl, show (12 : Int) ≤ 20 by decide, kb_head]
  refine Ev.bind (open_ev kb_bytes (by decide) 0) ?_
  rw [kb_open]
  exact Ev.eq_now' (by decide +kernel)
end Go.Proofs.Ytkblieonpncacaa.Pure
