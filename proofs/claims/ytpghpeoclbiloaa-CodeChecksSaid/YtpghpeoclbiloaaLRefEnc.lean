/- The reference's Check, Size, Put and Encode in plain Lean. -/
import Derived.Test.YtpghpeoclbiloaaLEnc
import Derived.Test.YtpghpeoclbiloaaLRefCode
import Derived.Test.YtpghpeoclbiloaaFx8
import Derived.Test.YtpghpeoclbiloaaFx11
import Derived.Test.YtpghpeoclbiloaaFx9
set_option linter.unusedVariables false
set_option linter.unusedSimpArgs false
namespace Go.Proofs.Ytpghpeoclbiloaa.Pure
open Go.RowKit Go.Proofs.Ytpghpeoclbiloaa.F Go.Proofs.YtpghpeoclbiloaaW.PrintWords Go.Proofs.YtpghpeoclbiloaaW.PrintLast Go.Proofs.YtpghpeoclbiloaaW.PrintMore

theorem chk_num {op n : Int} {m : List Int} (h1 : 1 ≤ op ∧ op ≤ 4) (hi : isnum op n = false) : chk op n m = 1 := by
  unfold chk; rw [if_neg (by omega), if_pos hi]
theorem chk_two {n : Int} {m : List Int} (hi : isnum 2 n = true) : chk 2 n m = if ismap m n = true then 0 else 25 := by
  unfold chk
  rw [if_neg (show ¬ ((2 : Int) < 1 ∨ 4 < (2 : Int)) by omega), if_neg (show ¬ isnum 2 n = false by rw [hi]; simp)]
  cases ismap m n <;> simp
theorem chk_other {op n : Int} {m : List Int} (h1 : 1 ≤ op ∧ op ≤ 4) (h2 : op ≠ 2) (hi : isnum op n = true) : chk op n m = if (m.length : Int) > 0 then 25 else 0 := by
  unfold chk
  rw [if_neg (show ¬ (op < 1 ∨ 4 < op) by omega), if_neg (show ¬ isnum op n = false by rw [hi]; simp)]
  cases m with
  | nil => simp [h2]
  | cons x m => simp only [List.length_cons, ne_eq, h2, not_false_eq_true, reduceCtorEq, and_self, or_true, if_true, false_and]; rw [if_pos (by omega)]
theorem rcheck_ev (op n : Int) (m : List Int) : Ev (fun k => turnpikeref14_Check.f k op n m) (chk op n m) := by
  have hend : (1 ≤ op ∧ op ≤ 4) → op ≠ 2 → isnum op n = true → Ev (fun _ => if (m.length : Int) > 0 then some 25 else some 0) (chk op n m) := by
    intro h1 h2 hi
    rw [chk_other h1 h2 hi]
    by_cases e : (m.length : Int) > 0
    · simp only [e, if_true]; exact Ev.now _
    · simp only [e, if_false]; exact Ev.now _
  have hj1 : ∀ b, (op = 1 ∨ op = 2) → b = !isnum op n → Ev (fun k => turnpikeref14_Check.j1 k b op n m) (chk op n m) := by
    rintro b ho rfl
    refine Ev.succ ?_; simp only [turnpikeref14_Check.j1]
    cases hi : isnum op n with
    | false => simp only [Bool.not_false, if_true, chk_num (show 1 ≤ op ∧ op ≤ 4 by omega) hi]; exact Ev.now _
    | true =>
      simp only [Bool.not_true, Bool.false_eq_true, if_false]
      by_cases h2 : op = 2
      · subst h2
        have hr := isnum_map hi
        simp only [if_true, risMap_eq hr.1 hr.2, Option.bind_some]
        refine Ev.succ ?_; simp only [turnpikeref14_Check.j2, if_true]
        rw [chk_two hi]
        cases ismap m n with
        | true => simp only [Bool.not_true, Bool.false_eq_true, if_false, if_true]; exact Ev.now _
        | false => simp only [Bool.not_false, Bool.false_eq_true, if_false, if_true]; exact Ev.now _
      · simp only [h2, if_false]
        refine Ev.succ ?_; simp only [turnpikeref14_Check.j2, Bool.false_eq_true, if_false, h2]
        exact hend (by omega) h2 hi
  have hj3 : ∀ b, op = 3 → b = !isnum op n → Ev (fun k => turnpikeref14_Check.j3 k b op n m) (chk op n m) := by
    rintro b ho rfl
    refine Ev.succ ?_; simp only [turnpikeref14_Check.j3]
    cases hi : isnum op n with
    | false => simp only [Bool.not_false, if_true, chk_num (show 1 ≤ op ∧ op ≤ 4 by omega) hi]; exact Ev.now _
    | true =>
      simp only [Bool.not_true, Bool.false_eq_true, if_false, show ¬ op = 2 by omega]
      exact hend (by omega) (by omega) hi
  have hj4 : ∀ b, op = 4 → b = !isnum op n → Ev (fun k => turnpikeref14_Check.j4 k b op n m) (chk op n m) := by
    rintro b ho rfl
    refine Ev.succ ?_; simp only [turnpikeref14_Check.j4]
    cases hi : isnum op n with
    | false => simp only [Bool.not_false, if_true, chk_num (show 1 ≤ op ∧ op ≤ 4 by omega) hi]; exact Ev.now _
    | true =>
      simp only [Bool.not_true, Bool.false_eq_true, if_false, show ¬ op = 2 by omega]
      exact hend (by omega) (by omega) hi
  have hnum12 : (op = 1 ∨ op = 2) → isnum op n = decide (1 ≤ n ∧ n ≤ 24) := by intro h; unfold isnum; rw [if_pos h]
  have hj0 : ∀ b, b = decide (op = 1 ∨ op = 2) → Ev (fun k => turnpikeref14_Check.j0 k op b op n m) (chk op n m) := by
    rintro b rfl
    refine Ev.succ ?_; simp only [turnpikeref14_Check.j0, decide_eq_true_eq]
    by_cases h12 : op = 1 ∨ op = 2
    · simp only [h12, if_true]
      by_cases e : n < 1
      · simp only [e, if_true]; exact hj1 _ h12 (by rw [hnum12 h12]; simp; omega)
      · simp only [e, if_false]; refine hj1 _ h12 ?_; rw [hnum12 h12]
        by_cases e2 : n > 24
        · simp [e2]; try omega
        · simp [e2]; try omega
    · simp only [h12, if_false]
      by_cases h3 : op = 3
      · simp only [h3, if_true]; rw [← h3]
        have hi : isnum op n = decide (1 ≤ n ∧ n ≤ 16777215) := by unfold isnum; rw [if_neg h12, if_pos h3]
        by_cases e : n < 1
        · simp only [e, if_true]; have := hj3 true h3 (by rw [hi]; simp; omega); rw [h3] at this; rw [h3]; exact this
        · simp only [e, if_false]; have := hj3 (decide (n ≥ 16777216)) h3 (by rw [hi]; by_cases e2 : n ≥ 16777216 <;> simp [e2] <;> omega); rw [h3] at this; rw [h3]; exact this
      · simp only [h3, if_false]
        by_cases h4 : op = 4
        · simp only [h4, if_true]; rw [← h4]
          have hi : isnum op n = decide (0 ≤ n ∧ n ≤ 65535) := by unfold isnum; rw [if_neg h12, if_neg h3, if_pos h4]
          by_cases e : n < 0
          · simp only [e, if_true]; have := hj4 true h4 (by rw [hi]; simp; omega); rw [h4] at this; rw [h4]; exact this
          · simp only [e, if_false]; have := hj4 (decide (n > 65535)) h4 (by rw [hi]; by_cases e2 : n > 65535 <;> simp [e2] <;> omega); rw [h4] at this; rw [h4]; exact this
        · simp only [h4, if_false]
          have : chk op n m = 24 := by unfold chk; rw [if_pos (by omega)]
          rw [this]; exact Ev.now _
  unfold turnpikeref14_Check.f
  by_cases h : op = 1
  · simp only [h, if_true]; have := hj0 (op == 1) (by simp [h]); rw [h] at this; exact this
  · simp only [h, if_false]; exact hj0 _ (by simp [h]; rfl)
theorem rsize_ev (op n : Int) (m : List Int) (hm : m.length ≤ 140737488351232) : Ev (fun k => turnpikeref14_Size.f k op n m) (if chk op n m = 0 then 1 + (m.length : Int) else 0) := by
  unfold turnpikeref14_Size.f
  refine Ev.bind (rcheck_ev op n m) ?_
  rw [wrap64_id (by omega) (by omega)]
  by_cases h : chk op n m = 0
  · simp only [h, if_true]; exact Ev.now _
  · simp only [h, if_false]; exact Ev.now _

theorem shr_u32 {v : Int} {s : Nat} (h : s ≤ 32) : shr .u32 v (s : Int) = v / 2 ^ s := by
  unfold shr
  have hb : IntKind.u32.bits = 32 := rfl
  rw [Int.toNat_natCast, hb, Nat.min_eq_left h]
theorem put_ev (b : List Int) (v : Int) (hb : b.length ≤ 100000000000000) : Ev (fun k => turnpikeref13_Put.f k b v 4) (b ++ bytes4 v) := by
  unfold turnpikeref13_Put.f
  rw [wrap64_id (n := 4 - 1) (by omega) (by omega)]
  have e3 : wrap64 (8 * (4 - 1)) = ((24 : Nat) : Int) := by rw [wrap64_id (by omega) (by omega)]; rfl
  have e2 : wrap64 (8 * (4 - 1 - 1)) = ((16 : Nat) : Int) := by rw [wrap64_id (by omega) (by omega)]; rfl
  have e1 : wrap64 (8 * (4 - 1 - 1 - 1)) = ((8 : Nat) : Int) := by rw [wrap64_id (by omega) (by omega)]; rfl
  have e0 : wrap64 (8 * (4 - 1 - 1 - 1 - 1)) = ((0 : Nat) : Int) := by rw [wrap64_id (by omega) (by omega)]; rfl
  have d3 : wrap64 (4 - 1 - 1) = 4 - 1 - 1 := wrap64_id (by omega) (by omega)
  have d2 : wrap64 (4 - 1 - 1 - 1) = 4 - 1 - 1 - 1 := wrap64_id (by omega) (by omega)
  have d1 : wrap64 (4 - 1 - 1 - 1 - 1) = 4 - 1 - 1 - 1 - 1 := wrap64_id (by omega) (by omega)
  have d0 : wrap64 (4 - 1 - 1 - 1 - 1 - 1) = 4 - 1 - 1 - 1 - 1 - 1 := wrap64_id (by omega) (by omega)
  refine Ev.succ ?_
  simp only [turnpikeref13_Put.l0, show (4 - 1 : Int) ≥ 0 by omega, if_true, e3, show (0 : Int) ≤ ((24 : Nat) : Int) by omega, show b.length < 140737488355328 by omega, d3, shr_u32 (v := v) (s := 24) (by omega)]
  refine Ev.succ ?_
  simp only [turnpikeref13_Put.l0, show (4 - 1 - 1 : Int) ≥ 0 by omega, if_true, e2, show (0 : Int) ≤ ((16 : Nat) : Int) by omega, List.length_append, List.length_cons, List.length_nil, show b.length + (0 + 1) < 140737488355328 by omega, d2, shr_u32 (v := v) (s := 16) (by omega)]
  refine Ev.succ ?_
  simp only [turnpikeref13_Put.l0, show (4 - 1 - 1 - 1 : Int) ≥ 0 by omega, if_true, e1, show (0 : Int) ≤ ((8 : Nat) : Int) by omega, List.length_append, List.length_cons, List.length_nil, show b.length + (0 + 1) + (0 + 1) < 140737488355328 by omega, d1, shr_u32 (v := v) (s := 8) (by omega)]
  refine Ev.succ ?_
  simp only [turnpikeref13_Put.l0, show (4 - 1 - 1 - 1 - 1 : Int) ≥ 0 by omega, if_true, e0, show (0 : Int) ≤ ((0 : Nat) : Int) by omega, List.length_append, List.length_cons, List.length_nil, show b.length + (0 + 1) + (0 + 1) + (0 + 1) < 140737488355328 by omega, d0, shr_u32 (v := v) (s := 0) (by omega)]
  refine Ev.succ ?_
  simp only [turnpikeref13_Put.l0, show ¬ (4 - 1 - 1 - 1 - 1 - 1 : Int) ≥ 0 by omega, if_false]
  have : b ++ [v / 2 ^ 24 % 256] ++ [v / 2 ^ 16 % 256] ++ [v / 2 ^ 8 % 256] ++ [v / 2 ^ 0 % 256] = b ++ bytes4 v := by
    unfold bytes4; simp
  rw [this]; exact Ev.now _
theorem renc_loop (op n : Int) (m : List Int) (hm : m.length ≤ 1073741824) (d : Nat) : ∀ (i : Nat) (x : List Int), i + d = m.length → x.length + 4 * d ≤ 100000000000000 →
    Ev (fun k => turnpikeref14_Encode.l0 k x (i : Int) op n m) (x ++ allbytes (m.drop i), 0) := by
  induction d with
  | zero =>
    intro i x hi hx
    refine Ev.succ ?_; simp only [turnpikeref14_Encode.l0, show ¬ (i : Int) < (m.length : Int) by omega, if_false]
    rw [List.drop_eq_nil_of_le (by omega)]
    simp only [allbytes, List.append_nil]
    exact Ev.now _
  | succ d ih =>
    intro i x hi hx
    refine Ev.succ ?_
    have g1 : (i : Int) < (m.length : Int) := by omega
    have g2 : (0 : Int) ≤ (i : Int) := by omega
    have e1 : wrap64 ((i : Int) + 1) = ((i + 1 : Nat) : Int) := wrap64_id (by omega) (by omega)
    simp only [turnpikeref14_Encode.l0, g1, g2, if_true, e1]
    refine Ev.bind (put_ev x _ (by omega)) ?_
    have e2 : m.drop i = rd m (i : Int) :: m.drop (i + 1) := by
      rw [List.drop_eq_getElem_cons (by omega)]
      simp [rd, List.getD_eq_getElem?_getD, List.getElem?_eq_getElem (show i < m.length by omega)]
    rw [e2]
    have := ih (i + 1) (x ++ bytes4 (rd m (i : Int))) (by omega) (by simp [bytes4]; omega)
    simp only [allbytes, List.append_assoc] at this ⊢
    exact this
theorem rencode_ev (op n : Int) (m : List Int) (hm : m.length ≤ 1073741824) (hn : 0 ≤ n ∧ n ≤ 16777215 ∧ 1 ≤ op ∧ op ≤ 4 ∨ chk op n m ≠ 0) :
    Ev (fun k => turnpikeref14_Encode.f k op n m) (if chk op n m = 0 then (encd [] op n m, 0) else ([], chk op n m)) := by
  unfold turnpikeref14_Encode.f
  refine Ev.bind (rcheck_ev op n m) ?_
  by_cases h : chk op n m = 0
  · simp only [h, if_true]
    have hn' : 0 ≤ n ∧ n ≤ 16777215 ∧ 1 ≤ op ∧ op ≤ 4 := by rcases hn with hn | hn; exact hn; exact absurd h hn
    have e1 : Go.bits .or .u32 ((((op) % 4294967296) * 16777216) % 4294967296) ((n) % 4294967296) = op * 16777216 + n := by
      rw [or_u32_add 24 (by omega) (by omega) (by omega) (by omega) (by omega) (by omega)]; omega
    rw [e1]
    refine Ev.bind (put_ev [] _ (by simp)) ?_
    have e2 : bytes4 (op * 16777216 + n) = [op % 256, n / 65536 % 256, n / 256 % 256, n % 256] := by
      unfold bytes4
      have a1 : (op * 16777216 + n) / 16777216 % 256 = op % 256 := by omega
      have a2 : (op * 16777216 + n) / 65536 % 256 = n / 65536 % 256 := by omega
      have a3 : (op * 16777216 + n) / 256 % 256 = n / 256 % 256 := by omega
      have a4 : (op * 16777216 + n) % 256 = n % 256 := by omega
      rw [a1, a2, a3, a4]
    have := renc_loop op n m hm m.length 0 ([] ++ bytes4 (op * 16777216 + n)) (by omega) (by simp [bytes4]; omega)
    rw [List.drop_zero, e2, List.nil_append] at this
    rw [e2, List.nil_append]
    unfold encd
    rw [List.nil_append]
    exact this
  · simp only [h, if_false]; exact Ev.now _

theorem strOfNums_append (a b : List Int) : strOfNums (a ++ b) = strOfNums a ++ strOfNums b := by
  unfold strOfNums
  rw [List.map_append]
  apply ByteArray.ext
  rw [ByteArray.data_append]
  simp
theorem strOfNums_size (a : List Int) : (strOfNums a).size = a.length := by
  unfold strOfNums; simp [ByteArray.size]
end Go.Proofs.Ytpghpeoclbiloaa.Pure
