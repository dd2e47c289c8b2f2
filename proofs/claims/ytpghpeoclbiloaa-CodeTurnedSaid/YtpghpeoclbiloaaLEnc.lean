/- code.Check, Size, Encode and the laws' within in plain Lean. -/
import Derived.Test.YtpghpeoclbiloaaLCode
import Derived.Test.YtpghpeoclbiloaaFx2
import Derived.Test.YtpghpeoclbiloaaFx3
import Derived.Test.YtpghpeoclbiloaaFx4
set_option linter.unusedVariables false
set_option linter.unusedSimpArgs false
namespace Go.Proofs.Ytpghpeoclbiloaa.Pure
open Go.RowKit Go.Proofs.Ytpghpeoclbiloaa.F Go.Proofs.YtpghpeoclbiloaaW.PrintWords Go.Proofs.YtpghpeoclbiloaaW.PrintLast Go.Proofs.YtpghpeoclbiloaaW.PrintMore

/-- What is wrong with an instruction. -/
def chk (op n : Int) (m : List Int) : Int := if op < 1 ∨ 4 < op then 24 else if isnum op n = false then 1 else if op = 2 ∧ ismap m n = false ∨ op ≠ 2 ∧ m ≠ [] then 25 else 0
theorem check_ev (op n : Int) (m : List Int) : Ev (fun k => code_Check.f k op n m) (chk op n m) := by
  have hj1 : ∀ b, isnum op n = true → ¬ (op < 1 ∨ 4 < op) → b = decide (op = 2 ∧ ismap m n = false) → Ev (fun k => code_Check.j1 k b op n m) (chk op n m) := by
    rintro b h1 h2 rfl
    refine Ev.succ ?_; simp only [code_Check.j1, decide_eq_true_eq]
    unfold chk
    rw [if_neg h2, if_neg (show ¬ isnum op n = false by simp [h1])]
    by_cases h3 : op = 2 ∧ ismap m n = false
    · simp only [h3, true_and, and_self, if_true, true_or]; exact Ev.now _
    · simp only [h3, if_false, false_or]
      by_cases h4 : op = 2
      · simp only [h4, if_true, ne_eq, not_true_eq_false, false_and, if_false]; exact Ev.now _
      · simp only [h4, if_false, ne_eq, not_false_eq_true, true_and]
        cases m with
        | nil => simp only [List.length_nil, gt_iff_lt, not_true_eq_false, if_false, show ¬ (0 : Int) < ((0 : Nat) : Int) by omega]; exact Ev.now _
        | cons x m => simp only [List.length_cons, gt_iff_lt, show (0 : Int) < ((m.length + 1 : Nat) : Int) by omega, if_true, reduceCtorEq, not_false_eq_true]; exact Ev.now _
  have hj0 : ∀ b, b = decide (op < 1 ∨ 4 < op) → Ev (fun k => code_Check.j0 k b op n m) (chk op n m) := by
    rintro b rfl
    refine Ev.succ ?_; simp only [code_Check.j0, decide_eq_true_eq]
    by_cases h2 : op < 1 ∨ 4 < op
    · simp only [h2, if_true]; unfold chk; rw [if_pos h2]; exact Ev.now _
    · simp only [h2, if_false, number_eq, Option.bind_some]
      cases h1 : isnum op n with
      | false => simp only [Bool.false_eq_true, if_false]; unfold chk; rw [if_neg h2, if_pos h1]; exact Ev.now _
      | true =>
        simp only [if_true]
        by_cases h3 : op = 2
        · subst h3
          have hr := isnum_map h1
          simp only [if_true, isMap_eq hr.1 hr.2, Option.bind_some]
          exact hj1 _ h1 h2 (by simp)
        · simp only [h3, if_false]
          exact hj1 _ h1 h2 (by simp [h3])
  unfold code_Check.f
  by_cases h : op < 1
  · simp only [h, if_true]; exact hj0 _ (by simp [h])
  · simp only [h, if_false]; exact hj0 _ (by simp [h])
theorem size_ev (op n : Int) (m : List Int) (hm : m.length ≤ 140737488351232) : Ev (fun k => code_Size.f k op n m) (if chk op n m = 0 then 1 + (m.length : Int) else 0) := by
  unfold code_Size.f
  refine Ev.bind (check_ev op n m) ?_
  rw [wrap64_id (by omega) (by omega)]
  by_cases h : chk op n m = 0
  · simp only [h, if_true]; exact Ev.now _
  · simp only [h, if_false]; exact Ev.now _

/-- A word's four bytes. -/
def bytes4 (v : Int) : List Int := [v / 16777216 % 256, v / 65536 % 256, v / 256 % 256, v % 256]
def allbytes : List Int → List Int
  | [] => []
  | w :: m => bytes4 w ++ allbytes m
theorem allbytes_length (m : List Int) : (allbytes m).length = 4 * m.length := by
  induction m with
  | nil => rfl
  | cons w m ih => simp [allbytes, bytes4, ih]; omega
theorem enc_loop (m : List Int) (hm : m.length ≤ 1073741824) (d : Nat) : ∀ (i : Nat) (x : List Int), i + d = m.length → x.length + 4 * d ≤ 140000000000000 →
    Ev (fun k => code_Encode.l0 k x m (m.length : Int) (i : Int)) (x ++ allbytes (m.drop i), 0) := by
  induction d with
  | zero =>
    intro i x hi hx
    refine Ev.succ ?_; simp only [code_Encode.l0, show ¬ (i : Int) < (m.length : Int) by omega, if_false]
    rw [List.drop_eq_nil_of_le (by omega)]
    simp only [allbytes, List.append_nil]
    exact Ev.now _
  | succ d ih =>
    intro i x hi hx
    refine Ev.succ ?_
    have g1 : (i : Int) < (m.length : Int) := by omega
    have g2 : (0 : Int) ≤ (i : Int) := by omega
    have g3 : x.length + 4 < 140737488355328 := by omega
    have e1 : wrap64 ((i : Int) + 1) = ((i + 1 : Nat) : Int) := wrap64_id (by omega) (by omega)
    simp only [code_Encode.l0, g1, g2, if_true, e1, Option.bind_some, List.length_cons, List.length_nil, Nat.zero_add, Nat.reduceAdd, g3]
    have e2 : m.drop i = rd m (i : Int) :: m.drop (i + 1) := by
      rw [List.drop_eq_getElem_cons (by omega)]
      simp [rd, List.getD_eq_getElem?_getD, List.getElem?_eq_getElem (show i < m.length by omega)]
    rw [e2]
    have := ih (i + 1) (x ++ bytes4 (rd m (i : Int))) (by omega) (by simp [bytes4]; omega)
    simp only [allbytes, List.append_assoc] at this ⊢
    exact this
/-- What Encode tells: the bytes behind l. -/
def encd (l : List Int) (op n : Int) (m : List Int) : List Int := l ++ ([op % 256, n / 65536 % 256, n / 256 % 256, n % 256] ++ allbytes m)
theorem encode_ev (l : List Int) (op n : Int) (m : List Int) (hl : l.length ≤ 100000000000000) (hm : m.length ≤ 1073741824) :
    Ev (fun k => code_Encode.f k l op n m) (if chk op n m = 0 then (encd l op n m, 0) else ([], chk op n m)) := by
  unfold code_Encode.f
  refine Ev.bind (check_ev op n m) ?_
  by_cases h : chk op n m = 0
  · simp only [h, if_true]
    refine Ev.bind (size_ev op n m (by omega)) ?_
    simp only [h, if_true]
    rw [wrap64_id (n := 4 * (1 + (m.length : Int))) (by omega) (by omega), wrap64_id (n := (l.length : Int) + 4 * (1 + (m.length : Int))) (by omega) (by omega)]
    simp only [show 0 ≤ (l.length : Int) + 4 * (1 + (m.length : Int)) by omega, show ((l.length : Int) + 4 * (1 + (m.length : Int))).toNat ≤ 281474976710656 by omega, if_true, Option.bind_some, List.nil_append, List.length_nil, List.length_cons, Nat.zero_add, Nat.reduceAdd,
      show l.length < 140737488355328 by omega, show l.length + 4 < 140737488355328 by omega]
    have := enc_loop m hm m.length 0 (l ++ [op % 256, n / 65536 % 256, n / 256 % 256, n % 256]) (by omega) (by simp; omega)
    simp only [List.drop_zero, List.append_assoc] at this
    exact this
  · simp only [h, if_false]; exact Ev.now _

/-! four bytes of a row, and the word that they are -/
theorem drop_four {l : List Int} {p : Nat} (h : p + 4 ≤ l.length) : l.drop p = rd l (p : Int) :: rd l ((p : Int) + 1) :: rd l ((p : Int) + 2) :: rd l ((p : Int) + 3) :: l.drop (p + 4) := by
  have h1 : ∀ q, q < l.length → l.drop q = rd l (q : Int) :: l.drop (q + 1) := by
    intro q hq
    rw [List.drop_eq_getElem_cons hq]
    simp [rd, List.getD_eq_getElem?_getD, List.getElem?_eq_getElem hq]
  rw [h1 p (by omega), h1 (p + 1) (by omega), h1 (p + 2) (by omega), h1 (p + 3) (by omega)]
  rfl
theorem bytes4_be {l : List Int} (h : Bytes l) (p : Int) : bytes4 (be32 l p) = [rd l p, rd l (p + 1), rd l (p + 2), rd l (p + 3)] := by
  have h0 := h.rd p; have h1 := h.rd (p + 1); have h2 := h.rd (p + 2); have h3 := h.rd (p + 3)
  unfold bytes4 be32
  simp only [List.cons.injEq, and_true]
  omega
theorem take_four {l : List Int} (h : Bytes l) {p : Nat} (hp : p + 4 ≤ l.length) (d : Nat) : (l.drop p).take (4 * (d + 1)) = bytes4 (be32 l p) ++ (l.drop (p + 4)).take (4 * d) := by
  rw [drop_four hp, bytes4_be h, show 4 * (d + 1) = 4 * d + 1 + 1 + 1 + 1 by omega]
  simp only [List.take_succ_cons, List.cons_append, List.nil_append]
theorem allbytes_append (a b : List Int) : allbytes (a ++ b) = allbytes a ++ allbytes b := by
  induction a with
  | nil => rfl
  | cons x a ih => simp [allbytes, ih]
theorem take_words {l : List Int} (h : Bytes l) {a : Nat} (m : Nat) (hm : 4 * (a + 1 + m) ≤ l.length) : (l.drop (4 * (a + 1))).take (4 * m) = allbytes (mapat l (a : Int) m) := by
  have key : ∀ (m p : Nat), p + 4 * m ≤ l.length → (l.drop p).take (4 * m) = allbytes ((List.range m).map fun (k : Nat) => be32 l ((p : Int) + 4 * (k : Int))) := by
    intro m
    induction m with
    | zero => intro p _; simp [allbytes]
    | succ m ih =>
      intro p hp
      rw [take_four h (by omega), ih (p + 4) (by omega), List.range_succ_eq_map]
      simp only [List.map_cons, List.map_map, allbytes]
      rw [show ((p : Int) + 4 * ((0 : Nat) : Int)) = (p : Int) by omega]
      refine congrArg (fun z => bytes4 (be32 l (p : Int)) ++ allbytes z) ?_
      apply List.map_congr_left
      intro k _
      simp only [Function.comp]
      congr 1
      omega
  rw [key m (4 * (a + 1)) (by omega)]
  unfold mapat
  congr 2
  funext k
  congr 1
  omega

theorem tmod_range {a n : Int} (hn : 0 < n) : -n < Int.tmod a n ∧ Int.tmod a n < n := by
  refine ⟨?_, Int.tmod_lt_of_pos a hn⟩
  have h := Int.tmod_lt_of_pos (-a) hn
  rw [Int.neg_tmod] at h
  omega

end Go.Proofs.Ytpghpeoclbiloaa.Pure
