/- What was laid down is read there as it, in plain Lean. -/
import Derived.Test.YtpghpeoclbiloaaLEnc
set_option linter.unusedVariables false
set_option linter.unusedSimpArgs false
namespace Go.Proofs.Ytpghpeoclbiloaa.Pure
open Go.RowKit Go.Proofs.Ytpghpeoclbiloaa.F Go.Proofs.YtpghpeoclbiloaaW.PrintWords Go.Proofs.YtpghpeoclbiloaaW.PrintLast Go.Proofs.YtpghpeoclbiloaaW.PrintMore

theorem bytes_append {a b : List Int} (ha : Bytes a) (hb : Bytes b) : Bytes (a ++ b) := by
  intro x hx; rcases List.mem_append.1 hx with h | h
  · exact ha x h
  · exact hb x h
theorem bytes4_bytes (v : Int) : Bytes (bytes4 v) := by
  intro x hx; simp [bytes4] at hx; omega
theorem allbytes_bytes (m : List Int) : Bytes (allbytes m) := by
  induction m with
  | nil => intro x hx; simp [allbytes] at hx
  | cons w m ih => exact bytes_append (bytes4_bytes w) ih
theorem head_bytes (op n : Int) : Bytes [op % 256, n / 65536 % 256, n / 256 % 256, n % 256] := by
  intro x hx; simp at hx; omega
theorem encd_bytes {l : List Int} (h : Bytes l) (op n : Int) (m : List Int) : Bytes (encd l op n m) :=
  bytes_append h (bytes_append (head_bytes op n) (allbytes_bytes m))
theorem encd_length (l : List Int) (op n : Int) (m : List Int) : (encd l op n m).length = l.length + 4 * (1 + m.length) := by
  unfold encd; simp [allbytes_length]; omega
theorem allbytes_inj {a b : List Int} (ha : Words a) (hb : Words b) (h : allbytes a = allbytes b) : a = b := by
  induction a generalizing b with
  | nil => cases b with
    | nil => rfl
    | cons y b => simp [allbytes, bytes4] at h
  | cons x a ih => cases b with
    | nil => simp [allbytes, bytes4] at h
    | cons y b =>
      simp only [allbytes, bytes4, List.cons_append, List.nil_append, List.cons.injEq] at h
      have hx := ha x (by simp); have hy := hb y (by simp)
      obtain ⟨h1, h2, h3, h4, h5⟩ := h
      rw [show x = y by omega, ih (fun z hz => ha z (by simp [hz])) (fun z hz => hb z (by simp [hz])) h5]

/-- The parts of an instruction that is right. -/
theorem chk_zero {op n : Int} {m : List Int} (h : chk op n m = 0) : 1 ≤ op ∧ op ≤ 4 ∧ isnum op n = true ∧ 0 ≤ n ∧ n ≤ 16777215 ∧ ((op ≠ 2 ∧ m = []) ∨ (op = 2 ∧ 1 ≤ n ∧ n ≤ 24 ∧ ismap m n = true ∧ (m.length : Int) = mapw n)) := by
  unfold chk at h
  by_cases h1 : op < 1 ∨ 4 < op
  · rw [if_pos h1] at h; omega
  rw [if_neg h1] at h
  by_cases h2 : isnum op n = false
  · rw [if_pos h2] at h; omega
  rw [if_neg h2] at h
  have h2' : isnum op n = true := by simpa using h2
  by_cases h3 : op = 2 ∧ ismap m n = false ∨ op ≠ 2 ∧ m ≠ []
  · rw [if_pos h3] at h; omega
  have hnb : 0 ≤ n ∧ n ≤ 16777215 := by
    have := h2'; unfold isnum at this
    by_cases a1 : op = 1 ∨ op = 2
    · rw [if_pos a1] at this; have := of_decide_eq_true this; omega
    · rw [if_neg a1] at this
      by_cases a3 : op = 3
      · rw [if_pos a3] at this; have := of_decide_eq_true this; omega
      · rw [if_neg a3] at this
        by_cases a4 : op = 4
        · rw [if_pos a4] at this; have := of_decide_eq_true this; omega
        · rw [if_neg a4] at this; cases this
  refine ⟨by omega, by omega, h2', hnb.1, hnb.2, ?_⟩
  by_cases h4 : op = 2
  · right
    subst h4
    have hr := isnum_map h2'
    have hm : ismap m n = true := by
      cases e : ismap m n with
      | true => rfl
      | false => exact absurd (.inl ⟨rfl, e⟩) h3
    refine ⟨rfl, hr.1, hr.2, hm, ?_⟩
    unfold ismap at hm
    simp only [Bool.and_eq_true, decide_eq_true_eq] at hm
    exact hm.1.1
  · left
    refine ⟨h4, ?_⟩
    cases m with
    | nil => rfl
    | cons x m => exact absurd (.inr ⟨h4, by simp⟩) h3

/-- A word is read of its four bytes. -/
theorem be32_of {l : List Int} {p : Nat} {a b c d : Int} {r : List Int} (h : l.drop p = a :: b :: c :: d :: r) : be32 l (p : Int) = a * 16777216 + b * 65536 + c * 256 + d := by
  have hp : p + 4 ≤ l.length := by
    have := congrArg List.length h
    simp at this; omega
  rw [drop_four hp] at h
  simp only [List.cons.injEq] at h
  obtain ⟨h1, h2, h3, h4, _⟩ := h
  unfold be32
  rw [h1, h2, h3, h4]

theorem dec_back {pre : List Int} (hpre : Bytes pre) {a : Nat} (ha : pre.length = 4 * a) {op n : Int} {m tail : List Int} (hm : Words m) (htail : Bytes tail) (hc : chk op n m = 0) :
    dec (encd pre op n m ++ tail) (a : Int) = (op, n, m, 1 + (m.length : Int), 0) := by
  obtain ⟨o1, o2, hi, n1, n2, hcase⟩ := chk_zero hc
  have hB : Bytes (encd pre op n m ++ tail) := bytes_append (encd_bytes hpre _ _ _) htail
  have hlen : (encd pre op n m ++ tail).length = 4 * a + 4 * (1 + m.length) + tail.length := by rw [List.length_append, encd_length, ha]
  have hdrop : (encd pre op n m ++ tail).drop (4 * a) = op % 256 :: n / 65536 % 256 :: n / 256 % 256 :: n % 256 :: (allbytes m ++ tail) := by
    unfold encd
    rw [List.append_assoc, ← ha, List.drop_left]
    rfl
  have hbe : be32 (encd pre op n m ++ tail) (4 * (a : Int)) = op * 16777216 + n := by
    have := be32_of hdrop
    rw [show (4 * (a : Int)) = ((4 * a : Nat) : Int) by omega, this]
    omega
  obtain ⟨l, hl⟩ : ∃ l, l = encd pre op n m ++ tail := ⟨_, rfl⟩
  rw [← hl] at hB hlen hdrop hbe ⊢
  have hop : be32 l (4 * (a : Int)) / 16777216 = op := by rw [hbe]; omega
  have hn : be32 l (4 * (a : Int)) % 16777216 = n := by rw [hbe]; omega
  unfold dec
  simp only [hop, hn]
  rw [if_neg (by omega)]
  have hnot : ¬ ((op = 1 ∨ op = 2) ∧ 255 < n ∨ op = 4 ∧ 65535 < n ∨ ¬ (1 ≤ op ∧ op ≤ 4)) := by
    have := hi; unfold isnum at this
    by_cases a1 : op = 1 ∨ op = 2
    · rw [if_pos a1] at this; have := of_decide_eq_true this; omega
    · rw [if_neg a1] at this
      by_cases a3 : op = 3
      · omega
      · rw [if_neg a3] at this
        by_cases a4 : op = 4
        · rw [if_pos a4] at this; have := of_decide_eq_true this; omega
        · omega
  rw [if_neg hnot, if_neg (by rw [hi]; simp)]
  rcases hcase with ⟨h2, rfl⟩ | ⟨h2, r1, r2, hmap, hml⟩
  · rw [if_pos h2]; rfl
  · have hw := mapw_range r1 r2
    have hml' : (mapw n).toNat = m.length := by omega
    have hmat : mapat l (a : Int) (mapw n).toNat = m := by
      rw [hml']
      refine allbytes_inj (mapat_words hB _ _) hm ?_
      rw [← take_words hB m.length (by omega)]
      have : l.drop (4 * (a + 1)) = allbytes m ++ tail := by
        rw [show 4 * (a + 1) = 4 * a + 4 by omega, ← List.drop_drop, hdrop]; rfl
      rw [this, ← allbytes_length, List.take_left]
    rw [if_neg (by omega), if_neg (by omega), hmat, if_pos hmap, hml]
end Go.Proofs.Ytpghpeoclbiloaa.Pure
