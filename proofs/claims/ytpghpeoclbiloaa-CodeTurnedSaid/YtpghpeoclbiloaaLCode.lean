/- Chapter 14 in plain Lean: what the printed functions of code, of wire.Get32 and of the reference's Get, isMap and Decode come to. -/
import Derived.Test.YtpghpeoclbiloaaLBase
import Derived.Test.YtpghpeoclbiloaaFx5
import Derived.Test.YtpghpeoclbiloaaFx1
import Derived.Test.YtpghpeoclbiloaaFx6
set_option linter.unusedVariables false
set_option linter.unusedSimpArgs false
namespace Go.Proofs.Ytpghpeoclbiloaa.Pure
open Go.RowKit Go.Proofs.Ytpghpeoclbiloaa.F Go.Proofs.YtpghpeoclbiloaaW.PrintWords Go.Proofs.YtpghpeoclbiloaaW.PrintLast Go.Proofs.YtpghpeoclbiloaaW.PrintMore

/-- Four bytes as a number. -/
def be32 (l : List Int) (p : Int) : Int := rd l p * 16777216 + rd l (p + 1) * 65536 + rd l (p + 2) * 256 + rd l (p + 3)
theorem be32_range {l : List Int} (h : Bytes l) (p : Int) : 0 ≤ be32 l p ∧ be32 l p < 4294967296 := by
  have h0 := h.rd p; have h1 := h.rd (p + 1); have h2 := h.rd (p + 2); have h3 := h.rd (p + 3)
  unfold be32; omega

theorem be4_or {a b c d : Int} (ha : 0 ≤ a ∧ a < 256) (hb : 0 ≤ b ∧ b < 256) (hc : 0 ≤ c ∧ c < 256) (hd : 0 ≤ d ∧ d < 256) :
    Go.bits .or .u32 (Go.bits .or .u32 (Go.bits .or .u32 (((a % 4294967296) * 16777216) % 4294967296) (((b % 4294967296) * 65536) % 4294967296)) (((c % 4294967296) * 256) % 4294967296)) (d % 4294967296) = a * 16777216 + b * 65536 + c * 256 + d := by
  have e1 : ((a % 4294967296) * 16777216) % 4294967296 = a * 16777216 := by omega
  have e2 : ((b % 4294967296) * 65536) % 4294967296 = b * 65536 := by omega
  have e3 : ((c % 4294967296) * 256) % 4294967296 = c * 256 := by omega
  have e4 : d % 4294967296 = d := by omega
  rw [e1, e2, e3, e4]
  rw [or_u32_add 24 (a := a * 16777216) (b := b * 65536) (by omega) (by omega) (by omega) (by omega) (by omega) (by omega)]
  rw [or_u32_add 16 (b := c * 256) (by omega) (by omega) (by omega) (by omega) (by omega) (by omega)]
  rw [or_u32_add 8 (b := d) (by omega) (by omega) (by omega) (by omega) (by omega) (by omega)]

theorem get32_in {l : List Int} (h : Bytes l) (hn : l.length ≤ 140737488351232) {p : Int} (h0 : 0 ≤ p) (h1 : p + 4 ≤ l.length) : wire_Get32.f l p = some (be32 l p, 0) := by
  unfold wire_Get32.f
  rw [if_neg (by omega), if_neg (by omega), wrap64_id (n := (l.length : Int) - 4) (by omega) (by omega), if_neg (by omega), if_pos h0, if_pos (by omega)]
  simp (disch := omega) only [wrap64_id]
  rw [if_pos (by omega), if_pos (by omega), if_pos (by omega), if_pos (by omega), if_pos (by omega), if_pos (by omega)]
  rw [be4_or (h.rd _) (h.rd _) (h.rd _) (h.rd _)]
  rfl

/-- How many words a map of n has. -/
def mapw (n : Int) : Int := if n < 5 then 1 else 2 ^ (n - 5).toNat
theorem mapw_range {n : Int} (h1 : 1 ≤ n) (h2 : n ≤ 24) : 1 ≤ mapw n ∧ mapw n ≤ 524288 := by
  obtain ⟨m, rfl⟩ := Int.eq_ofNat_of_zero_le (show 0 ≤ n by omega)
  have : ∀ m : Nat, m ≤ 24 → 1 ≤ mapw (m : Int) ∧ mapw (m : Int) ≤ 524288 := by decide +kernel
  exact this m (by omega)
theorem mapped_eq {n : Int} (h1 : 1 ≤ n) (h2 : n ≤ 24) : code_mapped.f n = some (mapw n) := by
  unfold code_mapped.f mapw
  by_cases h : n < 5
  · rw [if_pos h, if_pos h]
  · rw [if_neg h, if_neg h, wrap64_id (by omega) (by omega), if_pos (by omega), shl_i64_one (by omega) (by omega)]

/-- Words are a map of n (1 to 24). -/
def ismap (m : List Int) (n : Int) : Bool := decide ((m.length : Int) = mapw n) && !decide (rd m 0 / 2147483648 = 0) && (decide (5 ≤ n) || (shl .u32 (rd m 0) (shl .u64 1 n) == 0))
theorem isMap_eq {m : List Int} {n : Int} (h1 : 1 ≤ n) (h2 : n ≤ 24) : code_isMap.f m n = some (ismap m n) := by
  have hw := mapw_range h1 h2
  unfold code_isMap.f ismap
  rw [mapped_eq h1 h2]
  simp only [Option.bind_some]
  by_cases e1 : (m.length : Int) = mapw n
  · rw [if_pos e1, if_pos (by omega)]
    by_cases e2 : rd m 0 / 2147483648 = 0
    · rw [if_pos e2]; simp [e1, e2]
    · rw [if_neg e2]
      by_cases e3 : n ≥ 5
      · rw [if_pos e3]; simp [e1, e2, show 5 ≤ n from e3]
      · rw [if_neg e3, if_pos (by omega)]; simp [e1, e2, show ¬ 5 ≤ n from e3]
  · rw [if_neg e1]; simp [e1]

/-- An operation may have a number. -/
def isnum (op n : Int) : Bool := if op = 1 ∨ op = 2 then decide (1 ≤ n ∧ n ≤ 24) else if op = 3 then decide (1 ≤ n ∧ n ≤ 16777215) else if op = 4 then decide (0 ≤ n ∧ n ≤ 65535) else false
theorem number_eq (op n : Int) : code_number.f op n = some (isnum op n) := by
  unfold code_number.f isnum
  by_cases h1 : op = 1
  · subst h1; by_cases h : n ≥ 1
    · simp [h, show 1 ≤ n from h]
    · simp [h, show ¬ 1 ≤ n from h]
  · by_cases h2 : op = 2
    · subst h2; by_cases h : n ≥ 1
      · simp [h, show 1 ≤ n from h]
      · simp [h, show ¬ 1 ≤ n from h]
    · by_cases h3 : op = 3
      · subst h3; by_cases h : n ≥ 1
        · simp [h, show 1 ≤ n from h]
        · simp [h, show ¬ 1 ≤ n from h]
      · by_cases h4 : op = 4
        · subst h4; by_cases h : n ≥ 0
          · simp [h, show 0 ≤ n from h]
          · simp [h, show ¬ 0 ≤ n from h]
        · simp only [h1, h2, h3, h4, if_false, or_self]
          by_cases h : n ≥ 1
          · simp [h]; omega
          · simp [h]

/-- The map of n that stands behind word at. -/
def mapat (l : List Int) (at_ : Int) (m : Nat) : List Int := (List.range m).map fun (k : Nat) => be32 l (4 * (at_ + 1 + (k : Int)))
/-- The instruction at a word: its operation, number, map; how many words; an error. -/
def dec (l : List Int) (at_ : Int) : Int × Int × List Int × Int × Int :=
  if at_ < 0 ∨ (l.length : Int) / 4 ≤ at_ then (0, 0, [], 0, 30) else
  let op := be32 l (4 * at_) / 16777216
  let n := be32 l (4 * at_) % 16777216
  if (op = 1 ∨ op = 2) ∧ 255 < n ∨ op = 4 ∧ 65535 < n ∨ ¬ (1 ≤ op ∧ op ≤ 4) then (0, 0, [], 0, 24) else
  if isnum op n = false then (0, 0, [], 0, 1) else
  if op ≠ 2 then (op, n, [], 1, 0) else
  if (l.length : Int) / 4 - at_ - 1 < mapw n then (0, 0, [], 0, 30) else
  if ismap (mapat l at_ (mapw n).toNat) n = true then (op, n, mapat l at_ (mapw n).toNat, 1 + mapw n, 0) else (0, 0, [], 0, 25)


theorem mapat_length (l : List Int) (at_ : Int) (m : Nat) : (mapat l at_ m).length = m := by simp [mapat]
theorem mapat_get (l : List Int) (at_ : Int) (m i : Nat) (h : i < m) : (mapat l at_ m)[i]? = some (be32 l (4 * (at_ + 1 + (i : Int)))) := by
  simp [mapat, h]
theorem mapat_words {l : List Int} (h : Bytes l) (at_ : Int) (m : Nat) : Words (mapat l at_ m) := by
  intro x hx
  simp only [mapat, List.mem_map] at hx
  obtain ⟨k, _, rfl⟩ := hx
  exact be32_range h _

theorem dec_loop {l : List Int} (h : Bytes l) (hn : l.length ≤ 140737488351232) {at_ : Int} (h0 : 0 ≤ at_) {m : Nat} (hm : at_ + 1 + m ≤ (l.length : Int) / 4) (op n : Int) (hn1 : 1 ≤ n) (hn2 : n ≤ 24)
    (d : Nat) : ∀ (i : Nat) (x : List Int), i + d = m → x.length = m → x.take i = (mapat l at_ m).take i →
    Ev (fun k => code_Decode.l0 k l at_ (m : Int) (m : Int) (i : Int) op n x) (if ismap (mapat l at_ m) n = true then (op, n, mapat l at_ m, 1 + (m : Int), 0) else (0, 0, [], 0, 25)) := by
  induction d with
  | zero =>
    intro i x hi hx ht
    have hxe : x = mapat l at_ m := by
      have h1 : x.take i = x := List.take_of_length_le (by omega)
      have h2 : (mapat l at_ m).take i = mapat l at_ m := List.take_of_length_le (by rw [mapat_length]; omega)
      rw [← h1, ht, h2]
    subst hxe
    refine Ev.succ ?_; simp only [code_Decode.l0]
    simp only [show ¬ ((i : Int) < (m : Int)) from by omega, if_false, isMap_eq hn1 hn2, Option.bind_some]
    rw [wrap64_id (by omega) (by omega)]
    by_cases e : ismap (mapat l at_ m) n = true
    · simp only [e, if_true]; exact Ev.now _
    · simp only [e]; exact Ev.now _
  | succ d ih =>
    intro i x hi hx ht
    refine Ev.succ ?_; simp only [code_Decode.l0]
    have g1 := get32_in h hn (p := 4 * (at_ + 1 + (i : Int))) (by omega) (by omega)
    have g2 : (i : Int) < (m : Int) := by omega
    have g3 : (0 : Int) ≤ (i : Int) := by omega
    have g4 : (i : Int) < (x.length : Int) := by omega
    have e1 : wrap64 (at_ + 1) = at_ + 1 := wrap64_id (by omega) (by omega)
    have e2 : wrap64 (at_ + 1 + (i : Int)) = at_ + 1 + (i : Int) := wrap64_id (by omega) (by omega)
    have e3 : wrap64 (4 * (at_ + 1 + (i : Int))) = 4 * (at_ + 1 + (i : Int)) := wrap64_id (by omega) (by omega)
    have e4 : wrap64 ((i : Int) + 1) = ((i + 1 : Nat) : Int) := wrap64_id (by omega) (by omega)
    simp only [g2, if_true, e1, e2, e3, e4, g1, Option.bind_some, g3, g4, Int.toNat_natCast]
    clear e1 e2 e3 e4
    refine ih (i + 1) _ (by omega) (by simpa using hx) ?_
    rw [List.take_add_one, List.take_add_one, List.take_set_of_le (by omega), ht, mapat_get _ _ _ _ (by omega)]
    simp [List.getElem?_set, show i < x.length by omega]

theorem decode_ev {l : List Int} (h : Bytes l) (hn : l.length ≤ 140737488351232) (at_ : Int) : Ev (fun k => code_Decode.f k l at_) (dec l at_) := by
  have hj2 : ∀ op n : Int, 0 ≤ at_ → at_ < (l.length : Int) / 4 → (op = be32 l (4 * at_) / 16777216) → (n = be32 l (4 * at_) % 16777216) → ¬ ((op = 1 ∨ op = 2) ∧ 255 < n ∨ op = 4 ∧ 65535 < n ∨ ¬ (1 ≤ op ∧ op ≤ 4)) → Ev (fun k => code_Decode.j2 k l at_ op n) (dec l at_) := by
    intro op n h0 h1 ho hnn hok
    have hd : dec l at_ = (if isnum op n = false then (0, 0, [], 0, 1) else if op ≠ 2 then (op, n, [], 1, 0) else if (l.length : Int) / 4 - at_ - 1 < mapw n then (0, 0, [], 0, 30) else
        if ismap (mapat l at_ (mapw n).toNat) n = true then (op, n, mapat l at_ (mapw n).toNat, 1 + mapw n, 0) else (0, 0, [], 0, 25)) := by
      unfold dec
      simp only [← ho, ← hnn]
      rw [if_neg (by omega), if_neg hok]
    rw [hd]
    refine Ev.succ ?_; simp only [code_Decode.j2]
    simp only [number_eq, Option.bind_some]
    cases e1 : isnum op n with
    | false => simp only [Bool.false_eq_true, if_false, if_true]; exact Ev.now _
    | true =>
      simp only [if_true, Bool.true_eq_false, if_false]
      by_cases e2 : op = 2
      · subst e2
        have hr : 1 ≤ n ∧ n ≤ 24 := by simpa [isnum] using e1
        have hw := mapw_range hr.1 hr.2
        have e3 : wrap64 (wrap64 (wrap64 ((l.length : Int) / 4) - at_) - 1) = (l.length : Int) / 4 - at_ - 1 := by
          rw [wrap64_id (n := (l.length : Int) / 4) (by omega) (by omega), wrap64_id (n := (l.length : Int) / 4 - at_) (by omega) (by omega), wrap64_id (by omega) (by omega)]
        simp only [if_true, ne_eq, not_true_eq_false, if_false, mapped_eq hr.1 hr.2, Option.bind_some, e3]
        clear e3
        by_cases e4 : (l.length : Int) / 4 - at_ - 1 < mapw n
        · simp only [gt_iff_lt, e4, if_true]; exact Ev.now _
        · simp only [gt_iff_lt, e4, if_false, show 0 ≤ mapw n from by omega, show (mapw n).toNat ≤ 70368744177664 from by omega, if_true, List.length_replicate]
          obtain ⟨m, hm⟩ : ∃ m : Nat, mapw n = (m : Int) := ⟨(mapw n).toNat, by omega⟩
          rw [hm]
          simp only [Int.toNat_natCast]
          exact dec_loop h hn h0 (by omega) 2 n hr.1 hr.2 m 0 _ (by omega) (by simp) (by simp)
      · simp only [e2, if_false, ne_eq, not_false_eq_true, if_true]; exact Ev.now _
  unfold code_Decode.f
  by_cases h0 : at_ < 0
  · have hd : dec l at_ = (0, 0, [], 0, 30) := by unfold dec; rw [if_pos (.inl h0)]
    simp only [h0, if_true, hd]
    refine Ev.succ ?_; simp only [code_Decode.j0]
    simp only [if_true]; exact Ev.now _
  · simp only [h0, if_false]
    rw [wrap64_id (by omega) (by omega)]
    by_cases h1 : at_ ≥ (l.length : Int) / 4
    · have hd : dec l at_ = (0, 0, [], 0, 30) := by unfold dec; rw [if_pos (.inr h1)]
      simp only [h1, decide_true, hd]
      refine Ev.succ ?_; simp only [code_Decode.j0]
      simp only [if_true]; exact Ev.now _
    · simp only [h1, decide_false]
      refine Ev.succ ?_; simp only [code_Decode.j0]
      have hr := be32_range h (4 * at_)
      have g1 := get32_in h hn (p := 4 * at_) (by omega) (by omega)
      have e1 : wrap64 (4 * at_) = 4 * at_ := wrap64_id (by omega) (by omega)
      simp only [Bool.false_eq_true, if_false, e1, g1, Option.bind_some, and_u32_24 hr.1 hr.2]
      clear e1 g1
      have e2 : wrap64 (be32 l (4 * at_) / 16777216) = be32 l (4 * at_) / 16777216 := wrap64_id (by omega) (by omega)
      have e3 : wrap64 (be32 l (4 * at_) % 16777216) = be32 l (4 * at_) % 16777216 := wrap64_id (by omega) (by omega)
      rw [e2, e3]
      clear e2 e3
      obtain ⟨op, ho⟩ : ∃ op, op = be32 l (4 * at_) / 16777216 := ⟨_, rfl⟩
      obtain ⟨n, hnn⟩ : ∃ n, n = be32 l (4 * at_) % 16777216 := ⟨_, rfl⟩
      have hbad : ((op = 1 ∨ op = 2) ∧ 255 < n ∨ op = 4 ∧ 65535 < n ∨ ¬ (1 ≤ op ∧ op ≤ 4)) → dec l at_ = (0, 0, [], 0, 24) := by
        intro hb; unfold dec; simp only [← ho, ← hnn]; rw [if_neg (by omega), if_pos hb]
      rw [← ho, ← hnn]
      have hj1 : (op = 1 ∨ op = 2) → Ev (fun k => code_Decode.j1 k l at_ op n) (dec l at_) := by
        intro hop
        refine Ev.succ ?_; simp only [code_Decode.j1]
        by_cases e : n > 255
        · simp only [e, if_true, hbad (.inl ⟨hop, e⟩)]; exact Ev.now _
        · simp only [e, if_false]; exact hj2 op n (by omega) (by omega) ho hnn (by omega)
      by_cases o1 : op = 1
      · simp only [o1, if_true]; rw [← o1]; exact hj1 (.inl o1)
      · by_cases o2 : op = 2
        · simp only [o1, o2, if_true, if_false]; have := hj1 (.inr o2); rw [o2] at this; exact this
        · by_cases o4 : op = 4
          · subst o4
            by_cases e : n > 65535
            · simp only [e, if_true, hbad (.inr (.inl ⟨rfl, e⟩))]; exact Ev.now _
            · simp only [e, if_false, if_true]; exact hj2 4 n (by omega) (by omega) ho hnn (by omega)
          · by_cases o3 : op = 3
            · subst o3; simp only [if_true]; exact hj2 3 n (by omega) (by omega) ho hnn (by omega)
            · simp only [o1, o2, o3, o4, if_false, hbad (.inr (.inr (by omega)))]; exact Ev.now _

theorem dec_err {l : List Int} {at_ : Int} (h : (dec l at_).2.2.2.2 ≠ 0) : (dec l at_).1 = 0 ∧ (dec l at_).2.1 = 0 ∧ (dec l at_).2.2.1 = [] ∧ (dec l at_).2.2.2.1 = 0 := by
  revert h
  unfold dec
  simp only []
  repeat' split
  all_goals simp
/-- What is told where there is no error. -/
theorem dec_ok {l : List Int} {at_ : Int} (h : (dec l at_).2.2.2.2 = 0) : 0 ≤ at_ ∧ at_ < (l.length : Int) / 4 ∧ (dec l at_).1 = be32 l (4 * at_) / 16777216 ∧ (dec l at_).2.1 = be32 l (4 * at_) % 16777216 ∧
    isnum (dec l at_).1 (dec l at_).2.1 = true ∧ (((dec l at_).1 ≠ 2 ∧ (dec l at_).2.2.1 = [] ∧ (dec l at_).2.2.2.1 = 1) ∨
    ((dec l at_).1 = 2 ∧ (dec l at_).2.2.1 = mapat l at_ (mapw (dec l at_).2.1).toNat ∧ (dec l at_).2.2.2.1 = 1 + mapw (dec l at_).2.1 ∧ at_ + 1 + mapw (dec l at_).2.1 ≤ (l.length : Int) / 4 ∧ ismap (dec l at_).2.2.1 (dec l at_).2.1 = true)) := by
  by_cases h1 : at_ < 0 ∨ (l.length : Int) / 4 ≤ at_
  · exfalso; unfold dec at h; rw [if_pos h1] at h; simp at h
  · obtain ⟨op, ho⟩ : ∃ op, op = be32 l (4 * at_) / 16777216 := ⟨_, rfl⟩
    obtain ⟨n, hnn⟩ : ∃ n, n = be32 l (4 * at_) % 16777216 := ⟨_, rfl⟩
    have hd : dec l at_ = (if (op = 1 ∨ op = 2) ∧ 255 < n ∨ op = 4 ∧ 65535 < n ∨ ¬ (1 ≤ op ∧ op ≤ 4) then (0, 0, [], 0, 24) else if isnum op n = false then (0, 0, [], 0, 1) else if op ≠ 2 then (op, n, [], 1, 0) else if (l.length : Int) / 4 - at_ - 1 < mapw n then (0, 0, [], 0, 30) else
        if ismap (mapat l at_ (mapw n).toNat) n = true then (op, n, mapat l at_ (mapw n).toNat, 1 + mapw n, 0) else (0, 0, [], 0, 25)) := by
      unfold dec
      simp only [← ho, ← hnn]
      rw [if_neg h1]
    rw [hd] at h ⊢
    rw [← ho, ← hnn]
    by_cases h2 : (op = 1 ∨ op = 2) ∧ 255 < n ∨ op = 4 ∧ 65535 < n ∨ ¬ (1 ≤ op ∧ op ≤ 4)
    · rw [if_pos h2] at h; simp at h
    rw [if_neg h2] at h ⊢
    by_cases h3 : isnum op n = false
    · rw [if_pos h3] at h; simp at h
    rw [if_neg h3] at h ⊢
    by_cases h4 : op ≠ 2
    · rw [if_pos h4]; exact ⟨by omega, by omega, rfl, rfl, by simpa using h3, .inl ⟨h4, rfl, rfl⟩⟩
    rw [if_neg h4] at h ⊢
    by_cases h5 : (l.length : Int) / 4 - at_ - 1 < mapw n
    · rw [if_pos h5] at h; simp at h
    rw [if_neg h5] at h ⊢
    by_cases h6 : ismap (mapat l at_ (mapw n).toNat) n = true
    · rw [if_pos h6]; exact ⟨by omega, by omega, rfl, rfl, by simpa using h3, .inr ⟨by simpa using h4, rfl, rfl, by simp only; omega, h6⟩⟩
    · rw [if_neg h6] at h; simp at h
theorem isnum_map {n : Int} (h : isnum 2 n = true) : 1 ≤ n ∧ n ≤ 24 := by simpa [isnum] using h
theorem dec_maplen {l : List Int} (at_ : Int) : (dec l at_).2.2.1.length ≤ 524288 := by
  by_cases h : (dec l at_).2.2.2.2 = 0
  · obtain ⟨_, _, _, _, hi, ⟨_, hm, _⟩ | ⟨ho, hm, _⟩⟩ := dec_ok h
    · rw [hm]; simp
    · rw [ho] at hi
      have := mapw_range (isnum_map hi).1 (isnum_map hi).2
      rw [hm, mapat_length]; omega
  · rw [(dec_err h).2.2.1]; simp
theorem dec_len {l : List Int} (hn : l.length ≤ 140737488351232) (at_ : Int) : (dec l at_).2.2.1.length ≤ 140737488351232 := by
  have := dec_maplen (l := l) at_; omega
end Go.Proofs.Ytpghpeoclbiloaa.Pure
