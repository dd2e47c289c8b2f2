/- The reference's Get, isMap and Decode of chapters 13 and 14, the laws' Same and known, in plain Lean. -/
import Derived.Test.YtpghpeoclbiloaaLCode
import Derived.Test.YtpghpeoclbiloaaFx13
import Derived.Test.YtpghpeoclbiloaaFx7
import Derived.Test.YtpghpeoclbiloaaFx14
set_option linter.unusedVariables false
set_option linter.unusedSimpArgs false
namespace Go.Proofs.Ytpghpeoclbiloaa.Pure
open Go.RowKit Go.Proofs.Ytpghpeoclbiloaa.F Go.Proofs.YtpghpeoclbiloaaW.PrintWords Go.Proofs.YtpghpeoclbiloaaW.PrintLast Go.Proofs.YtpghpeoclbiloaaW.PrintMore

theorem rmapped_eq {n : Int} (h1 : 1 ≤ n) (h2 : n ≤ 24) : turnpikeref14_MapWords.f n = some (mapw n) := by
  have := mapped_eq h1 h2
  unfold code_mapped.f at this
  unfold turnpikeref14_MapWords.f
  exact this
theorem risMap_eq {m : List Int} {n : Int} (h1 : 1 ≤ n) (h2 : n ≤ 24) : turnpikeref14_isMap.f m n = some (ismap m n) := by
  have := isMap_eq (m := m) h1 h2
  unfold code_isMap.f at this
  unfold turnpikeref14_isMap.f
  rw [mapped_eq h1 h2] at this
  rw [rmapped_eq h1 h2]
  exact this

/-- So many bytes from a place on as a number, v ahead. -/
def beOn (l : List Int) (p : Int) : Nat → Int → Int
  | 0, v => v
  | d + 1, v => beOn l (p + 1) d ((v * 256 + rd l p) % 4294967296)
theorem or_step {v x : Int} (hv : 0 ≤ v ∧ v < 4294967296) (hx : 0 ≤ x ∧ x < 256) : Go.bits .or .u32 ((v * 256) % 4294967296) (x % 4294967296) = (v * 256 + x) % 4294967296 := by
  have e : x % 4294967296 = x := by omega
  rw [e, or_u32_add 8 (by omega) (by omega) (by omega) (by omega) (by omega) (by omega)]
  omega
theorem rget_loop {l : List Int} (h : Bytes l) (hn : l.length ≤ 140737488351232) {a n : Int} (h0 : 0 ≤ a) (hn0 : 0 ≤ n) (h1 : a + n ≤ l.length) (d : Nat) :
    ∀ (p v : Int), a ≤ p → p + d = a + n → 0 ≤ v ∧ v < 4294967296 → Ev (fun k => turnpikeref13_Get.l0 k l a n v p) (beOn l p d v, true) := by
  induction d with
  | zero =>
    intro p v hp hd hv
    refine Ev.succ ?_; simp only [turnpikeref13_Get.l0]
    have g1 : ¬ p < a + n := by omega
    rw [wrap64_id (n := a + n) (by omega) (by omega)]
    simp only [g1, if_false, beOn]
    exact Ev.now _
  | succ d ih =>
    intro p v hp hd hv
    refine Ev.succ ?_; simp only [turnpikeref13_Get.l0]
    have g1 : p < a + n := by omega
    have g2 : 0 ≤ p := by omega
    have g3 : p < (l.length : Int) := by omega
    rw [wrap64_id (n := a + n) (by omega) (by omega), wrap64_id (n := p + 1) (by omega) (by omega)]
    simp only [g1, g2, g3, if_true, or_step hv (h.rd p), beOn]
    exact ih (p + 1) _ (by omega) (by omega) (by omega)
theorem rget_in {l : List Int} (h : Bytes l) (hn : l.length ≤ 140737488351232) {a : Int} {n : Nat} (h0 : 0 ≤ a) (h1 : a + n ≤ l.length) : Ev (fun k => turnpikeref13_Get.f k l a n) (beOn l a n 0, true) := by
  unfold turnpikeref13_Get.f
  have g1 : ¬ a < 0 := by omega
  have g2 : ¬ a > (l.length : Int) := by omega
  have g3 : ¬ (l.length : Int) - a < n := by omega
  rw [wrap64_id (n := (l.length : Int) - a) (by omega) (by omega)]
  simp only [g1, g2, g3, if_false, decide_false]
  refine Ev.succ ?_; simp only [turnpikeref13_Get.j0, Bool.false_eq_true, if_false]
  exact rget_loop h hn h0 (by omega) h1 n a 0 (by omega) (by omega) (by omega)
theorem rget_out {l : List Int} (hn : l.length ≤ 140737488351232) {a n : Int} (hb : -9223372036854775808 ≤ a ∧ a ≤ 9223372036854775807) (h1 : a < 0 ∨ (l.length : Int) < a + n ∨ (l.length : Int) < a) : Ev (fun k => turnpikeref13_Get.f k l a n) (0, false) := by
  have hj : Ev (fun k => turnpikeref13_Get.j0 k l a n true) (0, false) := by
    refine Ev.succ ?_; simp only [turnpikeref13_Get.j0, if_true]; exact Ev.now _
  unfold turnpikeref13_Get.f
  by_cases g1 : a < 0
  · simp only [g1, if_true]; exact hj
  · by_cases g2 : a > (l.length : Int)
    · simp only [g1, g2, if_true, if_false]; exact hj
    · have g3 : (l.length : Int) - a < n := by omega
      rw [wrap64_id (n := (l.length : Int) - a) (by omega) (by omega)]
      simp only [g1, g2, g3, if_false, decide_true]; exact hj
theorem beOn_four {l : List Int} (h : Bytes l) (p : Int) : beOn l p 4 0 = be32 l p := by
  have h0 := h.rd p; have h1 := h.rd (p + 1); have h2 := h.rd (p + 2); have h3 := h.rd (p + 3)
  simp only [beOn, be32, show p + 1 + 1 = p + 2 from by omega, show p + 2 + 1 = p + 3 from by omega]
  omega
theorem rget32_in {l : List Int} (h : Bytes l) (hn : l.length ≤ 140737488351232) {a : Int} (h0 : 0 ≤ a) (h1 : a + 4 ≤ l.length) : Ev (fun k => turnpikeref13_Get.f k l a 4) (be32 l a, true) := by
  rw [← beOn_four h]; exact rget_in (n := 4) h hn h0 h1

theorem rdec_loop {l : List Int} (h : Bytes l) (hn : l.length ≤ 140737488351232) {at_ : Int} (h0 : 0 ≤ at_) {m : Nat} (hm : at_ + 1 + m ≤ (l.length : Int) / 4) (hm2 : m ≤ 524288) (op n : Int) (hn1 : 1 ≤ n) (hn2 : n ≤ 24)
    (d : Nat) : ∀ (i : Nat), i + d = m →
    Ev (fun k => turnpikeref14_Decode.l0 k l at_ (m : Int) ((i : Int) + 1) op n ((mapat l at_ m).take i)) (if ismap (mapat l at_ m) n = true then (op, n, mapat l at_ m, 1 + (m : Int), 0) else (0, 0, [], 0, 25)) := by
  induction d with
  | zero =>
    intro i hi
    have h2 : (mapat l at_ m).take i = mapat l at_ m := List.take_of_length_le (by rw [mapat_length]; omega)
    rw [h2]
    refine Ev.succ ?_; simp only [turnpikeref14_Decode.l0]
    simp only [show ¬ ((i : Int) + 1 ≤ (m : Int)) from by omega, if_false, risMap_eq hn1 hn2, Option.bind_some]
    rw [wrap64_id (by omega) (by omega)]
    by_cases e : ismap (mapat l at_ m) n = true
    · simp only [e, if_true]; exact Ev.now _
    · simp only [e]; exact Ev.now _
  | succ d ih =>
    intro i hi
    refine Ev.succ ?_; simp only [turnpikeref14_Decode.l0]
    have g1 := rget32_in h hn (a := 4 * (at_ + 1 + (i : Int))) (by omega) (by omega)
    have g2 : (i : Int) + 1 ≤ (m : Int) := by omega
    have g3 : ((mapat l at_ m).take i).length < 35184372088832 := by rw [List.length_take, mapat_length]; omega
    have e1 : wrap64 (at_ + ((i : Int) + 1)) = at_ + 1 + (i : Int) := by rw [wrap64_id (by omega) (by omega)]; omega
    have e2 : wrap64 (4 * (at_ + 1 + (i : Int))) = 4 * (at_ + 1 + (i : Int)) := wrap64_id (by omega) (by omega)
    have e3 : wrap64 ((i : Int) + 1 + 1) = ((i + 1 : Nat) : Int) + 1 := by rw [wrap64_id (by omega) (by omega)]; omega
    simp only [g2, if_true, e1, e2, e3, g3]
    clear e1 e2 e3
    refine Ev.bind g1 ?_
    have e4 : (mapat l at_ m).take i ++ [be32 l (4 * (at_ + 1 + (i : Int)))] = (mapat l at_ m).take (i + 1) := by
      rw [List.take_add_one, mapat_get _ _ _ _ (by omega)]; rfl
    simp only [e4]
    exact ih (i + 1) (by omega)

theorem rdecode_ev {l : List Int} (h : Bytes l) (hn : l.length ≤ 140737488351232) (at_ : Int) : Ev (fun k => turnpikeref14_Decode.f k l at_) (dec l at_) := by
  have hj0 : (at_ < 0 ∨ (l.length : Int) / 4 ≤ at_) → dec l at_ = (0, 0, [], 0, 30) := by intro hb; unfold dec; rw [if_pos hb]
  have hj2 : ∀ op n : Int, 0 ≤ at_ → at_ < (l.length : Int) / 4 → (op = be32 l (4 * at_) / 16777216) → (n = be32 l (4 * at_) % 16777216) → ¬ ((op = 1 ∨ op = 2) ∧ 255 < n ∨ op = 4 ∧ 65535 < n ∨ ¬ (1 ≤ op ∧ op ≤ 4)) → Ev (fun k => turnpikeref14_Decode.j2 k l at_ op n) (dec l at_) := by
    intro op n h0 h1 ho hnn hok
    have hd : dec l at_ = (if isnum op n = false then (0, 0, [], 0, 1) else if op ≠ 2 then (op, n, [], 1, 0) else if (l.length : Int) / 4 - at_ - 1 < mapw n then (0, 0, [], 0, 30) else
        if ismap (mapat l at_ (mapw n).toNat) n = true then (op, n, mapat l at_ (mapw n).toNat, 1 + mapw n, 0) else (0, 0, [], 0, 25)) := by
      unfold dec
      simp only [← ho, ← hnn]
      rw [if_neg (by omega), if_neg hok]
    rw [hd]
    have hr := be32_range h (4 * at_)
    have hj3 : ∀ b, b = !isnum op n → Ev (fun k => turnpikeref14_Decode.j3 k l at_ b op n) (if isnum op n = false then (0, 0, [], 0, 1) else if op ≠ 2 then (op, n, [], 1, 0) else if (l.length : Int) / 4 - at_ - 1 < mapw n then (0, 0, [], 0, 30) else
        if ismap (mapat l at_ (mapw n).toNat) n = true then (op, n, mapat l at_ (mapw n).toNat, 1 + mapw n, 0) else (0, 0, [], 0, 25)) := by
      rintro b rfl
      refine Ev.succ ?_; simp only [turnpikeref14_Decode.j3]
      cases e1 : isnum op n with
      | false => simp only [Bool.not_false, if_true]; exact Ev.now _
      | true =>
        simp only [Bool.not_true, Bool.false_eq_true, Bool.true_eq_false, if_false]
        by_cases e2 : op = 2
        · subst e2
          have hr : 1 ≤ n ∧ n ≤ 24 := by simpa [isnum] using e1
          have hw := mapw_range hr.1 hr.2
          have e3 : wrap64 (wrap64 (wrap64 ((l.length : Int) / 4) - at_) - 1) = (l.length : Int) / 4 - at_ - 1 := by
            rw [wrap64_id (n := (l.length : Int) / 4) (by omega) (by omega), wrap64_id (n := (l.length : Int) / 4 - at_) (by omega) (by omega), wrap64_id (by omega) (by omega)]
          simp only [if_true, ne_eq, not_true_eq_false, if_false, rmapped_eq hr.1 hr.2, Option.bind_some, e3]
          clear e3
          by_cases e4 : (l.length : Int) / 4 - at_ - 1 < mapw n
          · simp only [e4, if_true]; exact Ev.now _
          · simp only [e4, if_false]
            obtain ⟨m, hm⟩ : ∃ m : Nat, mapw n = (m : Int) := ⟨(mapw n).toNat, by omega⟩
            rw [hm]
            simp only [Int.toNat_natCast]
            exact rdec_loop h hn h0 (by omega) (by omega) 2 n hr.1 hr.2 m 0 (by omega)
        · simp only [e2, if_false, ne_eq, not_false_eq_true, if_true]; exact Ev.now _
    refine Ev.succ ?_; simp only [turnpikeref14_Decode.j2]
    have hs : ∀ b, b = !isnum op n → Ev (fun k => turnpikeref14_Decode.j3 k l at_ b op n) (if isnum op n = false then (0, 0, [], 0, 1) else if op ≠ 2 then (op, n, [], 1, 0) else if (l.length : Int) / 4 - at_ - 1 < mapw n then (0, 0, [], 0, 30) else
        if ismap (mapat l at_ (mapw n).toNat) n = true then (op, n, mapat l at_ (mapw n).toNat, 1 + mapw n, 0) else (0, 0, [], 0, 25)) := hj3
    by_cases o1 : op ≤ 2
    · by_cases o2 : n < 1
      · simp only [o1, o2, if_true]; exact hs true (by simp [isnum, show op = 1 ∨ op = 2 by omega]; omega)
      · by_cases o3 : n > 24
        · simp only [o1, o2, o3, if_true, if_false]; exact hs true (by simp [isnum, show op = 1 ∨ op = 2 by omega]; omega)
        · simp only [o1, o2, o3, if_true, if_false, show ¬ op = 3 by omega]; exact hs false (by simp [isnum, show op = 1 ∨ op = 2 by omega]; omega)
    · by_cases o3 : op = 3
      · subst o3
        simp only [if_false, if_true, show ¬ (3 : Int) ≤ 2 by omega]
        refine hs _ ?_
        have hb : n ≤ 16777215 := by omega
        by_cases e : n < 1
        · simp [isnum, e]; try omega
        · simp [isnum, e]; try omega
      · obtain rfl : op = 4 := by omega
        simp only [if_false, show ¬ (4 : Int) ≤ 2 by omega, show ¬ (4 : Int) = 3 by omega]
        exact hs false (by simp [isnum]; omega)
  unfold turnpikeref14_Decode.f
  by_cases h0 : at_ < 0
  · simp only [h0, if_true, hj0 (.inl h0)]
    refine Ev.succ ?_; simp only [turnpikeref14_Decode.j0, if_true]; exact Ev.now _
  · simp only [h0, if_false]
    by_cases h1 : at_ ≥ (l.length : Int)
    · simp only [h1, decide_true, hj0 (.inr (by omega))]
      refine Ev.succ ?_; simp only [turnpikeref14_Decode.j0, if_true]; exact Ev.now _
    · simp only [h1, decide_false]
      refine Ev.succ ?_; simp only [turnpikeref14_Decode.j0, Bool.false_eq_true, if_false]
      rw [wrap64_id (n := 4 * at_) (by omega) (by omega)]
      by_cases h2 : (l.length : Int) / 4 ≤ at_
      · refine Ev.bind (rget_out hn (a := 4 * at_) (n := 4) (by omega) (by omega)) ?_
        simp only [Bool.false_eq_true, if_false, hj0 (.inr h2)]; exact Ev.now _
      · have hr := be32_range h (4 * at_)
        refine Ev.bind (rget32_in h hn (a := 4 * at_) (by omega) (by omega)) ?_
        have e2 : wrap64 (be32 l (4 * at_) / 16777216) = be32 l (4 * at_) / 16777216 := wrap64_id (by omega) (by omega)
        have e3 : wrap64 (be32 l (4 * at_) % 16777216) = be32 l (4 * at_) % 16777216 := wrap64_id (by omega) (by omega)
        simp only [if_true, and_u32_24 hr.1 hr.2, e2, e3]
        clear e2 e3
        obtain ⟨op, ho⟩ : ∃ op, op = be32 l (4 * at_) / 16777216 := ⟨_, rfl⟩
        obtain ⟨n, hnn⟩ : ∃ n, n = be32 l (4 * at_) % 16777216 := ⟨_, rfl⟩
        have hbad : ((op = 1 ∨ op = 2) ∧ 255 < n ∨ op = 4 ∧ 65535 < n ∨ ¬ (1 ≤ op ∧ op ≤ 4)) → dec l at_ = (0, 0, [], 0, 24) := by
          intro hb; unfold dec; simp only [← ho, ← hnn]; rw [if_neg (by omega), if_pos hb]
        rw [← ho, ← hnn]
        have hj1 : ∀ b, b = decide (op = 1 ∨ op = 2) → Ev (fun k => turnpikeref14_Decode.j1 k l at_ op b op n) (dec l at_) := by
          rintro b rfl
          refine Ev.succ ?_; simp only [turnpikeref14_Decode.j1, decide_eq_true_eq]
          by_cases o1 : op = 1 ∨ op = 2
          · simp only [o1, if_true]
            by_cases e : n > 255
            · simp only [e, if_true, hbad (.inl ⟨o1, e⟩)]; exact Ev.now _
            · simp only [e, if_false]; exact hj2 op n (by omega) (by omega) ho hnn (by omega)
          · simp only [o1, if_false]
            by_cases o3 : op = 3
            · simp only [o3, if_true]; have := hj2 op n (by omega) (by omega) ho hnn (by omega); rw [o3] at this; exact this
            · by_cases o4 : op = 4
              · by_cases e : n > 65535
                · simp only [o4, e, if_true, hbad (.inr (.inl ⟨o4, e⟩)), show ¬ (4 : Int) = 3 by omega, if_false]; exact Ev.now _
                · simp only [o4, e, if_true, if_false, show ¬ (4 : Int) = 3 by omega]; have := hj2 op n (by omega) (by omega) ho hnn (by omega); rw [o4] at this; exact this
              · simp only [o3, o4, if_false, hbad (.inr (.inr (by omega)))]; exact Ev.now _
        by_cases o1 : op = 1
        · simp only [o1, if_true]; rw [← o1]; exact hj1 _ (by simp [o1])
        · simp only [o1, if_false]; exact hj1 _ (by simp [o1]; rfl)

end Go.Proofs.Ytpghpeoclbiloaa.Pure
