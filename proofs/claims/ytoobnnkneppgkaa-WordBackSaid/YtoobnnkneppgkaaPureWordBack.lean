/- WordBack, the pure statement: for all words, stretches and numbers. No condition beside the kinds' own. -/
import Derived.Test.YtoobnnkneppgkaaLTextAll
import Derived.Test.YtoobnnkneppgkaaFx3
import Derived.Test.YtoobnnkneppgkaaFx14
import Derived.Test.YtoobnnkneppgkaaFx28
set_option linter.unusedVariables false
set_option linter.unusedSimpArgs false
namespace Go.Proofs.Ytoobnnkneppgkaa.Pure
open Go.RowKit Go.Proofs.Ytoobnnkneppgkaa.F Go.Proofs.YtoobnnkneppgkaaW.PrintWords Go.Proofs.YtoobnnkneppgkaaW.PrintLast Go.Proofs.YtoobnnkneppgkaaW.PrintMore

theorem within_hasB {a n : Int} (hn : 0 < n) (hn2 : n ≤ 4611686018427387904) : ∃ r : Nat, turnpikelaw1_within.f a n = some (r : Int) ∧ (r : Int) < n := by
  have h1 := Int.tmod_lt_of_pos a hn
  have h2 := Int.lt_tmod_of_pos a hn
  unfold turnpikelaw1_within.f
  rw [if_neg (by omega)]
  by_cases e : Int.tmod a n < 0
  · rw [if_pos e, wrap64_id (by omega) (by omega)]; exact ⟨(Int.tmod a n + n).toNat, by rw [Int.toNat_of_nonneg (by omega)], by omega⟩
  · rw [if_neg e]; exact ⟨(Int.tmod a n).toNat, by rw [Int.toNat_of_nonneg (by omega)], by omega⟩
theorem and_lowB {V n : Nat} (hV : V < 2 ^ 128) : V &&& (2 ^ 128 - 1 - (2 ^ 128 - 2 ^ (128 - n))) = V % 2 ^ (128 - n) := by
  have h1 : 2 ^ (128 - n) ≤ 2 ^ 128 := Nat.pow_le_pow_right (by decide) (by omega)
  have h2 := Nat.two_pow_pos (128 - n)
  rw [show 2 ^ 128 - 1 - (2 ^ 128 - 2 ^ (128 - n)) = 2 ^ (128 - n) - 1 by omega, Nat.and_two_pow_sub_one_eq_mod]
theorem high_bit {V j : Nat} (hV : V < 2 ^ 128) (hj : 128 ≤ j) : V.testBit j = false := Nat.testBit_lt_two_pow (Nat.lt_of_lt_of_le hV (Nat.pow_le_pow_right (by decide) hj))
theorem zero_pr : pr 0 = (0, 0) := by decide +kernel
theorem ones_prB : word_ones.f = some (pr (2 ^ 128 - 1)) := by decide +kernel
/-- What With lays in. -/
theorem with_valB {W V fr m bk : Nat} (hW : W < 2 ^ 128) (hVm : V < 2 ^ m) (hb : fr + m + bk = 128) :
    ∃ T, T < 2 ^ 128 ∧ word_With.f (pr W).1 (pr W).2 (fr : Int) (m : Int) (pr V).1 (pr V).2 = some ((pr T).1, (pr T).2, 0) ∧ ∀ j, T.testBit j = if bk ≤ j ∧ j < bk + m then V.testBit (j - bk) else W.testBit j := by
  have hV : V < 2 ^ 128 := Nat.lt_of_lt_of_le hVm (Nat.pow_le_pow_right (by decide) (by omega))
  have z : V / 2 ^ m = 0 := Nat.div_eq_of_lt hVm
  have hM : (2 ^ 128 - 1) / 2 ^ (128 - m) = 2 ^ m - 1 := by
    have : ∀ m : Fin 129, (2 ^ 128 - 1) / 2 ^ (128 - m.val) = 2 ^ m.val - 1 := by decide +kernel
    exact this ⟨m, by omega⟩
  have hH : (2 ^ m - 1) * 2 ^ bk < 2 ^ 128 := by
    have h1 : (2 ^ m - 1) * 2 ^ bk < 2 ^ m * 2 ^ bk := Nat.mul_lt_mul_of_pos_right (by have := Nat.two_pow_pos m; omega) (Nat.two_pow_pos bk)
    rw [← Nat.pow_add] at h1
    exact Nat.lt_of_lt_of_le h1 (Nat.pow_le_pow_right (by decide) (by omega))
  have hO : 2 ^ 128 - 1 < 2 ^ 128 := by decide
  have hm1 : 2 ^ m - 1 < 2 ^ 128 := by have := Nat.pow_le_pow_right (n := 2) (by decide) (show m ≤ 128 by omega); have := Nat.two_pow_pos m; omega
  have s1 : word_Shr.f (pr (2 ^ 128 - 1)).1 (pr (2 ^ 128 - 1)).2 (128 - (m : Int)) = some (pr (2 ^ m - 1)) := by
    rw [show (128 : Int) - (m : Int) = ((128 - m : Nat) : Int) by omega, shr_val hO, hM]
  have ebk : (128 : Int) - (fr : Int) - (m : Int) = (bk : Int) := by omega
  have s2 : word_Shl.f (pr (2 ^ m - 1)).1 (pr (2 ^ m - 1)).2 (128 - (fr : Int) - (m : Int)) = some (pr ((2 ^ m - 1) * 2 ^ bk)) := by
    rw [ebk, shl_val hm1, Nat.mod_eq_of_lt hH]
  have s3 : word_Shl.f (pr V).1 (pr V).2 (128 - (fr : Int) - (m : Int)) = some (pr (V * 2 ^ bk % 2 ^ 128)) := by rw [ebk, shl_val hV]
  have hN : 2 ^ 128 - 1 - (2 ^ m - 1) * 2 ^ bk < 2 ^ 128 := by omega
  have hA : W &&& (2 ^ 128 - 1 - (2 ^ m - 1) * 2 ^ bk) < 2 ^ 128 := Nat.lt_of_le_of_lt Nat.and_le_left hW
  have hS : V * 2 ^ bk % 2 ^ 128 < 2 ^ 128 := Nat.mod_lt _ (by decide)
  refine ⟨(W &&& (2 ^ 128 - 1 - (2 ^ m - 1) * 2 ^ bk)) ||| (V * 2 ^ bk % 2 ^ 128), Nat.or_lt_two_pow hA hS, ?_, ?_⟩
  · unfold word_With.f
    rw [if_pos (by omega), shr_val hV, z, zero_pr, Option.bind_some, if_pos (by decide)]
    simp only [ones_prB, Option.bind_some, s1, s2, not_val hH, and_val hW hN, s3, or_val hA hS]
  · intro j
    rw [Nat.testBit_or, Nat.testBit_and, show 2 ^ 128 - 1 - (2 ^ m - 1) * 2 ^ bk = 2 ^ 128 - ((2 ^ m - 1) * 2 ^ bk + 1) by omega, Nat.testBit_two_pow_sub_succ hH, Nat.testBit_mul_two_pow, Nat.testBit_two_pow_sub_one, Nat.testBit_mod_two_pow, Nat.testBit_mul_two_pow]
    by_cases c1 : j < 128
    · by_cases c2 : bk ≤ j
      · by_cases c3 : j < bk + m
        · have : j - bk < m := by omega
          simp [c1, c2, c3, this]
        · have h3 : ¬ (j - bk < m) := by omega
          have : V.testBit (j - bk) = false := Nat.testBit_lt_two_pow (Nat.lt_of_lt_of_le hVm (Nat.pow_le_pow_right (by decide) (by omega)))
          simp [c1, c2, c3, h3, this]
      · simp [c1, c2]
    · have h3 : ¬ (j < bk + m) := by omega
      have := high_bit hW (j := j) (by omega)
      simp [c1, h3, this]
/-- What Field reads. -/
theorem field_valB {T V fr m bk : Nat} (hT : T < 2 ^ 128) (hVm : V < 2 ^ m) (hb : fr + m + bk = 128) (h : ∀ j, j < m → T.testBit (j + bk) = V.testBit j) :
    word_Field.f (pr T).1 (pr T).2 (fr : Int) (m : Int) = some ((pr V).1, (pr V).2, 0) := by
  unfold word_Field.f
  have hs : T * 2 ^ fr % 2 ^ 128 < 2 ^ 128 := Nat.mod_lt _ (by decide)
  have e : T * 2 ^ fr % 2 ^ 128 / 2 ^ (128 - m) = V := by
    apply Nat.eq_of_testBit_eq
    intro j
    rw [Nat.testBit_div_two_pow, Nat.testBit_mod_two_pow, Nat.testBit_mul_two_pow]
    by_cases c : j < m
    · have e1 : j + (128 - m) - fr = j + bk := by omega
      have c1 : j + (128 - m) < 128 := by omega
      have c2 : fr ≤ j + (128 - m) := by omega
      simp only [c1, c2, decide_true, Bool.true_and, e1, h j c]
    · have c1 : ¬ j + (128 - m) < 128 := by omega
      have : V.testBit j = false := Nat.testBit_lt_two_pow (Nat.lt_of_lt_of_le hVm (Nat.pow_le_pow_right (by decide) (by omega)))
      simp only [c1, decide_false, Bool.false_and, this]
  rw [if_pos (by omega), shl_val hT, Option.bind_some, show (128 : Int) - (m : Int) = ((128 - m : Nat) : Int) by omega, shr_val hs, Option.bind_some, e]
theorem bytes_size (l : List Int) : (strOfNums l).size = l.length := by unfold strOfNums; simp [ByteArray.size]
theorem bt_text (W : Nat) {i : Nat} (hi : i < 32) : bt (strOfNums ((List.range 32).map (hx W))) (i : Int) = hx W i := by
  have hl : (strOfNums ((List.range 32).map (hx W))).size = 32 := by rw [bytes_size]; simp
  have hb := hx_byte W i
  unfold bt
  simp only [Int.toNat_natCast]
  rw [dif_pos (by omega)]
  have : (strOfNums ((List.range 32).map (hx W)))[i]'(by omega) = UInt8.ofNat (hx W i).toNat := by
    unfold strOfNums
    show (((List.range 32).map (hx W)).map fun n => UInt8.ofNat n.toNat).toArray[i]'(by simpa using hi) = _
    simp
  rw [this]
  simp only [UInt8.toNat_ofNat']
  omega
theorem pv_text {W : Nat} (hW : W < 2 ^ 128) : ∀ (d i : Nat), i + d = 32 → pv (strOfNums ((List.range 32).map (hx W))) d i (W / 2 ^ (128 - 4 * i)) = ((pr W).1, (pr W).2, 0) := by
  intro d
  induction d with
  | zero =>
    intro i hi
    obtain rfl : i = 32 := by omega
    simp [pv]
  | succ d ih =>
    intro i hi
    have hd : dv (bt (strOfNums ((List.range 32).map (hx W))) (i : Int)) = some (nb W i) := by
      rw [bt_text W (by omega)]; exact (dig_all ⟨nb W i, nb_lt W i⟩).2
    have hlt : W / 2 ^ (128 - 4 * i) * 2 ^ 4 < 2 ^ 128 := by
      have e : W / 2 ^ (128 - 4 * i) = W / 2 ^ (124 - 4 * i) / 16 := by
        rw [Nat.div_div_eq_div_mul, show (16 : Nat) = 2 ^ 4 from rfl, ← Nat.pow_add]; congr 2; omega
      have := Nat.div_le_self W (2 ^ (124 - 4 * i))
      rw [e]; omega
    have hstep : (W / 2 ^ (128 - 4 * i) * 2 ^ 4 % 2 ^ 128) ||| nb W i = W / 2 ^ (128 - 4 * (i + 1)) := by
      rw [Nat.mod_eq_of_lt hlt, nat_or_add 4 _ _ (Nat.mul_mod_left _ _) (nb_lt W i)]
      have e : W / 2 ^ (128 - 4 * i) = W / 2 ^ (124 - 4 * i) / 16 := by
        rw [Nat.div_div_eq_div_mul, show (16 : Nat) = 2 ^ 4 from rfl, ← Nat.pow_add]; congr 2; omega
      rw [e, show 128 - 4 * (i + 1) = 124 - 4 * i by omega]
      unfold nb
      omega
    simp only [pv, hd, hstep]
    exact ih (i + 1) (by omega)
theorem wparse_text {W : Nat} (hW : W < 2 ^ 128) : Ev (fun k => word_Parse.f k (strOfNums ((List.range 32).map (hx W)))) ((pr W).1, (pr W).2, 0) := by
  have hs : (strOfNums ((List.range 32).map (hx W))).size = 32 := by rw [bytes_size]; simp
  have h := wparse hs 32 0 0 (by omega) (by decide)
  have hp := pv_text hW 32 0 (by omega)
  rw [show W / 2 ^ (128 - 4 * 0) = 0 from Nat.div_eq_of_lt hW] at hp
  rw [hp] at h
  unfold word_Parse.f
  have c : ((strOfNums ((List.range 32).map (hx W))).size : Int) = 32 := by rw [hs]; rfl
  simp only [c, if_true]
  exact h
theorem back_loop {W T fr m : Nat} (hW : W < 2 ^ 128) (hT : T < 2 ^ 128) (hfm : fr + m ≤ 128) (h : ∀ j, (j < fr ∨ fr + m ≤ j) → j < 128 → T.testBit (127 - j) = W.testBit (127 - j)) :
    ∀ (d i : Nat), i + d = 128 → Ev (fun k => turnpikelaw1_WordBack.l0 k (fr : Int) (m : Int) (i : Int) (pr W).1 (pr W).2 (pr T).1 (pr T).2) true := by
  intro d
  induction d with
  | zero =>
    intro i hi
    refine Ev.succ ?_
    simp only [turnpikelaw1_WordBack.l0, show ¬ (i : Int) < 128 by omega, if_false, wtext hW, Option.bind_some]
    refine Ev.bind (wparse_text hW) ?_
    simp only [beq_self_eq_true, Bool.and_self, if_true, bytes_size, List.length_map, List.length_range]
    exact Ev.now _
  | succ d ih =>
    intro i hi
    have e1 : wrap64 ((i : Int) + 1) = ((i + 1 : Nat) : Int) := by rw [wrap64_id (by omega) (by omega)]; omega
    have e2 : wrap64 ((fr : Int) + (m : Int)) = ((fr + m : Nat) : Int) := by rw [wrap64_id (by omega) (by omega)]; omega
    refine Ev.succ ?_
    simp only [turnpikelaw1_WordBack.l0, show (i : Int) < 128 by omega, if_true, e1, e2]
    have same : (i < fr ∨ fr + m ≤ i) → bitv T i = bitv W i := fun hi2 => (bitv_eq T W i).mpr (h i hi2 (by omega))
    by_cases c1 : (i : Int) < (fr : Int)
    · simp only [c1, if_true]
      refine Ev.bind (bit_ev hT (by omega)) ?_
      refine Ev.bind (bit_ev hW (by omega)) ?_
      simp only [same (by omega), if_true]
      exact ih (i + 1) (by omega)
    · simp only [c1, if_false]
      by_cases c2 : (i : Int) ≥ ((fr + m : Nat) : Int)
      · simp only [c2, if_true]
        refine Ev.bind (bit_ev hT (by omega)) ?_
        refine Ev.bind (bit_ev hW (by omega)) ?_
        simp only [same (by omega), if_true]
        exact ih (i + 1) (by omega)
      · simp only [c2, if_false]
        exact ih (i + 1) (by omega)
theorem WordBack : turnpikelaw1_WordBack.Pure := by
  intro a b f n c d ha hb hf hn hc hd
  obtain ⟨W, hW, rfl, rfl⟩ := pr_of (wf_u64 ha) (wf_u64 hb)
  obtain ⟨V0, hV0, rfl, rfl⟩ := pr_of (wf_u64 hc) (wf_u64 hd)
  obtain ⟨fr, hfr, hfr2⟩ := within_hasB (a := f) (n := 129) (by omega) (by omega)
  have w1 : wrap64 (129 - (fr : Int)) = 129 - (fr : Int) := wrap64_id (by omega) (by omega)
  obtain ⟨m, hm, hm2⟩ := within_hasB (a := n) (n := 129 - (fr : Int)) (by omega) (by omega)
  have w2 : wrap64 (128 - (m : Int)) = ((128 - m : Nat) : Int) := by rw [wrap64_id (by omega) (by omega)]; omega
  obtain ⟨bk, hbk⟩ : ∃ bk, fr + m + bk = 128 := ⟨128 - fr - m, by omega⟩
  have hMk : 2 ^ 128 - 2 ^ (128 - (128 - m)) < 2 ^ 128 := by have := Nat.two_pow_pos (128 - (128 - m)); omega
  have hNk : 2 ^ 128 - 1 - (2 ^ 128 - 2 ^ (128 - (128 - m))) < 2 ^ 128 := by omega
  have hVm : V0 % 2 ^ m < 2 ^ m := Nat.mod_lt _ (Nat.two_pow_pos m)
  have hand : word_And.f (pr V0).1 (pr V0).2 (pr (2 ^ 128 - 1 - (2 ^ 128 - 2 ^ (128 - (128 - m))))).1 (pr (2 ^ 128 - 1 - (2 ^ 128 - 2 ^ (128 - (128 - m))))).2 = some (pr (V0 % 2 ^ m)) := by
    rw [and_val hV0 hNk, and_lowB hV0, show 128 - (128 - m) = m by omega]
  generalize hVd : V0 % 2 ^ m = V at hVm hand
  obtain ⟨T, hT, hw, hTb⟩ := with_valB hW hVm hbk
  have hfld := field_valB hT hVm hbk (fun j hj => by rw [hTb, if_pos (by omega), Nat.add_sub_cancel])
  refine Ev.rounds (r := true) ?_
  unfold turnpikelaw1_WordBack.f
  simp only [known_true, Option.bind_some, if_true, hfr, w1, hm, w2, mask_val (show 128 - m ≤ 128 by omega), not_val hMk, hand, hw, hfld]
  refine Ev.succ ?_
  simp only [turnpikelaw1_WordBack.j0, beq_self_eq_true, Bool.not_true, Bool.or_self, Bool.false_eq_true, if_false]
  refine back_loop hW hT (by omega) (fun j hj hj2 => ?_) 128 0 (by omega)
  rw [hTb, if_neg (by omega)]
end Go.Proofs.Ytoobnnkneppgkaa.Pure
