/- WordFields, the pure statement: for all words, stretches, numbers. No condition beside the kinds' own. -/
import Derived.Test.YtoobnnkneppgkaaLBitVal
import Derived.Test.YtoobnnkneppgkaaFx3
import Derived.Test.YtoobnnkneppgkaaFx14
import Derived.Test.YtoobnnkneppgkaaFx17
import Derived.Test.YtoobnnkneppgkaaFx18
set_option linter.unusedVariables false
set_option linter.unusedSimpArgs false
namespace Go.Proofs.Ytoobnnkneppgkaa.Pure
open Go.RowKit Go.Proofs.Ytoobnnkneppgkaa.F Go.Proofs.YtoobnnkneppgkaaW.PrintWords Go.Proofs.YtoobnnkneppgkaaW.PrintLast Go.Proofs.YtoobnnkneppgkaaW.PrintMore

theorem fits_eq (a b : Int) (ha : -9223372036854775808 ≤ a ∧ a ≤ 9223372036854775807) : turnpikeref1_fits.f a b = some (decide (0 ≤ a ∧ a ≤ 128 ∧ 0 ≤ b ∧ b ≤ 128 - a)) := by
  unfold turnpikeref1_fits.f
  by_cases c1 : a ≥ 0
  · by_cases c2 : a ≤ 128
    · by_cases c3 : b ≥ 0
      · rw [if_pos c1, if_pos c2, if_pos c3, wrap64_id (by omega) (by omega)]
        congr 1; rw [decide_eq_decide]; omega
      · rw [if_pos c1, if_pos c2, if_neg c3, decide_eq_false (by omega)]
    · rw [if_pos c1, if_neg c2, decide_eq_false (by omega)]
  · rw [if_neg c1, decide_eq_false (by omega)]
theorem field_same (a b : Int) {i n : Int} (hi : -9223372036854775808 ≤ i ∧ i ≤ 9223372036854775807) (hn : -9223372036854775808 ≤ n ∧ n ≤ 9223372036854775807) : ∃ r, word_Field.f a b i n = some r ∧ turnpikeref1_Field.f a b i n = some r := by
  unfold word_Field.f turnpikeref1_Field.f
  rw [fits_eq i n hi]
  by_cases c : 0 ≤ i ∧ i ≤ 128 ∧ 0 ≤ n ∧ n ≤ 128 - i
  · obtain ⟨r, e1, e2⟩ := shl_same a b (n := i) hi.1 hi.2
    obtain ⟨s, e3, e4⟩ := shr_same r.1 r.2 (n := 128 - n) (by omega) (by omega)
    have e5 : wrap64 (128 - n) = 128 - n := wrap64_id (by omega) (by omega)
    refine ⟨(s.1, s.2, 0), ?_, ?_⟩
    · rw [if_pos c, e1, Option.bind_some, e3, Option.bind_some]
    · rw [Option.bind_some, if_pos (decide_eq_true c), e2, Option.bind_some, e5, e4, Option.bind_some]
  · refine ⟨(0, 0, 1), ?_, ?_⟩
    · rw [if_neg c]
    · rw [Option.bind_some, if_neg (by simpa using c)]
theorem testBit_high {V j : Nat} (hV : V < 2 ^ 128) (hj : 128 ≤ j) : V.testBit j = false := Nat.testBit_lt_two_pow (Nat.lt_of_lt_of_le hV (Nat.pow_le_pow_right (by decide) hj))
theorem lt_of_high {V : Nat} (h : ∀ j, 128 ≤ j → V.testBit j = false) : V < 2 ^ 128 := Nat.lt_pow_two_of_testBit V h
/-- Put: the bit at place i is b, all else as before. -/
theorem put_val {V i : Nat} (b : Bool) (hV : V < 2 ^ 128) (hi : i < 128) : ∃ U, U < 2 ^ 128 ∧ turnpikeref1_Put.f (pr V).1 (pr V).2 (i : Int) (if b then 1 else 0) = some (pr U) ∧ ∀ j, U.testBit j = if j = 127 - i then b else V.testBit j := by
  have hp := pr_lt V hV
  have main : ∀ (x s : Nat), x < 18446744073709551616 → s < 64 → Go.bits .or .u64 (Go.bits .andNot .u64 (x : Int) (shl .u64 1 (s : Int))) (shl .u64 (IntKind.u64.wrap (if b then 1 else 0)) (s : Int)) = (((x &&& (18446744073709551615 - 2 ^ s)) ||| (if b then 2 ^ s else 0) : Nat) : Int) := by
    intro x s hx hs
    have h2s : 2 ^ s < 2 ^ 64 := Nat.pow_lt_pow_right (by decide) hs
    have e1 : shl .u64 1 (s : Int) = ((2 ^ s : Nat) : Int) := by
      rw [show (1 : Int) = ((1 : Nat) : Int) from rfl, shl_u64 _ _ (by omega), Nat.one_mul, Nat.mod_eq_of_lt h2s]
    rw [e1, u64_andNot_nat _ _ hx h2s]
    have hle : x &&& (18446744073709551615 - 2 ^ s) < 18446744073709551616 := Nat.lt_of_le_of_lt Nat.and_le_left hx
    cases b
    · have e2 : shl .u64 (IntKind.u64.wrap (if false = true then 1 else 0)) (s : Int) = ((0 : Nat) : Int) := by
        rw [if_neg (by decide), wrapu_eq, show (0 : Int) % 18446744073709551616 = ((0 : Nat) : Int) from rfl, shl_u64 _ _ (by omega), Nat.zero_mul]
      rw [e2, u64_or_nat _ _ hle (by decide)]; rfl
    · have e2 : shl .u64 (IntKind.u64.wrap (if true = true then 1 else 0)) (s : Int) = ((2 ^ s : Nat) : Int) := by
        rw [if_pos rfl, wrapu_eq, show (1 : Int) % 18446744073709551616 = 1 from rfl, e1]
      rw [e2, u64_or_nat _ _ hle h2s]; rfl
  have bits : ∀ (x s : Nat), x < 2 ^ 64 → s < 64 → ∀ j, ((x &&& (18446744073709551615 - 2 ^ s)) ||| (if b then 2 ^ s else 0)).testBit j = if j = s then b else x.testBit j := by
    intro x s hx hs j
    have h2s : 2 ^ s < 2 ^ 64 := Nat.pow_lt_pow_right (by decide) hs
    rw [Nat.testBit_or, Nat.testBit_and, show 18446744073709551615 - 2 ^ s = 2 ^ 64 - (2 ^ s + 1) by omega, Nat.testBit_two_pow_sub_succ h2s, Nat.testBit_two_pow]
    have hif : (if b = true then 2 ^ s else 0).testBit j = (b && decide (s = j)) := by
      cases b
      · simp
      · simp [Nat.testBit_two_pow]
    rw [hif]
    by_cases c : j = s
    · subst c; simp
    · have c' : ¬ s = j := fun e => c e.symm
      by_cases c2 : j < 64
      · simp [c, c', c2]
      · have : x.testBit j = false := Nat.testBit_lt_two_pow (Nat.lt_of_lt_of_le hx (Nat.pow_le_pow_right (by decide) (by omega)))
        simp [c, c', this]
  unfold turnpikeref1_Put.f
  by_cases c : (i : Int) < 64
  · have e1 : wrap64 (63 - (i : Int)) = ((63 - i : Nat) : Int) := by rw [wrap64_id (by omega) (by omega)]; omega
    rw [if_pos c, e1, if_pos (by omega)]
    have hb := bits (V / 2 ^ 64) (63 - i) hp.1 (by omega)
    generalize hX : ((V / 2 ^ 64 &&& (18446744073709551615 - 2 ^ (63 - i))) ||| (if b then 2 ^ (63 - i) else 0)) = X at hb
    have hXlt : X < 2 ^ 64 := Nat.lt_pow_two_of_testBit X (fun j hj => by rw [hb, if_neg (by omega)]; exact Nat.testBit_lt_two_pow (Nat.lt_of_lt_of_le (show V / 2 ^ 64 < 2 ^ 64 from hp.1) (Nat.pow_le_pow_right (by decide) hj)))
    refine ⟨X * 2 ^ 64 + V % 2 ^ 64, by omega, ?_, ?_⟩
    · simp only [pr]
      rw [main _ _ hp.1 (by omega), hX, show (X * 2 ^ 64 + V % 2 ^ 64) / 2 ^ 64 = X by omega, show (X * 2 ^ 64 + V % 2 ^ 64) % 2 ^ 64 = V % 2 ^ 64 by omega]
    · intro j
      rw [Nat.mul_comm, Nat.testBit_two_pow_mul_add _ hp.2]
      by_cases cj : j < 64
      · rw [if_pos cj, if_neg (by omega), Nat.testBit_mod_two_pow]; simp [cj]
      · rw [if_neg cj, hb, Nat.testBit_div_two_pow]
        by_cases c3 : j = 127 - i
        · rw [if_pos c3, if_pos (by omega)]
        · rw [if_neg c3, if_neg (by omega), show j - 64 + 64 = j by omega]
  · have e1 : wrap64 (127 - (i : Int)) = ((127 - i : Nat) : Int) := by rw [wrap64_id (by omega) (by omega)]; omega
    rw [if_neg c, e1, if_pos (by omega)]
    have hb := bits (V % 2 ^ 64) (127 - i) hp.2 (by omega)
    generalize hX : ((V % 2 ^ 64 &&& (18446744073709551615 - 2 ^ (127 - i))) ||| (if b then 2 ^ (127 - i) else 0)) = X at hb
    have hXlt : X < 2 ^ 64 := Nat.lt_pow_two_of_testBit X (fun j hj => by rw [hb, if_neg (by omega)]; exact Nat.testBit_lt_two_pow (Nat.lt_of_lt_of_le (show V % 2 ^ 64 < 2 ^ 64 from hp.2) (Nat.pow_le_pow_right (by decide) hj)))
    refine ⟨V / 2 ^ 64 * 2 ^ 64 + X, by omega, ?_, ?_⟩
    · simp only [pr]
      rw [main _ _ hp.2 (by omega), hX, show (V / 2 ^ 64 * 2 ^ 64 + X) / 2 ^ 64 = V / 2 ^ 64 by omega, show (V / 2 ^ 64 * 2 ^ 64 + X) % 2 ^ 64 = X by omega]
    · intro j
      rw [Nat.mul_comm, Nat.testBit_two_pow_mul_add _ hXlt]
      by_cases cj : j < 64
      · rw [if_pos cj, hb, Nat.testBit_mod_two_pow]; simp [cj]
      · rw [if_neg cj, if_neg (by omega), Nat.testBit_div_two_pow, show j - 64 + 64 = j by omega]
theorem with_loop {V W T n fr bk : Nat} (hV : V < 2 ^ 128) (hT : T < 2 ^ 128) (hb : fr + n + bk = 128) (hTb : ∀ j, T.testBit j = if bk ≤ j ∧ j < bk + n then V.testBit (j - bk) else W.testBit j) :
    ∀ (d i U : Nat), i + d = n → U < 2 ^ 128 → (∀ j, U.testBit j = if bk + (n - i) ≤ j ∧ j < bk + n then V.testBit (j - bk) else W.testBit j) → Ev (fun k => turnpikeref1_With.l0 k (fr : Int) (n : Int) (i : Int) (pr U).1 (pr U).2 (pr V).1 (pr V).2) ((pr T).1, (pr T).2, 0) := by
  intro d
  induction d with
  | zero =>
    intro i U hi hU hUb
    have : U = T := by
      apply Nat.eq_of_testBit_eq
      intro j
      rw [hUb, hTb, show n - i = 0 by omega, Nat.add_zero]
    subst this
    refine Ev.succ (Ev.of_eq (fun k => ?_))
    simp only [turnpikeref1_With.l0]
    rw [if_neg (by omega)]
  | succ d ih =>
    intro i U hi hU hUb
    refine Ev.succ ?_
    have hin : (i : Int) < (n : Int) := by omega
    have hlt1 : 128 - n + i < 128 := by omega
    have hlt2 : fr + i < 128 := by omega
    obtain ⟨e1, e2, e3⟩ : wrap64 (wrap64 (128 - (n : Int)) + (i : Int)) = ((128 - n + i : Nat) : Int) ∧ wrap64 ((fr : Int) + (i : Int)) = ((fr + i : Nat) : Int) ∧ wrap64 ((i : Int) + 1) = ((i + 1 : Nat) : Int) := by
      refine ⟨?_, ?_, ?_⟩
      · rw [wrap64_id (n := 128 - (n : Int)) (by omega) (by omega), wrap64_id (n := 128 - (n : Int) + (i : Int)) (by omega) (by omega)]; omega
      · rw [wrap64_id (n := (fr : Int) + (i : Int)) (by omega) (by omega)]; omega
      · rw [wrap64_id (n := (i : Int) + 1) (by omega) (by omega)]; omega
    simp only [turnpikeref1_With.l0, hin, if_true, e1, e2, e3]
    clear e1 e2 e3
    refine Ev.bind (rbit_ev hV hlt1) ?_
    obtain ⟨U', hU', hp, hb'⟩ := put_val (V := U) (i := fr + i) (V.testBit (127 - (128 - n + i))) hU hlt2
    have hp' : turnpikeref1_Put.f (pr U).1 (pr U).2 ((fr + i : Nat) : Int) (bitv V (128 - n + i)) = some (pr U') := hp
    simp only [hp', Option.bind_some]
    refine ih (i + 1) U' (by omega) hU' (fun j => ?_)
    rw [hb']
    by_cases c : j = 127 - (fr + i)
    · rw [if_pos c, if_pos (by omega)]; congr 1; omega
    · rw [if_neg c, hUb]
      by_cases c2 : bk + (n - i) ≤ j ∧ j < bk + n
      · rw [if_pos c2, if_pos (by omega)]
      · rw [if_neg c2, if_neg (by omega)]
theorem pr_zero {X : Nat} (hX : X < 2 ^ 128) : (((pr X).1 == 0 && ((pr X).2 == 0)) = true) ↔ X = 0 := by
  have a1 : (pr X).1 = ((X / 2 ^ 64 : Nat) : Int) := rfl
  have a2 : (pr X).2 = ((X % 2 ^ 64 : Nat) : Int) := rfl
  rw [Bool.and_eq_true, beq_iff_eq, beq_iff_eq]
  omega
theorem ones_pr : word_ones.f = some (pr (2 ^ 128 - 1)) := by decide +kernel
theorem with_same {W V : Nat} (hW : W < 2 ^ 128) (hV : V < 2 ^ 128) {i n : Int} (hi : -9223372036854775808 ≤ i ∧ i ≤ 9223372036854775807) (hn : -9223372036854775808 ≤ n ∧ n ≤ 9223372036854775807) :
    ∃ r, word_With.f (pr W).1 (pr W).2 i n (pr V).1 (pr V).2 = some r ∧ Ev (fun k => turnpikeref1_With.f k (pr W).1 (pr W).2 i n (pr V).1 (pr V).2) r := by
  unfold word_With.f turnpikeref1_With.f
  simp only [fits_eq i n hi, Option.bind_some]
  by_cases c : 0 ≤ i ∧ i ≤ 128 ∧ 0 ≤ n ∧ n ≤ 128 - i
  · rw [if_pos c]
    simp only [decide_eq_true c, if_true]
    obtain ⟨fr, rfl⟩ := Int.eq_ofNat_of_zero_le c.1
    obtain ⟨m, rfl⟩ := Int.eq_ofNat_of_zero_le c.2.2.1
    obtain ⟨bk, hb⟩ : ∃ bk, fr + m + bk = 128 := ⟨128 - fr - m, by omega⟩
    have hd : V / 2 ^ m < 2 ^ 128 := Nat.lt_of_le_of_lt (Nat.div_le_self _ _) hV
    obtain ⟨l, hl1, hl2, hl3⟩ := lead_ev hV
    have hl := hl3 m (by omega)
    have e1 : wrap64 (128 - (m : Int)) = 128 - (m : Int) := wrap64_id (by omega) (by omega)
    rw [shr_val hV, Option.bind_some]
    by_cases z : V / 2 ^ m = 0
    · have hVm : V < 2 ^ m := by
        refine Classical.byContradiction fun h => ?_
        have := Nat.div_pos (Nat.le_of_not_lt h) (Nat.two_pow_pos m)
        omega
      have hM : (2 ^ 128 - 1) / 2 ^ (128 - m) = 2 ^ m - 1 := by
        have : ∀ m : Fin 129, (2 ^ 128 - 1) / 2 ^ (128 - m.val) = 2 ^ m.val - 1 := by decide +kernel
        exact this ⟨m, by omega⟩
      have hH : (2 ^ m - 1) * 2 ^ bk < 2 ^ 128 := by
        have h1 : (2 ^ m - 1) * 2 ^ bk < 2 ^ m * 2 ^ bk := Nat.mul_lt_mul_of_pos_right (by have := Nat.two_pow_pos m; omega) (Nat.two_pow_pos bk)
        rw [← Nat.pow_add] at h1
        exact Nat.lt_of_lt_of_le h1 (Nat.pow_le_pow_right (by decide) (by omega))
      have hO : 2 ^ 128 - 1 < 2 ^ 128 := by decide
      have hm1 : 2 ^ m - 1 < 2 ^ 128 := by have := Nat.pow_le_pow_right (n := 2) (by decide) (show m ≤ 128 by omega); have := Nat.two_pow_pos m; omega
      have s1 : word_Shr.f (pr (2 ^ 128 - 1)).1 (pr (2 ^ 128 - 1)).2 (128 - (m : Int)) = some (pr (2 ^ m - 1)) := by
        rw [show (128 : Int) - (m : Int) = ((128 - m : Nat) : Int) by omega, shr_val hO, hM]
      have ebk : (128 : Int) - (fr : Int) - (m : Int) = (bk : Int) := by omega
      have s2 : word_Shl.f (pr (2 ^ m - 1)).1 (pr (2 ^ m - 1)).2 (128 - (fr : Int) - (m : Int)) = some (pr ((2 ^ m - 1) * 2 ^ bk)) := by
        rw [ebk, shl_val hm1, Nat.mod_eq_of_lt hH]
      have s3 : word_Shl.f (pr V).1 (pr V).2 (128 - (fr : Int) - (m : Int)) = some (pr (V * 2 ^ bk % 2 ^ 128)) := by rw [ebk, shl_val hV]
      have hN : 2 ^ 128 - 1 - (2 ^ m - 1) * 2 ^ bk < 2 ^ 128 := by omega
      have hA : W &&& (2 ^ 128 - 1 - (2 ^ m - 1) * 2 ^ bk) < 2 ^ 128 := Nat.lt_of_le_of_lt Nat.and_le_left hW
      have hS : V * 2 ^ bk % 2 ^ 128 < 2 ^ 128 := Nat.mod_lt _ (by decide)
      have hz : ((pr (V / 2 ^ m)).1 == 0 && ((pr (V / 2 ^ m)).2 == 0)) = true := (pr_zero hd).mpr z
      generalize hTd : (W &&& (2 ^ 128 - 1 - (2 ^ m - 1) * 2 ^ bk)) ||| (V * 2 ^ bk % 2 ^ 128) = T
      have hT : T < 2 ^ 128 := by rw [← hTd]; exact Nat.or_lt_two_pow hA hS
      have hTb : ∀ j, T.testBit j = if bk ≤ j ∧ j < bk + m then V.testBit (j - bk) else W.testBit j := by
        intro j
        rw [← hTd, Nat.testBit_or, Nat.testBit_and, show 2 ^ 128 - 1 - (2 ^ m - 1) * 2 ^ bk = 2 ^ 128 - ((2 ^ m - 1) * 2 ^ bk + 1) by omega, Nat.testBit_two_pow_sub_succ hH, Nat.testBit_mul_two_pow, Nat.testBit_two_pow_sub_one, Nat.testBit_mod_two_pow, Nat.testBit_mul_two_pow]
        by_cases c1 : j < 128
        · by_cases c2 : bk ≤ j
          · by_cases c3 : j < bk + m
            · have : j - bk < m := by omega
              simp [c1, c2, c3, this]
            · have h3 : ¬ (j - bk < m) := by omega
              have : V.testBit (j - bk) = false := Nat.testBit_lt_two_pow (Nat.lt_of_lt_of_le hVm (Nat.pow_le_pow_right (by decide) (by omega)))
              simp [c1, c2, c3, h3, this]
          · simp [c1, c2]
        · have h3 : ¬ (j < bk + m) := by omega
          have := testBit_high hW (j := j) (by omega)
          simp [c1, h3, this]
      refine ⟨((pr T).1, (pr T).2, 0), ?_, ?_⟩
      · rw [if_pos hz]
        simp only [ones_pr, Option.bind_some, s1, s2, not_val hH, and_val hW hN, s3, or_val hA hS, hTd]
      · refine Ev.bind hl2 ?_
        have hlt : ¬ ((l : Int) < wrap64 (128 - (m : Int))) := by
          rw [e1]; intro h; exact (hl.mp (by omega)) z
        simp only [hlt, if_false]
        refine with_loop hV hT hb hTb m 0 W (by omega) hW (fun j => ?_)
        rw [if_neg (by omega)]
    · have hz : ¬ ((pr (V / 2 ^ m)).1 == 0 && ((pr (V / 2 ^ m)).2 == 0)) = true := fun h => z ((pr_zero hd).mp h)
      refine ⟨(0, 0, 6), by rw [if_neg hz], ?_⟩
      refine Ev.bind hl2 ?_
      have hlt : (l : Int) < wrap64 (128 - (m : Int)) := by
        rw [e1]; have := hl.mpr z; omega
      simp only [hlt, if_true]
      exact Ev.now _
  · rw [if_neg c]
    simp only [decide_eq_false c, Bool.false_eq_true, if_false]
    exact ⟨_, rfl, Ev.now _⟩
theorem WordFields : turnpikelaw1_WordFields.Pure := by
  intro a b i n c d ha hb hi hn hc hd
  obtain ⟨W, hW, rfl, rfl⟩ := pr_of (wf_u64 ha) (wf_u64 hb)
  obtain ⟨V, hV, rfl, rfl⟩ := pr_of (wf_u64 hc) (wf_u64 hd)
  have hi := wf_i64 hi
  have hn := wf_i64 hn
  obtain ⟨r, e1, e2⟩ := field_same (pr W).1 (pr W).2 hi hn
  obtain ⟨s, e3, e4⟩ := with_same hW hV hi hn
  refine Ev.rounds (r := true) ?_
  unfold turnpikelaw1_WordFields.f
  simp only [e1, e2, e3, Option.bind_some]
  refine Ev.bind e4 ?_
  simp only [known_true, Option.bind_some, beq_self_eq_true, Bool.and_self, if_true]
  exact Ev.now _
end Go.Proofs.Ytoobnnkneppgkaa.Pure
