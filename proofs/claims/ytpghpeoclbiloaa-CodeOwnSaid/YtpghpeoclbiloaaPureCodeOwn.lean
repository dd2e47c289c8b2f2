/- CodeOwn, the pure statement: for every row of bytes and every place, a told map is the caller's own. No condition beside the kinds' own. -/
import Derived.Test.YtpghpeoclbiloaaLLaw14
import Derived.Test.YtpghpeoclbiloaaLEnc
import Derived.Test.YtpghpeoclbiloaaFx13
import Derived.Test.YtpghpeoclbiloaaFx17
set_option linter.unusedVariables false
set_option linter.unusedSimpArgs false
namespace Go.Proofs.Ytpghpeoclbiloaa.Pure
open Go.RowKit Go.Proofs.Ytpghpeoclbiloaa.F Go.Proofs.YtpghpeoclbiloaaW.PrintWords Go.Proofs.YtpghpeoclbiloaaW.PrintLast Go.Proofs.YtpghpeoclbiloaaW.PrintMore

theorem within_eq14 {a n : Int} (hn : 0 < n) (hn2 : n ≤ 4611686018427387904) : ∃ r, turnpikelaw14_within.f a n = some r ∧ 0 ≤ r ∧ r < n := by
  have h := tmod_range (a := a) hn
  unfold turnpikelaw14_within.f
  rw [if_neg (by omega)]
  by_cases e : Int.tmod a n < 0
  · rw [if_pos e, wrap64_id (by omega) (by omega)]; exact ⟨_, rfl, by omega, by omega⟩
  · rw [if_neg e]; exact ⟨_, rfl, by omega, by omega⟩

theorem own_l1 {l : List Int} (hl : l.length ≤ 16384) (hB : Bytes l) (a o n : Int) (d : Nat) : ∀ (i : Nat) (x : List Int), i + d = 30 → x.length ≤ 1000000 + i → Ev (fun k => turnpikelaw14_CodeOwn.l1 k l a l (dec l a).2.2.1 (i : Int) o n x (dec l a).1 (dec l a).2.1 (dec l a).2.2.1) true := by
  induction d with
  | zero =>
    intro i x hi hx
    refine Ev.succ ?_
    simp only [turnpikelaw14_CodeOwn.l1, show ¬ (i : Int) < 30 by omega, if_false]
    refine Ev.bind (same_refl (dec_len (by omega) a) _ _) ?_
    simp only [if_true, bne_self_eq_false]
    refine Ev.succ ?_
    simp only [turnpikelaw14_CodeOwn.j2, Bool.false_eq_true, if_false]
    refine Ev.bind (decode_ev hB (by omega) a) ?_
    refine Ev.bind (same_refl (dec_len (by omega) a) _ _) ?_
    exact Ev.now _
  | succ d ih =>
    intro i x hi hx
    refine Ev.succ ?_
    have e1 : wrap64 ((i : Int) + 1) = ((i + 1 : Nat) : Int) := wrap64_id (by omega) (by omega)
    simp only [turnpikelaw14_CodeOwn.l1, show (i : Int) < 30 by omega, if_true, show x.length < 35184372088832 by omega, e1]
    exact ih (i + 1) _ (by omega) (by simp; omega)
theorem own_l0 {l : List Int} (hl : l.length ≤ 16384) (hB : Bytes l) (a o n : Int) (d : Nat) : ∀ (i : Nat) (x : List Int), i + d = x.length → x.length ≤ 1000000 → Ev (fun k => turnpikelaw14_CodeOwn.l0 k l a l (dec l a).2.2.1 (i : Int) o n x (dec l a).1 (dec l a).2.1 (dec l a).2.2.1) true := by
  induction d with
  | zero =>
    intro i x hi hx
    refine Ev.succ ?_
    simp only [turnpikelaw14_CodeOwn.l0, show ¬ (i : Int) < (x.length : Int) by omega, if_false]
    exact own_l1 hl hB a o n 30 0 x (by omega) (by omega)
  | succ d ih =>
    intro i x hi hx
    refine Ev.succ ?_
    have g1 : (i : Int) < (x.length : Int) := by omega
    have g2 : (0 : Int) ≤ (i : Int) := by omega
    have e1 : wrap64 ((i : Int) + 1) = ((i + 1 : Nat) : Int) := wrap64_id (by omega) (by omega)
    simp only [turnpikelaw14_CodeOwn.l0, g1, g2, if_true, e1]
    exact ih (i + 1) _ (by simp; omega) (by simp; omega)

theorem CodeOwn : turnpikelaw14_CodeOwn.Pure := by
  intro l a hl hn hb ha
  have hB := Bytes.of_wf hb
  have hn' : l.length ≤ 140737488351232 := by omega
  refine Ev.rounds (r := true) ?_
  unfold turnpikelaw14_CodeOwn.f
  refine Ev.bind known_ev ?_
  simp only [if_true]
  by_cases h : (l.length : Int) > 16384
  · simp only [h, if_true]; exact Ev.now _
  · have e1 : wrap64 (wrap64 ((l.length : Int) / 4) + 1) = (l.length : Int) / 4 + 1 := by rw [wrap64_id (n := (l.length : Int) / 4) (by omega) (by omega), wrap64_id (by omega) (by omega)]
    obtain ⟨r, hr, hr0, hr1⟩ := within_eq14 (a := a) (n := (l.length : Int) / 4 + 1) (by omega) (by omega)
    have hm := dec_maplen (l := l) r
    simp only [h, if_false, Option.bind_some, List.nil_append, List.length_nil, show 0 + l.length < 140737488355328 by omega, if_true, e1, hr]
    refine Ev.bind (decode_ev hB hn' r) ?_
    refine Ev.bind (decode_ev hB hn' r) ?_
    simp only [if_true, show 0 + (dec l r).2.2.1.length < 35184372088832 by omega]
    exact own_l0 (by omega) hB r _ _ _ 0 _ (Nat.zero_add _) (by omega)

end Go.Proofs.Ytpghpeoclbiloaa.Pure
