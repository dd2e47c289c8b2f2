/- ref17.Open in plain words. -/
import Derived.Test.YtkblieonpncacaaLImg
import Derived.Test.YtkblieonpncacaaFx12
set_option linter.unusedVariables false
set_option linter.unusedSimpArgs false
namespace Go.Proofs.Ytkblieonpncacaa.Pure
open Go.RowKit Go.Proofs.Ytkblieonpncacaa.F Go.Proofs.YtkblieonpncacaaW.PrintWords Go.Proofs.YtkblieonpncacaaW.PrintLast Go.Proofs.YtkblieonpncacaaW.PrintMore
theorem ropen_ev {l : List Int} (hl : Bytes l) (hn : l.length ≤ 1000000000) (a : Int) : Ev (fun k => turnpikeref17_Open.f k l a) (opnAt l a) := by
  have hj : ∀ b : Bool, b = decide (a < 0 ∨ (l.length : Int) < a) → Ev (fun k => turnpikeref17_Open.j0 k l a b) (opnAt l a) := by
    intro b hb
    refine Ev.succ ?_
    simp only [turnpikeref17_Open.j0]
    unfold opnAt
    by_cases c1 : a < 0 ∨ (l.length : Int) < a
    · rw [hb, if_pos c1]
      simp only [decide_eq_true c1, if_true]
      exact Ev.now _
    rw [hb, if_neg c1]
    simp only [decide_eq_false c1, Bool.false_eq_true, if_false, show 0 ≤ a by omega, show a ≤ (l.length : Int) by omega, if_true]
    have hL : Bytes (l.drop a.toNat) := Bytes.drop hl _
    have hLn : (l.drop a.toNat).length ≤ 1000000000 := by rw [List.length_drop]; omega
    generalize l.drop a.toNat = x at hL hLn ⊢
    simp only [Option.bind_some]
    unfold opn
    by_cases c2 : x.length < 16
    · simp only [show (x.length : Int) < 16 by omega, c2, if_true]; exact Ev.now _
    simp only [show ¬ (x.length : Int) < 16 by omega, c2, if_false, show 4 ≤ (x.length : Int) by omega, if_true]
    by_cases c3 : (strOfNums (x.take 4)).toList = ([84, 80, 75, 49] : List UInt8)
    case neg => simp only [c3, if_false]; exact Ev.now _
    simp only [c3, if_true]
    have g4 := hL.rd 4
    have g5 := hL.rd 5
    have g6 := hL.rd 6
    have g7 := hL.rd 7
    have g8 := be32_range hL 8
    have r6 : Ev (fun k => turnpikeref13_Get.f k x 6 2) (rd x 6 * 256 + rd x 7, true) := by
      have := rget_in (n := 2) hL (by omega) (a := 6) (by omega) (by omega)
      rw [beOn_two hL] at this; exact this
    refine Ev.bind r6 ?_
    refine Ev.bind (rget32_in hL (by omega) (a := 8) (by omega) (by omega)) ?_
    refine Ev.bind (rget32_in hL (by omega) (a := 12) (by omega) (by omega)) ?_
    simp only [show 4 < (x.length : Int) by omega, show 5 < (x.length : Int) by omega, if_true, rd_id hL, wrap64_id (n := rd x 6 * 256 + rd x 7) (by omega) (by omega), wrap64_id (n := be32 x 8) (by omega) (by omega), family_eq, Option.bind_some]
    by_cases c0 : rd x 4 = 32 ∨ rd x 4 = 128
    case neg =>
      have hw : wrongv (rd x 4) (rd x 5) (rd x 6 * 256 + rd x 7) = 11 := by unfold wrongv; rw [if_pos c0]
      simp only [decide_eq_false c0, Bool.false_eq_true, if_false, hw, ne_eq, show ¬ (11 : Int) = 0 by decide, not_false_eq_true, if_true]
      exact Ev.now _
    simp only [decide_eq_true c0, if_true, counted_eq c0, Option.bind_some]
    by_cases c4 : wrongv (rd x 4) (rd x 5) (rd x 6 * 256 + rd x 7) = 0
    case neg =>
      have hw : wrongv (rd x 4) (rd x 5) (rd x 6 * 256 + rd x 7) = 28 := by
        rcases wrongv_cases (rd x 4) (rd x 5) (rd x 6 * 256 + rd x 7) with h | h | h
        · exfalso; unfold wrongv at h; rw [if_neg (not_not_intro c0)] at h; split at h <;> omega
        · exact h
        · exact absurd h.1 c4
      simp only [hw, ne_eq, show ¬ (28 : Int) = 0 by decide, not_false_eq_true, if_true, decide_false, Bool.false_eq_true, if_false]
      exact Ev.now _
    simp only [c4, decide_true, if_true, ne_eq, not_true_eq_false, if_false]
    by_cases c5 : be32 x 8 > 1048572
    · simp only [c5, if_true]; exact Ev.now _
    simp only [c5, if_false]
    have e1 : wrap64 (4 * be32 x 8) = 4 * be32 x 8 := wrap64_id (by omega) (by omega)
    have e2 : wrap64 (16 + 4 * be32 x 8) = 16 + 4 * be32 x 8 := wrap64_id (by omega) (by omega)
    simp only [e1, e2]
    clear e1 e2
    by_cases c6 : ((x.length : Int) - 16) / 4 < be32 x 8
    · simp only [show (x.length : Int) < 16 + 4 * be32 x 8 by omega, c6, if_true]; exact Ev.now _
    have hd : ((x.take (16 + 4 * be32 x 8).toNat).drop 16).length ≤ 1000000000 := by simp only [List.length_drop, List.length_take]; omega
    have h12 : (x.take 12).length = 12 := by rw [List.length_take]; omega
    simp only [show ¬ (x.length : Int) < 16 + 4 * be32 x 8 by omega, c6, if_false, show 12 ≤ (x.length : Int) by omega, if_true, List.nil_append, List.length_nil, h12, show 0 + 12 < 140737488355328 by omega, Option.bind_some, show 16 ≤ 16 + 4 * be32 x 8 by omega, show 16 + 4 * be32 x 8 ≤ (x.length : Int) by omega,
      show 12 + ((x.take (16 + 4 * be32 x 8).toNat).drop 16).length < 140737488355328 by omega]
    have hB : Bytes (x.take 12 ++ (x.take (16 + 4 * be32 x 8).toNat).drop 16) := Bytes.append (Bytes.take hL 12) (Bytes.drop (Bytes.take hL _) 16)
    have hBl : (x.take 12 ++ (x.take (16 + 4 * be32 x 8).toNat).drop 16).length = 12 + ((x.take (16 + 4 * be32 x 8).toNat).drop 16).length := by rw [List.length_append, h12]
    refine Ev.bind (rsum_ev hB (by omega)) ?_
    by_cases c7 : sm (x.take 12 ++ (x.take (16 + 4 * be32 x 8).toNat).drop 16) = be32 x 12
    · have hdr : (x.take 12 ++ (x.take (16 + 4 * be32 x 8).toNat).drop 16).drop (12 : Int).toNat = (x.take (16 + 4 * be32 x 8).toNat).drop 16 := by
        rw [show (12 : Int).toNat = (x.take 12).length by rw [h12]; rfl, List.drop_left]
      have hl12 : (12 : Int) ≤ ((x.take 12 ++ (x.take (16 + 4 * be32 x 8).toNat).drop 16).length : Int) := by omega
      simp only [c7, if_true, hl12, hdr]
      exact Ev.now _
    · simp only [c7, if_false]; exact Ev.now _
  unfold turnpikeref17_Open.f
  by_cases c1 : a < 0
  · simp only [c1, if_true]; exact hj true (by simp [c1])
  · simp only [c1, if_false]
    refine hj _ ?_
    simp only [c1, false_or]
end Go.Proofs.Ytkblieonpncacaa.Pure
