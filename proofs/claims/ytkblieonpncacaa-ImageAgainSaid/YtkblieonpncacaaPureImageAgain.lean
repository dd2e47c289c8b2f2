/- ImageAgain, the pure statement: for all bytes, all places. No condition beside the kinds' own. -/
import Derived.Test.YtkblieonpncacaaLImgAgain
import Derived.Test.YtkblieonpncacaaFx16
set_option linter.unusedVariables false
set_option linter.unusedSimpArgs false
namespace Go.Proofs.Ytkblieonpncacaa.Pure
open Go.RowKit Go.Proofs.Ytkblieonpncacaa.F Go.Proofs.YtkblieonpncacaaW.PrintWords Go.Proofs.YtkblieonpncacaaW.PrintLast Go.Proofs.YtkblieonpncacaaW.PrintMore
theorem ImageAgain : turnpikelaw17_ImageAgain.Pure := by
  intro l a _ _ hc ha
  have hB := Bytes.of_wf hc
  refine Ev.rounds (r := true) ?_
  unfold turnpikelaw17_ImageAgain.f
  refine Ev.bind known_ev ?_
  by_cases h1 : (l.length : Int) > 65536
  · simp only [h1, if_true]; exact Ev.now _
  simp only [h1, if_false, if_true]
  refine Ev.bind (open_ev hB (by omega) a) ?_
  by_cases h2 : (opnAt l a).2.2.2.2.2 = 0
  · obtain ⟨ha0, W, D, S, N, c, e, ho, hcb, hcn, hle, hi⟩ := opnAt_again hB h2
    rw [e]
    simp only [if_true]
    refine Ev.bind (pack_ev hcb (by omega)) ?_
    rw [pk_img ho hcn]
    have hw : wrap64 (a + ((img W D S N c).length : Int)) = a + 16 + c.length := by
      rw [img_len, wrap64_id (by omega) (by omega)]; omega
    have hs : (l.take (a + 16 + (c.length : Int)).toNat).drop a.toNat = img W D S N c := by
      rw [List.drop_take, ← hi]
      congr 1
      omega
    simp only [if_true, ge_iff_le, ha0, hw, hle, show a ≤ a + 16 + (c.length : Int) by omega, hs, beq_self_eq_true]
    exact Ev.now _
  · rw [opnAt_err h2]
    simp only [h2, if_false]
    exact Ev.eq_now' (by decide)
end Go.Proofs.Ytkblieonpncacaa.Pure
