/- CodeTurned, the pure statement: of an instruction's bytes, one turned is another one or none; cut off, it is out of bounds. No condition beside the kinds' own. -/
import Derived.Test.YtpghpeoclbiloaaLLaw14
import Derived.Test.YtpghpeoclbiloaaLBack
import Derived.Test.YtpghpeoclbiloaaFx15
import Derived.Test.YtpghpeoclbiloaaFx18
set_option linter.unusedVariables false
set_option linter.unusedSimpArgs false
namespace Go.Proofs.Ytpghpeoclbiloaa.Pure
open Go.RowKit Go.Proofs.Ytpghpeoclbiloaa.F Go.Proofs.YtpghpeoclbiloaaW.PrintWords Go.Proofs.YtpghpeoclbiloaaW.PrintLast Go.Proofs.YtpghpeoclbiloaaW.PrintMore

theorem within_eq14t {a n : Int} (hn : 0 < n) (hn2 : n ≤ 4611686018427387904) : ∃ r, turnpikelaw14_within.f a n = some r ∧ 0 ≤ r ∧ r < n := by
  have h := tmod_range (a := a) hn
  unfold turnpikelaw14_within.f
  rw [if_neg (by omega)]
  by_cases e : Int.tmod a n < 0
  · rw [if_pos e, wrap64_id (by omega) (by omega)]; exact ⟨_, rfl, by omega, by omega⟩
  · rw [if_neg e]; exact ⟨_, rfl, by omega, by omega⟩

/-- What is read is at most all. -/
theorem dec_all {l : List Int} (hB : Bytes l) {op n : Int} {m : List Int} {k : Int} (hl : l.length = 4 * (1 + m.length)) (h : dec l 0 = (op, n, m, k, 0)) : l = encd [] op n m := by
  have he : (dec l 0).2.2.2.2 = 0 := by rw [h]
  obtain ⟨h0, h1, ho, hn, hi, hc⟩ := dec_ok he
  rw [h] at ho hn hi hc
  simp only at ho hn hi hc
  have hr := be32_range hB (4 * 0)
  have e3 : ((4 * 0 : Nat) : Int) = 4 * 0 := by omega
  have hhead : [op % 256, n / 65536 % 256, n / 256 % 256, n % 256] = bytes4 (be32 l (4 * 0)) := by
    rw [ho, hn]
    have a1 : be32 l (4 * 0) % 16777216 / 65536 % 256 = be32 l (4 * 0) / 65536 % 256 := by omega
    have a2 : be32 l (4 * 0) % 16777216 / 256 % 256 = be32 l (4 * 0) / 256 % 256 := by omega
    have a3 : be32 l (4 * 0) % 16777216 % 256 = be32 l (4 * 0) % 256 := by omega
    rw [a1, a2, a3]; rfl
  have hfull : l = (l.drop 0).take (4 * (m.length + 1)) := by rw [List.drop_zero, List.take_of_length_le (by omega)]
  unfold encd
  rw [List.nil_append, hhead]
  refine hfull.trans ?_
  rw [take_four hB (by omega), e3]
  refine congrArg (fun z => bytes4 (be32 l (4 * 0)) ++ z) ?_
  rcases hc with ⟨c1, rfl, _⟩ | ⟨c1, c2, c3, _, c5⟩
  · simp [allbytes]
  · subst c1
    have hmw := mapw_range (isnum_map hi).1 (isnum_map hi).2
    have hlen : m.length = (mapw n).toNat := by rw [c2, mapat_length]
    have := take_words hB (a := 0) (mapw n).toNat (by omega)
    rw [show 0 + 4 = 4 * (0 + 1) by omega, hlen, this]
    exact congrArg allbytes c2.symm

/-- Cut off, it is out of bounds. -/
theorem dec_cut {op n : Int} {m : List Int} (hm : Words m) (hc : chk op n m = 0) : (dec ((encd [] op n m).take (4 * (1 + m.length) - 1)) 0).2.2.2.2 = 30 := by
  obtain ⟨o1, o2, hi, n1, n2, hcase⟩ := chk_zero hc
  have hlen := encd_length [] op n m
  have hl' : ((encd [] op n m).take (4 * (1 + m.length) - 1)).length = 4 * (1 + m.length) - 1 := by rw [List.length_take, hlen]; simp
  rcases hcase with ⟨h2, rfl⟩ | ⟨h2, r1, r2, hmap, hml⟩
  · unfold dec; rw [if_pos (.inr (by rw [hl']; simp))]
  · have hw := mapw_range r1 r2
    have hd : ((encd [] op n m).take (4 * (1 + m.length) - 1)).drop 0 = op % 256 :: n / 65536 % 256 :: n / 256 % 256 :: n % 256 :: (allbytes m).take (4 * m.length - 1) := by
      unfold encd
      rw [List.drop_zero, List.nil_append, show 4 * (1 + m.length) - 1 = (4 * m.length - 1) + 1 + 1 + 1 + 1 by omega]
      simp only [List.cons_append, List.nil_append, List.take_succ_cons]
    have hbe := be32_of hd
    have hz : ((0 : Nat) : Int) = 4 * 0 := by omega
    rw [hz] at hbe
    have hbe' : be32 ((encd [] op n m).take (4 * (1 + m.length) - 1)) (4 * 0) = op * 16777216 + n := by rw [hbe]; omega
    have hop : be32 ((encd [] op n m).take (4 * (1 + m.length) - 1)) (4 * 0) / 16777216 = op := by rw [hbe']; omega
    have hnn : be32 ((encd [] op n m).take (4 * (1 + m.length) - 1)) (4 * 0) % 16777216 = n := by rw [hbe']; omega
    unfold dec
    simp only [hop, hnn, hl']
    rw [if_neg (by omega), if_neg (by omega), if_neg (show ¬ isnum op n = false by rw [hi]; simp), if_neg (by omega), if_pos (by omega)]

theorem CodeTurned : turnpikelaw14_CodeTurned.Pure := by
  intro op n m at_ by_ hop hn hml hmw ha hby
  have hM : Words m := fun x hx => wf_u32 (hmw x hx)
  have hbb := wf_u8 hby
  refine Ev.rounds (r := true) ?_
  unfold turnpikelaw14_CodeTurned.f
  refine Ev.bind known_ev ?_
  simp only [if_true]
  have hj : ∀ c, c = decide ((m.length : Int) > 4096 ∨ by_ = 0) → Ev (fun k => turnpikelaw14_CodeTurned.j0 k at_ by_ c op n m) true := by
    rintro c rfl
    refine Ev.succ ?_; simp only [turnpikelaw14_CodeTurned.j0, decide_eq_true_eq]
    by_cases h : (m.length : Int) > 4096 ∨ by_ = 0
    · simp only [h, if_true]; exact Ev.now _
    · simp only [h, if_false]
      refine Ev.bind (encode_ev [] op n m (by simp) (by omega)) ?_
      by_cases hc : chk op n m = 0
      · have hlen := encd_length [] op n m
        simp only [List.length_nil, Nat.zero_add] at hlen
        obtain ⟨b, hb⟩ : ∃ b, b = encd [] op n m := ⟨_, rfl⟩
        have hBb : Bytes b := by rw [hb]; exact encd_bytes (by intro x hx; simp at hx) _ _ _
        rw [← hb] at hlen
        obtain ⟨r, hr, hr0, hr1⟩ := within_eq14t (a := at_) (n := (b.length : Int)) (by omega) (by omega)
        simp only [hc, if_true, ← hb, Option.bind_some, List.nil_append, List.length_nil, show 0 + b.length < 140737488355328 by omega, hr, hr0, hr1]
        obtain ⟨c, hcdef⟩ : ∃ c, c = b.set r.toNat ((rd b r + by_) % 256) := ⟨_, rfl⟩
        have hBc : Bytes c := by
          intro x hx; rw [hcdef] at hx
          rcases List.mem_or_eq_of_mem_set hx with h1 | h1
          · exact hBb x h1
          · omega
        have hcl : c.length = b.length := by rw [hcdef]; simp
        have e1 : wrap64 ((b.length : Int) - 1) = (b.length : Int) - 1 := wrap64_id (by omega) (by omega)
        rw [← hcdef]
        refine Ev.bind (decode_ev hBc (by omega) 0) ?_
        simp only [e1, show 0 ≤ (b.length : Int) - 1 by omega, show (b.length : Int) - 1 ≤ (b.length : Int) by omega, if_true]
        clear e1
        have hBt : Bytes (b.take ((b.length : Int) - 1).toNat) := fun x hx => hBb x (List.mem_of_mem_take hx)
        refine Ev.bind (decode_ev hBt (by rw [List.length_take]; omega) 0) ?_
        have hcut : (dec (b.take ((b.length : Int) - 1).toNat) 0).2.2.2.2 = 30 := by
          have := dec_cut hM hc
          rw [← hb] at this
          rw [show ((b.length : Int) - 1).toNat = 4 * (1 + m.length) - 1 by omega]; exact this
        by_cases he : (dec c 0).2.2.2.2 = 0
        · simp only [he, if_true]
          refine Ev.bind (same_ev (dec_len (by omega) 0) _ _ _ _) ?_
          have hne : ¬ ((dec c 0).1 = op ∧ (dec c 0).2.1 = n ∧ (dec c 0).2.2.1 = m) := by
            rintro ⟨a1, a2, a3⟩
            have hd : dec c 0 = (op, n, m, (dec c 0).2.2.2.1, 0) := by
              exact Prod.ext a1 (Prod.ext a2 (Prod.ext a3 (Prod.ext rfl he)))
            have := dec_all hBc (by rw [hcl, hlen]) hd
            rw [← hb] at this
            have hset : rd c r = (rd b r + by_) % 256 := by
              rw [hcdef]; simp [rd, List.getD_eq_getElem?_getD, List.getElem?_set, show r.toNat < b.length by omega]
            have hrd := hBb.rd r
            rw [this] at hset
            omega
          simp only [hne, decide_false, Bool.false_eq_true, if_false, hcut, beq_self_eq_true]
          exact Ev.now _
        · simp only [he, if_false, hcut, beq_self_eq_true]; exact Ev.now _
      · simp only [hc, if_false]; exact Ev.now _
  by_cases h1 : (m.length : Int) > 4096
  · simp only [h1, if_true]; exact hj _ (by simp [h1])
  · simp only [h1, if_false]; exact hj _ (by simp [h1]; rfl)

end Go.Proofs.Ytpghpeoclbiloaa.Pure
