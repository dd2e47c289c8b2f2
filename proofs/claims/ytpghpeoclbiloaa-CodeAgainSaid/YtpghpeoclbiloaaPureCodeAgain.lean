/- CodeAgain, the pure statement: for every row of bytes and every place, what is read is laid down again as the bytes that it was read of. No condition beside the kinds' own. -/
import Derived.Test.YtpghpeoclbiloaaLLaw14
import Derived.Test.YtpghpeoclbiloaaLEnc
import Derived.Test.YtpghpeoclbiloaaFx13
import Derived.Test.YtpghpeoclbiloaaFx15
set_option linter.unusedVariables false
set_option linter.unusedSimpArgs false
namespace Go.Proofs.Ytpghpeoclbiloaa.Pure
open Go.RowKit Go.Proofs.Ytpghpeoclbiloaa.F Go.Proofs.YtpghpeoclbiloaaW.PrintWords Go.Proofs.YtpghpeoclbiloaaW.PrintLast Go.Proofs.YtpghpeoclbiloaaW.PrintMore

theorem within_eq14a {a n : Int} (hn : 0 < n) (hn2 : n ≤ 4611686018427387904) : ∃ r, turnpikelaw14_within.f a n = some r ∧ 0 ≤ r ∧ r < n := by
  have h := tmod_range (a := a) hn
  unfold turnpikelaw14_within.f
  rw [if_neg (by omega)]
  by_cases e : Int.tmod a n < 0
  · rw [if_pos e, wrap64_id (by omega) (by omega)]; exact ⟨_, rfl, by omega, by omega⟩
  · rw [if_neg e]; exact ⟨_, rfl, by omega, by omega⟩

theorem dec_chk {l : List Int} {r : Int} (h : (dec l r).2.2.2.2 = 0) : chk (dec l r).1 (dec l r).2.1 (dec l r).2.2.1 = 0 := by
  obtain ⟨h0, h1, ho, hn, hi, hc⟩ := dec_ok h
  have hop : 1 ≤ (dec l r).1 ∧ (dec l r).1 ≤ 4 := by
    have := hi; unfold isnum at this
    by_cases a1 : (dec l r).1 = 1 ∨ (dec l r).1 = 2
    · omega
    · by_cases a3 : (dec l r).1 = 3
      · omega
      · by_cases a4 : (dec l r).1 = 4
        · omega
        · rw [if_neg a1, if_neg a3, if_neg a4] at this; cases this
  unfold chk
  rw [if_neg (by omega), if_neg (by rw [hi]; simp), if_neg ?_]
  rcases hc with ⟨c1, c2, _⟩ | ⟨c1, _, _, _, c5⟩
  · rw [c2]; simp [c1]
  · rw [c5]; simp [c1]
theorem dec_words {l : List Int} {r : Int} (h : (dec l r).2.2.2.2 = 0) : (dec l r).2.2.2.1 = 1 + ((dec l r).2.2.1.length : Int) ∧ r + (dec l r).2.2.2.1 ≤ (l.length : Int) / 4 := by
  obtain ⟨h0, h1, ho, hn, hi, ⟨c1, c2, c3⟩ | ⟨c1, c2, c3, c4, c5⟩⟩ := dec_ok h
  · rw [c2, c3]; simp; omega
  · rw [c1] at hi
    have hw := mapw_range (isnum_map hi).1 (isnum_map hi).2
    rw [c3, c2, mapat_length]; omega
theorem bytes4_split (v : Int) : [v / 16777216 % 256, v % 16777216 / 65536 % 256, v % 16777216 / 256 % 256, v % 16777216 % 256] = bytes4 v := by
  have h1 : v % 16777216 / 65536 % 256 = v / 65536 % 256 := by omega
  have h2 : v % 16777216 / 256 % 256 = v / 256 % 256 := by omega
  have h3 : v % 16777216 % 256 = v % 256 := by omega
  rw [h1, h2, h3]; rfl
/-- What is read, laid down, is the bytes that it was read of. -/
theorem dec_enc {l : List Int} (hB : Bytes l) {r : Int} (h : (dec l r).2.2.2.2 = 0) : encd [] (dec l r).1 (dec l r).2.1 (dec l r).2.2.1 = (l.drop (4 * r).toNat).take (4 * (dec l r).2.2.2.1).toNat := by
  obtain ⟨h0, h1, ho, hn, hi, hc⟩ := dec_ok h
  have hw := dec_words h
  obtain ⟨p, rfl⟩ := Int.eq_ofNat_of_zero_le h0
  have hr := be32_range hB (4 * (p : Int))
  have hhead : [(dec l p).1 % 256, (dec l p).2.1 / 65536 % 256, (dec l p).2.1 / 256 % 256, (dec l p).2.1 % 256] = bytes4 (be32 l (4 * (p : Int))) := by
    rw [ho, hn]; exact bytes4_split _
  have e1 : (4 * (p : Int)).toNat = 4 * p := by omega
  have e2 : (4 * (dec l p).2.2.2.1).toNat = 4 * ((dec l p).2.2.1.length + 1) := by omega
  have e3 : ((4 * p : Nat) : Int) = 4 * (p : Int) := by omega
  unfold encd
  rw [hhead, e1, e2, take_four hB (by omega), e3, List.nil_append]
  refine congrArg (fun z => bytes4 (be32 l (4 * (p : Int))) ++ z) ?_
  rcases hc with ⟨c1, c2, _⟩ | ⟨c1, c2, c3, _, c5⟩
  · rw [c2]; simp [allbytes]
  · rw [c1] at hi
    have hmw := mapw_range (isnum_map hi).1 (isnum_map hi).2
    have hlen : (dec l p).2.2.1.length = (mapw (dec l p).2.1).toNat := by rw [c2, mapat_length]
    rw [show 4 * p + 4 = 4 * (p + 1) by omega, hlen, take_words hB (mapw (dec l p).2.1).toNat (by omega), ← c2]

theorem CodeAgain : turnpikelaw14_CodeAgain.Pure := by
  intro l a hl hn hb ha
  have hB := Bytes.of_wf hb
  have hn' : l.length ≤ 140737488351232 := by omega
  refine Ev.rounds (r := true) ?_
  unfold turnpikelaw14_CodeAgain.f
  refine Ev.bind known_ev ?_
  simp only [if_true]
  by_cases h : (l.length : Int) > 65536
  · simp only [h, if_true]; exact Ev.now _
  · have e1 : wrap64 (wrap64 ((l.length : Int) / 4) + 2) = (l.length : Int) / 4 + 2 := by rw [wrap64_id (n := (l.length : Int) / 4) (by omega) (by omega), wrap64_id (by omega) (by omega)]
    obtain ⟨r, hr, hr0, hr1⟩ := within_eq14a (a := a) (n := (l.length : Int) / 4 + 2) (by omega) (by omega)
    have hm := dec_maplen (l := l) r
    simp only [h, if_false, e1, hr, Option.bind_some]
    clear e1
    refine Ev.bind (decode_ev hB hn' r) ?_
    by_cases he : (dec l r).2.2.2.2 = 0
    · have hw := dec_words he
      have hc := dec_chk he
      simp only [he, if_true]
      refine Ev.bind (encode_ev [] _ _ _ (by simp) (by omega)) ?_
      simp only [hc, if_true]
      refine Ev.bind (check_ev _ _ _) ?_
      simp only [hc, if_true]
      refine Ev.bind (size_ev _ _ _ (by omega)) ?_
      have g1 : 0 ≤ 4 * r := by omega
      have g2 : 4 * r ≤ 4 * r + 4 * (dec l r).2.2.2.1 := by omega
      have g3 : 4 * r + 4 * (dec l r).2.2.2.1 ≤ (l.length : Int) := by omega
      have g4 : (dec l r).2.2.2.1 = 1 + ((dec l r).2.2.1.length : Int) := hw.1
      have g5 : (4 * r + 4 * (dec l r).2.2.2.1).toNat - (4 * r).toNat = (4 * (dec l r).2.2.2.1).toNat := by omega
      have f1 : wrap64 (4 * r) = 4 * r := wrap64_id (by omega) (by omega)
      have f2 : wrap64 (4 * (dec l r).2.2.2.1) = 4 * (dec l r).2.2.2.1 := wrap64_id (by omega) (by omega)
      have f3 : wrap64 (4 * r + 4 * (dec l r).2.2.2.1) = 4 * r + 4 * (dec l r).2.2.2.1 := wrap64_id (by omega) (by omega)
      simp only [hc, if_true, f1, f2, f3, g1, g2, g3]
      rw [← g4]
      simp only [if_true]
      have := dec_enc hB he
      rw [this, List.drop_take, g5]
      simp only [beq_self_eq_true]
      exact Ev.now _
    · have hz := dec_err he
      simp only [he, if_false, hz.1, hz.2.1, hz.2.2.1, hz.2.2.2, if_true, List.length_nil]
      exact Ev.now _

end Go.Proofs.Ytpghpeoclbiloaa.Pure
