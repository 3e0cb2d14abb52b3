import Derived.Test.YtdpppigniaafnaaAl1
import Derived.Test.YtdpppigniaafnaaD6K
set_option linter.unusedSimpArgs false
set_option linter.unusedVariables false
namespace Go.Proofs.Ytdpppigniaafnaa
open Go Go.Al
set_option maxRecDepth 20000
@[simp] theorem lim2 : 2 ≤ LIM := by simp [LIM]

theorem awake_0 : ACalls Try.prog 19 [] emptyH fun r G' => G' = emptyH ∧ r = .bool true := by
  refine ACalls.hide fun post hpost => ?_
  refine F19_in (by simp) (by simp) fun hbd => ?_
  unfold F19
  refine awp_seqH fun K1 hK1 => ?_
  simp (disch := first | (with_reducible assumption) | (simp; done) | omega | (simp; omega)) [F19_r0]
  refine hK1.out _ _ ?_
  refine awp_seqH fun K2 hK2 => ?_
  simp (disch := first | (with_reducible assumption) | (simp; done) | omega | (simp; omega)) [F19_r1, ofV]
  refine CallK.use (new_c (ps := none) (by simp) (by simp) (by simp)) ?_
  intro o h1 _ hpo ho
  have e0 : bitsL (newB (LL (none : Option (List (Option (List Int)))))) = [] := by simp [newB, bitsL]
  rw [e0] at ho
  simp (disch := first | (with_reducible assumption) | (simp; done) | omega | (simp; omega)) [hpo]
  refine hK2.out _ _ ?_
  refine awp_seqH fun K3 hK3 => ?_
  simp (disch := first | (with_reducible assumption) | (simp; done) | omega | (simp; omega)) [F19_r2, hpo]
  have c1 := obits_c (n := 4) (s := some [4, 5]) ho (by simp) (by simp [U64])
  refine CallK.use c1 ?_
  rintro r h2 _ _ ⟨ho, hr⟩
  have e1 : bitsE 4 (LL (some [(4 : Int), 5])).length ([] : List Int).length = 0 := by decide
  rw [if_pos e1] at ho
  rw [e1] at hr
  subst hr
  have e2 : ([] : List Int) ++ (LL (some [(4 : Int), 5])).flatMap (numL (4 : Int).toNat) = [0, 1, 0, 0, 0, 1, 0, 1] := by decide
  rw [e2] at ho
  simp (disch := first | (with_reducible assumption) | (simp; done) | omega | (simp; omega)) [hpo]
  have c2 := obits_c (n := 3) (s := some [1]) ho (by simp) (by simp [U64])
  refine CallK.use c2 ?_
  rintro r h2 _ _ ⟨ho, hr⟩
  have e3 : bitsE 3 (LL (some [(1 : Int)])).length ([0, 1, 0, 0, 0, 1, 0, 1] : List Int).length = 0 := by decide
  rw [if_pos e3] at ho
  rw [e3] at hr
  subst hr
  have e4 : ([0, 1, 0, 0, 0, 1, 0, 1] : List Int) ++ (LL (some [(1 : Int)])).flatMap (numL (3 : Int).toNat) = [0, 1, 0, 0, 0, 1, 0, 1, 0, 0, 1] := by decide
  rw [e4] at ho
  simp (disch := first | (with_reducible assumption) | (simp; done) | omega | (simp; omega)) [hpo]
  refine hK3.out _ _ ?_
  refine awp_seqH fun K4 hK4 => ?_
  simp (disch := first | (with_reducible assumption) | (simp; done) | omega | (simp; omega)) [F19_r3, hpo]
  refine CallK.use (done_c ho (by simp)) ?_
  rintro r h3 _ _ ⟨rfl, s, rfl, hs⟩
  have hpk : Packed [69, 32] [0, 1, 0, 0, 0, 1, 0, 1, 0, 0, 1] := by
    refine ⟨by simp [Bytes], by simp [Bits01], by simp, by simp, ?_, ?_⟩
    · decide
    · intro i h1 h2
      have : i = 11 ∨ i = 12 ∨ i = 13 ∨ i = 14 ∨ i = 15 := by simp at h1 h2; omega
      rcases this with rfl | rfl | rfl | rfl | rfl <;> decide
  have hss := Packed.unique hs hpk
  simp (disch := first | (with_reducible assumption) | (simp; done) | omega | (simp; omega)) [hpo]
  refine CallK.new (of_c (s := s) (by rw [hss]; simp)) ?_
  rintro i hi hdis _ hpi ⟨s', hs', hI⟩
  rw [hss] at hs'
  simp (disch := first | (with_reducible assumption) | (simp; done) | omega | (simp; omega)) [hpi, hpo]
  refine hK4.out _ _ ?_
  refine awp_seqH fun K5 hK5 => ?_
  simp (disch := first | (with_reducible assumption) | (simp; done) | omega | (simp; omega)) [F19_r4, hpo, hpi]
  refine CallK.fl (len_c ho) hdis ?_
  rintro r h4 hdis _ _ ⟨rfl, rfl⟩
  simp (disch := first | (with_reducible assumption) | (simp; done) | omega | (simp; omega)) [hpo, hpi]
  refine CallK.fl (done_c ho (by simp)) hdis ?_
  rintro r h5 hdis _ _ ⟨rfl, s2, rfl, hs2⟩
  have hss2 := Packed.unique hs2 hpk
  have hstr : ((strOfNums (LL s2)).toList == [69, 32]) = true := by rw [hss2]; decide +kernel
  have hlim : (ByteArray.mk #[69, 32]).size ≤ LIM := by decide
  simp (disch := first | (with_reducible assumption) | (simp; done) | omega | (simp; omega)) [hpo, hpi, conv_ofS, sbin, hstr, hlim]
  have hU : Bytes (LL s') := by rw [hs']; simp [Bytes]
  have c6 := bits_c (n := 8) hI (by omega) (by omega) (by rw [hs']; simp) hU
  refine CallK.fr c6 hdis ?_
  rintro r h6 hdis _ _ ⟨hI, hr⟩
  have q1 : hasE 0 (askN 8) (8 * ((LL s').length : Int) - 0) = 0 := by rw [hs']; decide
  rw [if_pos q1, q1] at hI
  rw [if_pos q1] at hr
  have q2 : valL (((bitsL (LL s')).drop (0 : Int).toNat).take (askN 8).toNat) = 69 := by rw [hs']; decide
  rw [q2] at hr
  subst hr
  simp (disch := first | (with_reducible assumption) | (simp; done) | omega | (simp; omega)) [hpo, hpi]
  have c7 := bits_c (n := 3) hI (by decide) (by rw [hs']; decide) (by rw [hs']; simp) hU
  refine CallK.fr c7 hdis ?_
  rintro r h7 hdis _ _ ⟨hI, hr⟩
  have q3 : hasE 0 (askN 3) (8 * ((LL s').length : Int) - (0 + askN 8)) = 0 := by rw [hs']; decide
  rw [if_pos q3, q3] at hI
  rw [if_pos q3] at hr
  have q4 : valL (((bitsL (LL s')).drop (0 + askN 8).toNat).take (askN 3).toNat) = 1 := by rw [hs']; decide
  rw [q4] at hr
  subst hr
  simp (disch := first | (with_reducible assumption) | (simp; done) | omega | (simp; omega)) [hpo, hpi]
  have c8 := left_c hI (by decide) (by rw [hs']; decide) (by rw [hs']; simp)
  refine CallK.fr c8 hdis ?_
  rintro r h8 hdis _ _ ⟨rfl, hr⟩
  have q5 : (if (0 : Int) = 0 then 8 * ((LL s').length : Int) - (0 + askN 8 + askN 3) else 0) = 5 := by rw [hs']; decide
  rw [q5] at hr
  subst hr
  simp (disch := first | (with_reducible assumption) | (simp; done) | omega | (simp; omega)) [hpo, hpi]
  refine hK5.out _ _ ?_
  exact ends_drop (by simp <;> rfl) (by simp) (hpost _ _ ⟨rfl, rfl⟩)

theorem awake_c (G : Hp) : ACalls Try.prog 19 [] G fun r G' => G' = G ∧ r = .bool true := awake_0.pure G

end Go.Proofs.Ytdpppigniaafnaa
