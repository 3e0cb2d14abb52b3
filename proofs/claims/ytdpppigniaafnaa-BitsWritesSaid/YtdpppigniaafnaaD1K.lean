import Derived.Test.YtdpppigniaafnaaAl1
import Derived.Test.YtdpppigniaafnaaC1K
import Derived.Test.YtdpppigniaafnaaC2K
import Derived.Test.YtdpppigniaafnaaC3K
set_option linter.unusedSimpArgs false
set_option linter.unusedVariables false
namespace Go.Proofs.Ytdpppigniaafnaa
open Go Go.Al
set_option maxRecDepth 20000

theorem right_c {n : Int} {G : Hp} : ACalls Try.prog 10 [.int .i64 n] G fun r G' => G' = G ∧ r = .bool (decide (1 ≤ n ∧ n ≤ 64)) := by
  refine ACalls.hide fun post hpost => ?_
  refine F10_in (by simp) (by simp) fun hb => ?_
  unfold F10
  refine awp_seqH fun K1 hK1 => ?_
  simp (disch := first | (with_reducible assumption) | (simp; done) | omega | (simp; omega)) [F10_r0]
  refine hK1.out _ _ ?_
  refine awp_seqH fun K2 hK2 => ?_
  by_cases h0 : 1 ≤ n
  · simp (disch := first | (with_reducible assumption) | (simp; done) | omega | (simp; omega)) [F10_r1, h0]
    refine hK2.out _ _ ?_
    exact ends_one (by simp <;> rfl) (by simp) (hpost _ _ ⟨rfl, by simp [h0]⟩)
  · simp (disch := first | (with_reducible assumption) | (simp; done) | omega | (simp; omega)) [F10_r1, h0]
    refine hK2.out _ _ ?_
    exact ends_one (by simp <;> rfl) (by simp) (hpost _ _ ⟨rfl, by simp [h0]⟩)

/- bytes.Clone -/
theorem clone_c {out : AV} {bs : List Int} {G : Hp} (hp : out.plain = true) (hs : srcCells G 1 out = some (bs.length, bs.flatMap cB)) (hn : out = .nils ∨ eqv Try.prog 32 out .nils = some false) (hl : bs.length ≤ 1000000) :
    ACalls Try.prog 34 [out] G fun r G' => G' = G ∧ ∃ s, r = ofS cB s ∧ LL s = bs := by
  refine ACalls.hide fun post hpost => ?_
  refine F34_in (by simp [hp]) (by simp) fun hb => ?_
  unfold F34
  refine awp_seqH fun K1 hK1 => ?_
  simp (disch := first | (with_reducible assumption) | (simp; done) | omega | (simp; omega)) [F34_r0]
  refine hK1.out _ _ ?_
  refine awp_seqH fun K2 hK2 => ?_
  refine awp_seqH fun K3 hK3 => ?_
  rcases hn with rfl | hn
  · simp (disch := first | (with_reducible assumption) | (simp; done) | omega | (simp; omega)) [F34_r1]
    refine hK3.out _ _ ?_
    refine awp_cond (t := true) (by simp) (fun _ => ?_) (fun h => by cases h)
    refine awp_seqH fun K4 hK4 => ?_
    simp (disch := first | (with_reducible assumption) | (simp; done) | omega | (simp; omega)) [F34_r2]
    refine hK4.out _ _ ?_
    have : bs = [] := by
      simp [srcCells] at hs
      exact List.eq_nil_of_length_eq_zero hs.1.symm
    subst this
    exact ends_one (by simp <;> rfl) (by simp) (hpost _ _ ⟨rfl, none, rfl, rfl⟩)
  · simp (disch := first | (with_reducible assumption) | (simp; done) | omega | (simp; omega)) [F34_r1, hn, hp]
    refine hK3.out _ _ ?_
    refine awp_cond (t := false) (by simp) (fun h => by cases h) (fun _ => ?_)
    simp (disch := first | (with_reducible assumption) | (simp; done) | omega | (simp; omega)) []
    refine hK2.out _ _ ?_
    refine awp_seqH fun K4 hK4 => ?_
    simp (disch := first | (with_reducible assumption) | (simp; done) | omega | (simp; omega)) [F34_r3, hp]
    intro b hb0
    refine ⟨0, ?_⟩
    simp (disch := first | (with_reducible assumption) | (simp; done) | omega | (simp; omega)) [hp]
    have hs' : srcCells (setH G b (some (0, []))) 1 out = some (bs.length, bs.flatMap cB) := by
      rw [← hs]
      cases out <;> try rfl
      rename_i c off n sz
      have : c ≠ b := by
        rintro rfl
        simp only [srcCells] at hs
        split at hs
        · rw [hb0] at hs; cases hs
        · cases hs
      simp only [srcCells, setH_ne _ _ this]
    refine (Grow.fresh (f := cB) (sz := 1) hb0).app hs' (cB_scal _) (by simp [LIM]; omega) (fun v G2 hg => ?_) (hy := hp)
    have hv := hg.plain
    simp (disch := first | (with_reducible assumption) | (simp; done) | omega | (simp; omega)) []
    refine hK4.out _ _ ?_
    refine hg.ends (by simp) cB_plain (by simp) fun s hs => hpost _ _ ⟨rfl, s, rfl, by simpa using hs⟩


/- In -/
/-- what reads: its bytes, where it stands, what was wrong -/
def InH (p : AV) (h : Hp) (s : Option (List Int)) (a e : Int) : Prop := ∃ ib, p = .ptr ib 0 ∧ h = one ib (0, [ofS cB s, .int .i64 a, .int .i64 e])

theorem of_c {s : Option (List Int)} (hl : (LL s).length ≤ 1000000) : ACalls Try.prog 12 [ofS cB s] emptyH fun r h' => ∃ s', LL s' = LL s ∧ InH r h' s' 0 0 := by
  refine ACalls.hide fun post hpost => ?_
  refine F12_in (by simp) (by simp) fun hb => ?_
  unfold F12
  refine awp_seqH fun K1 hK1 => ?_
  simp (disch := first | (with_reducible assumption) | (simp; done) | omega | (simp; omega)) [F12_r0]
  refine hK1.out _ _ ?_
  refine awp_seqH fun K2 hK2 => ?_
  simp (disch := first | (with_reducible assumption) | (simp; done) | omega | (simp; omega)) [F12_r1]
  have hc := clone_c (out := ofS cB s) (bs := LL s) (G := emptyH) (by simp) (ofS_src (by simp)) (by cases s; exact .inl rfl; right; simp [ofS]) hl
  refine CallK.use hc ?_
  rintro r G' hbd hpl ⟨rfl, s', rfl, hs'⟩
  simp (disch := first | (with_reducible assumption) | (simp; done) | omega | (simp; omega)) []
  intro b hb0
  refine ⟨0, ?_⟩
  simp (disch := first | (with_reducible assumption) | (simp; done) | omega | (simp; omega)) []
  refine hK2.out _ _ ?_
  exact ends_one (by simp <;> rfl) (by simp) (hpost _ _ ⟨s', hs', b, rfl, rfl⟩)

section
variable {p : AV} {h : Hp} {s : Option (List Int)} {a e : Int}

theorem err_c (hi : InH p h s a e) : ACalls Try.prog 17 [p] h fun r h' => h' = h ∧ r = .int .i64 e := by
  obtain ⟨ib, rfl, rfl⟩ := hi
  refine ACalls.hide fun post hpost => ?_
  refine F17_in (by simp) (by simp) fun hb => ?_
  unfold F17
  refine awp_seqH fun K1 hK1 => ?_
  simp (disch := first | (with_reducible assumption) | (simp; done) | omega | (simp; omega)) [F17_r0]
  refine hK1.out _ _ ?_
  refine awp_seqH fun K2 hK2 => ?_
  refine awp_seqH fun K3 hK3 => ?_
  simp (disch := first | (with_reducible assumption) | (simp; done) | omega | (simp; omega)) [F17_r1]
  refine hK3.out _ _ ?_
  refine awp_cond (t := false) (by simp) (fun h => by cases h) (fun _ => ?_)
  simp (disch := first | (with_reducible assumption) | (simp; done) | omega | (simp; omega)) []
  refine hK2.out _ _ ?_
  refine awp_seqH fun K4 hK4 => ?_
  simp (disch := first | (with_reducible assumption) | (simp; done) | omega | (simp; omega)) [F17_r3]
  refine hK4.out _ _ ?_
  exact ends_one (by simp <;> rfl) (by simp) (hpost _ _ ⟨rfl, rfl⟩)

theorem inAt_c (hi : InH p h s a e) : ACalls Try.prog 21 [p] h fun r h' => h' = h ∧ r = .int .i64 a := by
  obtain ⟨ib, rfl, rfl⟩ := hi
  refine ACalls.hide fun post hpost => ?_
  refine F21_in (by simp) (by simp) fun hb => ?_
  unfold F21
  refine awp_seqH fun K1 hK1 => ?_
  simp (disch := first | (with_reducible assumption) | (simp; done) | omega | (simp; omega)) [F21_r0]
  refine hK1.out _ _ ?_
  refine awp_seqH fun K2 hK2 => ?_
  refine awp_seqH fun K3 hK3 => ?_
  simp (disch := first | (with_reducible assumption) | (simp; done) | omega | (simp; omega)) [F21_r1]
  refine hK3.out _ _ ?_
  refine awp_cond (t := false) (by simp) (fun h => by cases h) (fun _ => ?_)
  simp (disch := first | (with_reducible assumption) | (simp; done) | omega | (simp; omega)) []
  refine hK2.out _ _ ?_
  refine awp_seqH fun K4 hK4 => ?_
  simp (disch := first | (with_reducible assumption) | (simp; done) | omega | (simp; omega)) [F21_r3]
  refine hK4.out _ _ ?_
  exact ends_one (by simp <;> rfl) (by simp) (hpost _ _ ⟨rfl, rfl⟩)

theorem left_c (hi : InH p h s a e) (h0 : 0 ≤ a) (h1 : a ≤ 8 * (LL s).length) (hl : (LL s).length ≤ 1000000) : ACalls Try.prog 18 [p] h fun r h' => h' = h ∧ r = .int .i64 (if e = 0 then 8 * (LL s).length - a else 0) := by
  obtain ⟨ib, rfl, rfl⟩ := hi
  refine ACalls.hide fun post hpost => ?_
  refine F18_in (by simp) (by simp) fun hb => ?_
  unfold F18
  refine awp_seqH fun K1 hK1 => ?_
  simp (disch := first | (with_reducible assumption) | (simp; done) | omega | (simp; omega)) [F18_r0]
  refine hK1.out _ _ ?_
  refine awp_seqH fun K2 hK2 => ?_
  refine awp_seqH fun K3 hK3 => ?_
  simp (disch := first | (with_reducible assumption) | (simp; done) | omega | (simp; omega)) [F18_r1]
  refine hK3.out _ _ ?_
  refine awp_cond (t := !decide (e = 0)) (by simp) (fun h => ?_) (fun h => ?_)
  · have he : ¬ e = 0 := by simpa using h
    refine awp_seqH fun K4 hK4 => ?_
    simp (disch := first | (with_reducible assumption) | (simp; done) | omega | (simp; omega)) [F18_r2]
    refine hK4.out _ _ ?_
    exact ends_one (by simp <;> rfl) (by simp) (hpost _ _ ⟨rfl, by simp [he]⟩)
  · have he : e = 0 := by simpa using h
    simp (disch := first | (with_reducible assumption) | (simp; done) | omega | (simp; omega)) []
    refine hK2.out _ _ ?_
    refine awp_seqH fun K4 hK4 => ?_
    simp (disch := first | (with_reducible assumption) | (simp; done) | omega | (simp; omega)) [F18_r3]
    refine hK4.out _ _ ?_
    exact ends_one (by simp <;> rfl) (by simp) (hpost _ _ ⟨rfl, by simp [he]⟩)

/-- what is wrong behind a question for n where m are left -/
def hasE (e n m : Int) : Int := if e = 0 then (if n < 0 then 1 else if m < n then 7 else 0) else e

theorem has_c {n : Int} (hi : InH p h s a e) (h0 : 0 ≤ a) (h1 : a ≤ 8 * (LL s).length) (hl : (LL s).length ≤ 1000000) :
    ACalls Try.prog 35 [p, .int .i64 n] h fun r h' => InH p h' s a (hasE e n (8 * (LL s).length - a)) ∧ r = .bool (decide (hasE e n (8 * (LL s).length - a) = 0)) := by
  obtain ⟨ib, rfl, rfl⟩ := hi
  refine ACalls.hide fun post hpost => ?_
  refine F35_in (by simp) (by simp) fun hb => ?_
  unfold F35
  refine awp_seqH fun K1 hK1 => ?_
  simp (disch := first | (with_reducible assumption) | (simp; done) | omega | (simp; omega)) [F35_r0]
  refine hK1.out _ _ ?_
  refine awp_seqH fun K2 hK2 => ?_
  refine awp_seqH fun K3 hK3 => ?_
  simp (disch := first | (with_reducible assumption) | (simp; done) | omega | (simp; omega)) [F35_r1]
  refine hK3.out _ _ ?_
  refine awp_cond (t := !decide (e = 0)) (by simp) (fun h => ?_) (fun h => ?_)
  · have he : ¬ e = 0 := by simpa using h
    refine awp_seqH fun K4 hK4 => ?_
    simp (disch := first | (with_reducible assumption) | (simp; done) | omega | (simp; omega)) [F35_r2]
    refine hK4.out _ _ ?_
    exact ends_one (by simp <;> rfl) (by simp) (hpost _ _ ⟨⟨ib, rfl, by simp [hasE, he]⟩, by simp [hasE, he]⟩)
  · have he : e = 0 := by simpa using h
    subst he
    simp (disch := first | (with_reducible assumption) | (simp; done) | omega | (simp; omega)) []
    refine hK2.out _ _ ?_
    refine awp_seqH fun K4 hK4 => ?_
    refine awp_block ?_
    refine awp_seqH fun K5 hK5 => ?_
    simp (disch := first | (with_reducible assumption) | (simp; done) | omega | (simp; omega)) [F35_r3]
    refine hK5.out _ _ ?_
    refine awp_cond (t := decide (n < 0)) (by simp) (fun hn => ?_) (fun hn => ?_)
    · have hn : n < 0 := by simpa using hn
      simp (disch := first | (with_reducible assumption) | (simp; done) | omega | (simp; omega)) [F35_r4]
      refine hK4.out _ _ ?_
      refine awp_seqH fun K6 hK6 => ?_
      simp (disch := first | (with_reducible assumption) | (simp; done) | omega | (simp; omega)) [F35_r7]
      refine hK6.out _ _ ?_
      exact ends_one (by simp <;> rfl) (by simp) (hpost _ _ ⟨⟨ib, rfl, by simp [hasE, hn]⟩, by simp [hasE, hn]⟩)
    · have hn : ¬ n < 0 := by simpa using hn
      refine awp_seqH fun K6 hK6 => ?_
      simp (disch := first | (with_reducible assumption) | (simp; done) | omega | (simp; omega)) [F35_r5]
      refine hK6.out _ _ ?_
      refine awp_cond (t := decide (8 * ((LL s).length : Int) - a < n)) (by simp) (fun hm => ?_) (fun hm => ?_)
      · have hm : 8 * ((LL s).length : Int) - a < n := by simpa using hm
        simp (disch := first | (with_reducible assumption) | (simp; done) | omega | (simp; omega)) [F35_r6]
        refine hK4.out _ _ ?_
        refine awp_seqH fun K7 hK7 => ?_
        simp (disch := first | (with_reducible assumption) | (simp; done) | omega | (simp; omega)) [F35_r7]
        refine hK7.out _ _ ?_
        exact ends_one (by simp <;> rfl) (by simp) (hpost _ _ ⟨⟨ib, rfl, by simp [hasE, hn, hm]⟩, by simp [hasE, hn, hm]⟩)
      · have hm : ¬ 8 * ((LL s).length : Int) - a < n := by simpa using hm
        simp (disch := first | (with_reducible assumption) | (simp; done) | omega | (simp; omega)) []
        refine hK4.out _ _ ?_
        refine awp_seqH fun K7 hK7 => ?_
        simp (disch := first | (with_reducible assumption) | (simp; done) | omega | (simp; omega)) [F35_r7]
        refine hK7.out _ _ ?_
        exact ends_one (by simp <;> rfl) (by simp) (hpost _ _ ⟨⟨ib, rfl, by simp [hasE, hn, hm]⟩, by simp [hasE, hn, hm]⟩)

theorem skip_c {n : Int} (hi : InH p h s a e) (h0 : 0 ≤ a) (h1 : a ≤ 8 * (LL s).length) (hl : (LL s).length ≤ 1000000) :
    ACalls Try.prog 20 [p, .int .i64 n] h fun r h' => InH p h' s (if hasE e n (8 * (LL s).length - a) = 0 then a + n else a) (hasE e n (8 * (LL s).length - a)) := by
  have hc := has_c (n := n) hi h0 h1 hl
  obtain ⟨ib, rfl, rfl⟩ := hi
  refine ACalls.hide fun post hpost => ?_
  refine F20_in (by simp) (by simp) fun hb => ?_
  unfold F20
  refine awp_seqH fun K1 hK1 => ?_
  simp (disch := first | (with_reducible assumption) | (simp; done) | omega | (simp; omega)) [F20_r0]
  refine CallK.use hc ?_
  rintro r G' hbd hpl ⟨⟨ib', hib, rfl⟩, rfl⟩
  injection hib with hib; subst hib
  simp (disch := first | (with_reducible assumption) | (simp; done) | omega | (simp; omega)) []
  refine hK1.out _ _ ?_
  generalize hq : hasE e n (8 * ((LL s).length : Int) - a) = q at *
  refine awp_cond (t := decide (q = 0)) (by simp) (fun hm => ?_) (fun hm => ?_)
  · have hm : q = 0 := by simpa using hm
    subst hm
    have hr : e = 0 ∧ 0 ≤ n ∧ n ≤ 8 * ((LL s).length : Int) - a := by
      unfold hasE at hq
      split at hq
      · split at hq
        · omega
        · split at hq
          · omega
          · omega
      · contradiction
    simp (disch := first | (with_reducible assumption) | (simp; done) | omega | (simp; omega)) [F20_r1]
    exact ends_noneN (hpost _ _ ⟨ib, rfl, by simp⟩)
  · have hm : ¬ q = 0 := by simpa using hm
    simp (disch := first | (with_reducible assumption) | (simp; done) | omega | (simp; omega)) []
    exact ends_noneN (hpost _ _ ⟨ib, rfl, by simp [hm]⟩)
end

end Go.Proofs.Ytdpppigniaafnaa
