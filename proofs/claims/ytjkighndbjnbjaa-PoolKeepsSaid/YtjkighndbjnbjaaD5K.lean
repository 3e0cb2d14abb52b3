import Derived.Test.YtjkighndbjnbjaaD4K
set_option linter.unusedSimpArgs false
set_option linter.unusedVariables false
namespace Go.Proofs.Ytjkighndbjnbjaa
open Go Go.Al
set_option maxRecDepth 20000
attribute [local irreducible] awp aops aopsD eop pv ACalls CallK AppK AEnds ti

def overP (now : Int) (x : Int × Ls) : Bool := decide (x.2.u ≤ now)
theorem over_c {k : Int} {l : Ls} {now : Int} {tb : Nat} {F : Hp} (hF : F tb = some (0, [.int .i64 now])) : ACalls Try.prog 34 ([.int .u32 k, l.av] ++ [.ptr tb 0]) F fun r G' => G' = F ∧ r = .bool (overP now (k, l)) := by
  refine ACalls.hide fun post hpost => ?_
  refine F34_in (by simp) (by simp) fun hbd => ?_
  repeat' (first
    | refine awp_seqK fun K' hpK => ?_
    | refine awp_block ?_
    | refine awp_condG fun A' B' hpA hpB => ?_
    | refine useK (by with_reducible assumption) ?_
    | refine useP (by with_reducible assumption) ?_
    | refine ED_cons (fun _ => ?_) ?_
    | (refine stable_mk ?_; simp (disch := first | (with_reducible assumption) | (simp; done) | omega | (simp; omega)) [hF]; done)
    | (refine stable_no ?_; simp (disch := first | (with_reducible assumption) | (simp; done) | omega | (simp; omega)) [hF]; done)
    | (with_reducible refine And.intro ?_ ?_)
    | (with_reducible intro hc)
    | (with_reducible refine GDsplit (fun hc => ?_) (fun hc => ?_) <;> try simp [hc])
    | (with_reducible refine GDsplitN (fun hc => ?_) (fun hc => ?_) <;> try simp [hc])
    | (with_reducible refine GDsplitNB (fun hc => ?_) (fun hc => ?_) <;> try simp [hc])
    | (with_reducible refine GDsplitB (fun hc => ?_) (fun hc => ?_) <;> try simp [hc])
    | (with_reducible refine GKsplit (fun hc => ?_) (fun hc => ?_) <;> try simp [hc])
    | (with_reducible refine GKsplitN (fun hc => ?_) (fun hc => ?_) <;> try simp [hc])
    | (with_reducible refine GKsplitNB (fun hc => ?_) (fun hc => ?_) <;> try simp [hc])
    | (with_reducible refine GKsplitB (fun hc => ?_) (fun hc => ?_) <;> try simp [hc])
    | simp (disch := first | (with_reducible assumption) | (simp; done) | omega | (simp; omega)) [hF])
  exact ends_one (by simp <;> rfl) (by simp) (hpost _ _ ⟨rfl, rfl⟩)
set_option maxHeartbeats 1000000 in
theorem tick_c {q : PP} {pb : Nat} {G : Hp} {L : List (Int × Ls)} {now : Int} (hP : PH q pb G L) (hl : L.length ≤ 64) : ACalls Try.prog 18 [.ptr pb 0, .int .i64 now] G fun r G' => PH q pb G' (L.filter fun x => !overP now x) ∧ ∃ s, r = ofS cVL s ∧ LL s = (L.filter (overP now)).map Prod.snd := by
  obtain ⟨sb, h, rfl, hpb, hs⟩ := hP
  refine ACalls.hide fun post hpost => ?_
  refine F18_in (by simp) (by simp) fun hbd => ?_
  repeat' (first
    | refine awp_seqK fun K' hpK => ?_
    | refine awp_block ?_
    | refine awp_condG fun A' B' hpA hpB => ?_
    | refine useK (by with_reducible assumption) ?_
    | refine useP (by with_reducible assumption) ?_
    | refine ED_cons (fun _ => ?_) ?_
    | (refine stable_mk ?_; simp (disch := first | (with_reducible assumption) | (simp; done) | omega | (simp; omega)); done)
    | (refine stable_no ?_; simp (disch := first | (with_reducible assumption) | (simp; done) | omega | (simp; omega)); done)
    | (with_reducible refine And.intro ?_ ?_)
    | (with_reducible intro hc)
    | (with_reducible refine GDsplit (fun hc => ?_) (fun hc => ?_) <;> try simp [hc])
    | (with_reducible refine GDsplitN (fun hc => ?_) (fun hc => ?_) <;> try simp [hc])
    | (with_reducible refine GDsplitNB (fun hc => ?_) (fun hc => ?_) <;> try simp [hc])
    | (with_reducible refine GDsplitB (fun hc => ?_) (fun hc => ?_) <;> try simp [hc])
    | (with_reducible refine GKsplit (fun hc => ?_) (fun hc => ?_) <;> try simp [hc])
    | (with_reducible refine GKsplitN (fun hc => ?_) (fun hc => ?_) <;> try simp [hc])
    | (with_reducible refine GKsplitNB (fun hc => ?_) (fun hc => ?_) <;> try simp [hc])
    | (with_reducible refine GKsplitB (fun hc => ?_) (fun hc => ?_) <;> try simp [hc])
    | simp (disch := first | (with_reducible assumption) | (simp; done) | omega | (simp; omega)))
  intro tb htb
  refine ⟨0, ?_⟩
  have hne : tb ≠ pb := by rintro rfl; rw [setH_same] at htb; cases htb
  rw [setH_ne _ _ hne] at htb
  have e1 : setH (setH h pb (some (q.o sb))) tb (some (0, [.int .i64 now])) = uni (setH (one pb (q.o sb)) tb (some (0, [.int .i64 now]))) h := by
    rw [← uni_one pb (q.o sb) h, uni_swapF htb]
  have hdis : Dis (setH (one pb (q.o sb)) tb (some (0, [.int .i64 now]))) h := dis_set (dis_one.2 hpb) htb
  have hF : setH (one pb (q.o sb)) tb (some (0, [.int .i64 now])) tb = some (0, [.int .i64 now]) := setH_same ..
  have hFp : setH (setH h pb (some (q.o sb))) tb (some (0, [.int .i64 now])) pb = some (q.o sb) := by rw [setH_ne _ _ hne.symm, setH_same]
  unfold PP.o at hFp
  repeat' (first
    | refine awp_seqK fun K' hpK => ?_
    | refine awp_block ?_
    | refine awp_condG fun A' B' hpA hpB => ?_
    | refine useK (by with_reducible assumption) ?_
    | refine useP (by with_reducible assumption) ?_
    | refine ED_cons (fun _ => ?_) ?_
    | (refine stable_mk ?_; simp (disch := first | (with_reducible assumption) | (simp; done) | omega | (simp; omega)) [hFp, PP.o]; done)
    | (refine stable_no ?_; simp (disch := first | (with_reducible assumption) | (simp; done) | omega | (simp; omega)) [hFp, PP.o]; done)
    | (with_reducible refine And.intro ?_ ?_)
    | (with_reducible intro hc)
    | (with_reducible refine GDsplit (fun hc => ?_) (fun hc => ?_) <;> try simp [hc])
    | (with_reducible refine GDsplitN (fun hc => ?_) (fun hc => ?_) <;> try simp [hc])
    | (with_reducible refine GDsplitNB (fun hc => ?_) (fun hc => ?_) <;> try simp [hc])
    | (with_reducible refine GDsplitB (fun hc => ?_) (fun hc => ?_) <;> try simp [hc])
    | (with_reducible refine GKsplit (fun hc => ?_) (fun hc => ?_) <;> try simp [hc])
    | (with_reducible refine GKsplitN (fun hc => ?_) (fun hc => ?_) <;> try simp [hc])
    | (with_reducible refine GKsplitNB (fun hc => ?_) (fun hc => ?_) <;> try simp [hc])
    | (with_reducible refine GKsplitB (fun hc => ?_) (fun hc => ?_) <;> try simp [hc])
    | simp (disch := first | (with_reducible assumption) | (simp; done) | omega | (simp; omega)) [hFp, PP.o])
  have dc := dropL_c (f := 34) (caps := [.ptr tb 0]) (p := overP now) hs (by omega) hdis (by simp) (by simp) (fun x _ => over_c (l := x.2) hF)
  rw [← e1] at dc
  unfold PP.o at dc
  refine CallK.use dc ?_
  rintro r G2 _ _ ⟨h', rfl, hdis', hs', s, rfl, hss⟩
  have hsub : sub (setH h' pb (some (q.o sb))) (uni (setH (one pb (0, [.int .u32 q.base, .int .i64 q.n, .int .i64 q.ticks, .ptr sb 0])) tb (some (0, [.int .i64 now]))) h') := by
    rw [← uni_one pb (q.o sb) h']
    intro i o hi
    by_cases h1 : i = pb
    · subst h1
      rw [uni_left (one_same ..)] at hi
      rw [uni_left (by rw [setH_ne _ _ hne.symm]; exact one_same ..)]; exact hi
    · by_cases h2 : i = tb
      · subst h2
        rcases hdis' i with h3 | h3
        · rw [setH_same] at h3; cases h3
        · unfold uni one setH emptyH at hi; simp [h1, h3] at hi
      · unfold uni one setH emptyH at hi ⊢; simp [h1, h2] at hi ⊢; exact hi
  have hpb' : h' pb = none := by
    rcases hdis' pb with h3 | h3
    · rw [setH_ne _ _ hne.symm] at h3; rw [one_same] at h3; cases h3
    · exact h3
  repeat' (first
    | refine awp_seqK fun K' hpK => ?_
    | refine awp_block ?_
    | refine awp_condG fun A' B' hpA hpB => ?_
    | refine useK (by with_reducible assumption) ?_
    | refine useP (by with_reducible assumption) ?_
    | refine ED_cons (fun _ => ?_) ?_
    | (refine stable_mk ?_; simp (disch := first | (with_reducible assumption) | (simp; done) | omega | (simp; omega)); done)
    | (refine stable_no ?_; simp (disch := first | (with_reducible assumption) | (simp; done) | omega | (simp; omega)); done)
    | (with_reducible refine And.intro ?_ ?_)
    | (with_reducible intro hc)
    | (with_reducible refine GDsplit (fun hc => ?_) (fun hc => ?_) <;> try simp [hc])
    | (with_reducible refine GDsplitN (fun hc => ?_) (fun hc => ?_) <;> try simp [hc])
    | (with_reducible refine GDsplitNB (fun hc => ?_) (fun hc => ?_) <;> try simp [hc])
    | (with_reducible refine GDsplitB (fun hc => ?_) (fun hc => ?_) <;> try simp [hc])
    | (with_reducible refine GKsplit (fun hc => ?_) (fun hc => ?_) <;> try simp [hc])
    | (with_reducible refine GKsplitN (fun hc => ?_) (fun hc => ?_) <;> try simp [hc])
    | (with_reducible refine GKsplitNB (fun hc => ?_) (fun hc => ?_) <;> try simp [hc])
    | (with_reducible refine GKsplitB (fun hc => ?_) (fun hc => ?_) <;> try simp [hc])
    | simp (disch := first | (with_reducible assumption) | (simp; done) | omega | (simp; omega)))
  exact ends_one_sub (by simp <;> rfl) (by simp) hsub (hpost _ _ ⟨⟨sb, h', rfl, hpb', hs'⟩, s, rfl, hss⟩)

def putP (q : PP) (L : List (Int × Ls)) (l : Ls) : List (Int × Ls) × Int := if hasP q l.ip = false then (L, 7) else if (getL L l.ip).isSome = true ∨ (findP L l.mac).isSome = true then (L, 3) else (setL L l.ip l, 0)
set_option maxHeartbeats 1000000 in
theorem put_c {q : PP} {pb : Nat} {G : Hp} {L : List (Int × Ls)} {l : Ls} (hq : q.ok) (hP : PH q pb G L) (hok : LOk q L) (h0 : 0 ≤ l.ip) (h1 : l.ip ≤ 4294967295) : ACalls Try.prog 17 [.ptr pb 0, l.av] G fun r G' => PH q pb G' (putP q L l).1 ∧ r = .int .i64 (putP q L l).2 := by
  have hc := has_c hq hP h0 h1
  have hP0 := hP
  obtain ⟨sb, h, hG, hpb, hs⟩ := hP
  have hl : L.length ≤ 64 := Nat.le_trans (hok.len hs.2) hq.2.1
  have oc := of_c (ip := l.ip) hP0 hl
  have fc := find_c (m := l.mac) hP0 hl
  cases hh : hasP q l.ip with
  | false =>
    rw [hh] at hc
    have e : putP q L l = (L, 7) := by unfold putP; rw [if_pos hh]
    rw [e]
    refine ACalls.hide fun post hpost => ?_
    refine F17_in (by simp) (by simp) fun hbd => ?_
    repeat' (first
      | refine awp_seqK fun K' hpK => ?_
      | refine awp_block ?_
      | refine awp_condG fun A' B' hpA hpB => ?_
      | refine useK (by with_reducible assumption) ?_
      | refine useP (by with_reducible assumption) ?_
      | refine ED_cons (fun _ => ?_) ?_
      | (refine stable_mk ?_; simp (disch := first | (with_reducible assumption) | (simp; done) | omega | (simp; omega)); done)
      | (refine stable_no ?_; simp (disch := first | (with_reducible assumption) | (simp; done) | omega | (simp; omega)); done)
      | (with_reducible refine And.intro ?_ ?_)
      | (with_reducible intro hc; try (exfalso; omega))
      | (with_reducible refine GDsplit (fun hc => ?_) (fun hc => ?_) <;> try simp [hc])
      | (with_reducible refine GDsplitN (fun hc => ?_) (fun hc => ?_) <;> try simp [hc])
      | (with_reducible refine GDsplitNB (fun hc => ?_) (fun hc => ?_) <;> try simp [hc])
      | (with_reducible refine GDsplitB (fun hc => ?_) (fun hc => ?_) <;> try simp [hc])
      | (with_reducible refine GKsplit (fun hc => ?_) (fun hc => ?_) <;> try simp [hc])
      | (with_reducible refine GKsplitN (fun hc => ?_) (fun hc => ?_) <;> try simp [hc])
      | (with_reducible refine GKsplitNB (fun hc => ?_) (fun hc => ?_) <;> try simp [hc])
      | (with_reducible refine GKsplitB (fun hc => ?_) (fun hc => ?_) <;> try simp [hc])
      | (refine CallK.use (hc) ?_; rintro r G' _ _ ⟨rfl, rfl⟩)
      | simp (disch := first | (with_reducible assumption) | (simp; done) | omega | (simp; omega)))
    exact ends_one (by simp <;> rfl) (by simp) (hpost _ _ ⟨hP0, rfl⟩)
  | true =>
    rw [hh] at hc
    have e1 : ¬ hasP q l.ip = false := by rw [hh]; simp
    cases hg : (getL L l.ip).isSome with
    | true =>
      rw [hg] at oc
      have e : putP q L l = (L, 3) := by unfold putP; rw [if_neg e1, if_pos (.inl hg)]
      rw [e]
      refine ACalls.hide fun post hpost => ?_
      refine F17_in (by simp) (by simp) fun hbd => ?_
      repeat' (first
        | refine awp_seqK fun K' hpK => ?_
        | refine awp_block ?_
        | refine awp_condG fun A' B' hpA hpB => ?_
        | refine useK (by with_reducible assumption) ?_
        | refine useP (by with_reducible assumption) ?_
        | refine ED_cons (fun _ => ?_) ?_
        | (refine stable_mk ?_; simp (disch := first | (with_reducible assumption) | (simp; done) | omega | (simp; omega)); done)
        | (refine stable_no ?_; simp (disch := first | (with_reducible assumption) | (simp; done) | omega | (simp; omega)); done)
        | (with_reducible refine And.intro ?_ ?_)
        | (with_reducible intro hc; try (exfalso; omega))
        | (with_reducible refine GDsplit (fun hc => ?_) (fun hc => ?_) <;> try simp [hc])
        | (with_reducible refine GDsplitN (fun hc => ?_) (fun hc => ?_) <;> try simp [hc])
        | (with_reducible refine GDsplitNB (fun hc => ?_) (fun hc => ?_) <;> try simp [hc])
        | (with_reducible refine GDsplitB (fun hc => ?_) (fun hc => ?_) <;> try simp [hc])
        | (with_reducible refine GKsplit (fun hc => ?_) (fun hc => ?_) <;> try simp [hc])
        | (with_reducible refine GKsplitN (fun hc => ?_) (fun hc => ?_) <;> try simp [hc])
        | (with_reducible refine GKsplitNB (fun hc => ?_) (fun hc => ?_) <;> try simp [hc])
        | (with_reducible refine GKsplitB (fun hc => ?_) (fun hc => ?_) <;> try simp [hc])
        | (refine CallK.use (hc) ?_; rintro r G' _ _ ⟨rfl, rfl⟩)
        | (refine CallK.use (oc) ?_; rintro r G' _ _ ⟨rfl, rfl⟩)
        | (refine CallK.use (fc) ?_; rintro r G' _ _ ⟨rfl, rfl⟩)
        | simp (disch := first | (with_reducible assumption) | (simp; done) | omega | (simp; omega)))
      exact ends_one (by simp <;> rfl) (by simp) (hpost _ _ ⟨hP0, rfl⟩)
    | false =>
      rw [hg] at oc
      cases hf : (findP L l.mac).isSome with
      | true =>
        rw [hf] at fc
        have e : putP q L l = (L, 3) := by unfold putP; rw [if_neg e1, if_pos (.inr hf)]
        rw [e]
        refine ACalls.hide fun post hpost => ?_
        refine F17_in (by simp) (by simp) fun hbd => ?_
        repeat' (first
          | refine awp_seqK fun K' hpK => ?_
          | refine awp_block ?_
          | refine awp_condG fun A' B' hpA hpB => ?_
          | refine useK (by with_reducible assumption) ?_
          | refine useP (by with_reducible assumption) ?_
          | refine ED_cons (fun _ => ?_) ?_
          | (refine stable_mk ?_; simp (disch := first | (with_reducible assumption) | (simp; done) | omega | (simp; omega)); done)
          | (refine stable_no ?_; simp (disch := first | (with_reducible assumption) | (simp; done) | omega | (simp; omega)); done)
          | (with_reducible refine And.intro ?_ ?_)
          | (with_reducible intro hc; try (exfalso; omega))
          | (with_reducible refine GDsplit (fun hc => ?_) (fun hc => ?_) <;> try simp [hc])
          | (with_reducible refine GDsplitN (fun hc => ?_) (fun hc => ?_) <;> try simp [hc])
          | (with_reducible refine GDsplitNB (fun hc => ?_) (fun hc => ?_) <;> try simp [hc])
          | (with_reducible refine GDsplitB (fun hc => ?_) (fun hc => ?_) <;> try simp [hc])
          | (with_reducible refine GKsplit (fun hc => ?_) (fun hc => ?_) <;> try simp [hc])
          | (with_reducible refine GKsplitN (fun hc => ?_) (fun hc => ?_) <;> try simp [hc])
          | (with_reducible refine GKsplitNB (fun hc => ?_) (fun hc => ?_) <;> try simp [hc])
          | (with_reducible refine GKsplitB (fun hc => ?_) (fun hc => ?_) <;> try simp [hc])
          | (refine CallK.use (hc) ?_; rintro r G' _ _ ⟨rfl, rfl⟩)
          | (refine CallK.use (oc) ?_; rintro r G' _ _ ⟨rfl, rfl⟩)
          | (refine CallK.use (fc) ?_; rintro r G' _ _ ⟨rfl, rfl⟩)
          | simp (disch := first | (with_reducible assumption) | (simp; done) | omega | (simp; omega)))
        exact ends_one (by simp <;> rfl) (by simp) (hpost _ _ ⟨hP0, rfl⟩)
      | false =>
        rw [hf] at fc
        have e : putP q L l = (setL L l.ip l, 0) := by unfold putP; rw [if_neg e1, if_neg (by simp [hg, hf])]
        rw [e]
        have sc := (setP (v := l) hq hs hok hh rfl).frame1 (o := q.o sb) hpb
        subst hG
        unfold PP.o at sc hc oc fc ⊢
        refine ACalls.hide fun post hpost => ?_
        refine F17_in (by simp) (by simp) fun hbd => ?_
        repeat' (first
          | refine awp_seqK fun K' hpK => ?_
          | refine awp_block ?_
          | refine awp_condG fun A' B' hpA hpB => ?_
          | refine useK (by with_reducible assumption) ?_
          | refine useP (by with_reducible assumption) ?_
          | refine ED_cons (fun _ => ?_) ?_
          | (refine stable_mk ?_; simp (disch := first | (with_reducible assumption) | (simp; done) | omega | (simp; omega)); done)
          | (refine stable_no ?_; simp (disch := first | (with_reducible assumption) | (simp; done) | omega | (simp; omega)); done)
          | (with_reducible refine And.intro ?_ ?_)
          | (with_reducible intro hc; try (exfalso; omega))
          | (with_reducible refine GDsplit (fun hc => ?_) (fun hc => ?_) <;> try simp [hc])
          | (with_reducible refine GDsplitN (fun hc => ?_) (fun hc => ?_) <;> try simp [hc])
          | (with_reducible refine GDsplitNB (fun hc => ?_) (fun hc => ?_) <;> try simp [hc])
          | (with_reducible refine GDsplitB (fun hc => ?_) (fun hc => ?_) <;> try simp [hc])
          | (with_reducible refine GKsplit (fun hc => ?_) (fun hc => ?_) <;> try simp [hc])
          | (with_reducible refine GKsplitN (fun hc => ?_) (fun hc => ?_) <;> try simp [hc])
          | (with_reducible refine GKsplitNB (fun hc => ?_) (fun hc => ?_) <;> try simp [hc])
          | (with_reducible refine GKsplitB (fun hc => ?_) (fun hc => ?_) <;> try simp [hc])
          | (refine CallK.use (hc) ?_; rintro r G' _ _ ⟨rfl, rfl⟩)
          | (refine CallK.use (oc) ?_; rintro r G' _ _ ⟨rfl, rfl⟩)
          | (refine CallK.use (fc) ?_; rintro r G' _ _ ⟨rfl, rfl⟩)
          | (refine CallK.use (sc) ?_; rintro r G' _ _ ⟨h3, hnb3, rfl, hs3, rfl⟩)
          | simp (disch := first | (with_reducible assumption) | (simp; done) | omega | (simp; omega)))
        exact ends_one (by simp <;> rfl) (by simp) (hpost _ _ ⟨⟨sb, h3, rfl, hnb3, hs3⟩, rfl⟩)
end Go.Proofs.Ytjkighndbjnbjaa
