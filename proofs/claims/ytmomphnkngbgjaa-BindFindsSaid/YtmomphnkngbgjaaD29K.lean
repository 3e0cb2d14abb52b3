import Derived.Test.YtmomphnkngbgjaaD28K
set_option linter.unusedSimpArgs false
set_option linter.unusedVariables false
namespace Go.Proofs.Ytmomphnkngbgjaa
open Go Go.Al
set_option maxRecDepth 20000
attribute [local irreducible] awp aops aopsD eop pv ACalls CallK AppK AEnds ti

set_option maxHeartbeats 4000000 in
theorem same_c {pb : Nat} {G : Hp} {L : List (Int × Bd)} {t : Option (List Bd)} {kd sw port n : Int} {b : Bd} {nm : ByteArray} (hP : TH pb G L) (hl : L.length ≤ 64) (ht : LL t = L.map Prod.snd) : ACalls Try.prog 15 [.ptr pb 0, ofS cVB t, .agg [.int .i64 kd, .int .u64 b.mac, .int .u32 b.ip, .int .i64 b.sw, .int .i64 b.port, .str b.host, .str b.user, .int .i64 b.u, .int .i64 sw, .int .i64 port, .str nm, .int .i64 n]] G fun r G' => G' = G ∧ r = .bool true := by
  have htl : (LL t).length ≤ 64 := by rw [ht, List.length_map]; exact hl
  have c1 := check_c (sw := b.sw) (port := b.port) (mac := b.mac) (ip := b.ip) hP hl
  have c2 := fun G => rcheck_c (s := t) (sw := b.sw) (port := b.port) (mac := b.mac) (ip := b.ip) (G := G) (by omega)
  have o1 := of_c (ip := b.ip) hP hl
  have o2 := fun G => rof_c (s := t) (ip := b.ip) (G := G) (by omega)
  have a1 := tat_c (sw := sw) (port := port) hP hl
  have a2 := fun G => rat_c (s := t) (sw := sw) (port := port) (G := G) (by omega)
  rw [checkB_eq] at c1
  unfold atB at c1 a1
  unfold ofB at o1
  rw [← ht] at c1 o1 a1
  obtain ⟨k1, hk1⟩ : ∃ k, k = chkO ((LL t).find? fun x => decide (x.sw = b.sw ∧ x.port = b.port)) b.mac b.ip := ⟨_, rfl⟩
  obtain ⟨k2, hk2⟩ : ∃ k, k = (LL t).find? fun x => decide (x.ip = b.ip) := ⟨_, rfl⟩
  obtain ⟨k3, hk3⟩ : ∃ k, k = (LL t).find? fun x => decide (x.sw = sw ∧ x.port = port) := ⟨_, rfl⟩
  simp only [← hk1] at c1 c2
  simp only [← hk2] at o1 o2
  simp only [← hk3] at a1 a2
  have ac := all_c hP hl
  have pc := fun G x => plain_c (b := x) (G := G)
  simp only [Bd.av] at c1 c2 o1 o2 a1 a2 pc
  refine ACalls.hide fun post hpost => ?_
  refine F15_in (by simp) (by simp) fun hbd => ?_
  repeat' (first
    | refine awp_seqK fun K' hpK => ?_
    | refine awp_block ?_
    | refine awp_condG fun A' B' hpA hpB => ?_
    | refine useK (by with_reducible assumption) ?_
    | refine useP (by with_reducible assumption) ?_
    | refine ED_cons (fun _ => ?_) ?_
    | (refine stable_mk ?_; simp (disch := first | (with_reducible assumption) | (simp; done) | omega | (simp; omega)); done)
    | (refine stable_no ?_; simp (disch := first | (with_reducible assumption) | (simp; done) | omega | (simp; omega)); done)
    | (with_reducible refine And.intro ?_ ?_)
    | (with_reducible intro hc)
    | (with_reducible refine GDsplit (fun hc => ?_) (fun hc => ?_) <;> try simp [hc])
    | (with_reducible refine GDsplitN (fun hc => ?_) (fun hc => ?_) <;> try simp [hc])
    | (with_reducible refine GDsplitNB (fun hc => ?_) (fun hc => ?_) <;> try simp [hc])
    | (with_reducible refine GDsplitB (fun hc => ?_) (fun hc => ?_) <;> try simp [hc])
    | (with_reducible refine GKsplit (fun hc => ?_) (fun hc => ?_) <;> try simp [hc])
    | (with_reducible refine GKsplitN (fun hc => ?_) (fun hc => ?_) <;> try simp [hc])
    | (with_reducible refine GKsplitNB (fun hc => ?_) (fun hc => ?_) <;> try simp [hc])
    | (with_reducible refine GKsplitB (fun hc => ?_) (fun hc => ?_) <;> try simp [hc])
    | (refine CallK.use (c1) ?_; rintro r G' _ _ ⟨rfl, rfl⟩)
    | (refine CallK.use (c2 _) ?_; rintro r G' _ _ ⟨rfl, rfl⟩)
    | (refine CallK.use (o1) ?_; rintro r G' _ _ ⟨rfl, rfl⟩)
    | (refine CallK.use (o2 _) ?_; rintro r G' _ _ ⟨rfl, rfl⟩)
    | (refine CallK.use (a1) ?_; rintro r G' _ _ ⟨rfl, rfl⟩)
    | (refine CallK.use (a2 _) ?_; rintro r G' _ _ ⟨rfl, rfl⟩)
    | simp (disch := first | (with_reducible assumption) | (simp; done) | omega | (simp; omega)))
  repeat' (first
    | refine awp_seqK fun K' hpK => ?_
    | refine awp_block ?_
    | refine awp_condG fun A' B' hpA hpB => ?_
    | refine useK (by with_reducible assumption) ?_
    | refine useP (by with_reducible assumption) ?_
    | refine ED_cons (fun _ => ?_) ?_
    | (refine stable_mk ?_; simp (disch := first | (with_reducible assumption) | (simp; done) | omega | (simp; omega)); done)
    | (refine stable_no ?_; simp (disch := first | (with_reducible assumption) | (simp; done) | omega | (simp; omega)); done)
    | (with_reducible refine And.intro ?_ ?_)
    | (with_reducible intro hc)
    | (with_reducible refine GDsplit (fun hc => ?_) (fun hc => ?_) <;> try simp [hc])
    | (with_reducible refine GDsplitN (fun hc => ?_) (fun hc => ?_) <;> try simp [hc])
    | (with_reducible refine GDsplitNB (fun hc => ?_) (fun hc => ?_) <;> try simp [hc])
    | (with_reducible refine GDsplitB (fun hc => ?_) (fun hc => ?_) <;> try simp [hc])
    | (with_reducible refine GKsplit (fun hc => ?_) (fun hc => ?_) <;> try simp [hc])
    | (with_reducible refine GKsplitN (fun hc => ?_) (fun hc => ?_) <;> try simp [hc])
    | (with_reducible refine GKsplitNB (fun hc => ?_) (fun hc => ?_) <;> try simp [hc])
    | (with_reducible refine GKsplitB (fun hc => ?_) (fun hc => ?_) <;> try simp [hc])
    | (refine CallK.use (plain_c (b := k1.1) (G := _)) ?_; rintro r G' _ _ ⟨rfl, rfl⟩)
    | (refine CallK.use (plain_c (b := k2.getD b0) (G := _)) ?_; rintro r G' _ _ ⟨rfl, rfl⟩)
    | (refine CallK.use (plain_c (b := k3.getD b0) (G := _)) ?_; rintro r G' _ _ ⟨rfl, rfl⟩)
    | simp (disch := first | (with_reducible assumption) | (simp; done) | omega | (simp; omega)))
  refine CallK.use ac ?_
  rintro r G2 _ _ ⟨rfl, a, rfl, ha⟩
  repeat' (first
    | refine awp_seqK fun K' hpK => ?_
    | refine awp_block ?_
    | refine awp_condG fun A' B' hpA hpB => ?_
    | refine useK (by with_reducible assumption) ?_
    | refine useP (by with_reducible assumption) ?_
    | refine ED_cons (fun _ => ?_) ?_
    | (refine stable_mk ?_; simp (disch := first | (with_reducible assumption) | (simp; done) | omega | (simp; omega)); done)
    | (refine stable_no ?_; simp (disch := first | (with_reducible assumption) | (simp; done) | omega | (simp; omega)); done)
    | (with_reducible refine And.intro ?_ ?_)
    | (with_reducible intro hc)
    | (with_reducible refine GDsplit (fun hc => ?_) (fun hc => ?_) <;> try simp [hc])
    | (with_reducible refine GDsplitN (fun hc => ?_) (fun hc => ?_) <;> try simp [hc])
    | (with_reducible refine GDsplitNB (fun hc => ?_) (fun hc => ?_) <;> try simp [hc])
    | (with_reducible refine GDsplitB (fun hc => ?_) (fun hc => ?_) <;> try simp [hc])
    | (with_reducible refine GKsplit (fun hc => ?_) (fun hc => ?_) <;> try simp [hc])
    | (with_reducible refine GKsplitN (fun hc => ?_) (fun hc => ?_) <;> try simp [hc])
    | (with_reducible refine GKsplitNB (fun hc => ?_) (fun hc => ?_) <;> try simp [hc])
    | (with_reducible refine GKsplitB (fun hc => ?_) (fun hc => ?_) <;> try simp [hc])
    | simp (disch := first | (with_reducible assumption) | (simp; done) | omega | (simp; omega)))
  refine CallK.use (plainL_c (s := a) (by rw [ha, List.length_map]; omega)) ?_
  rintro r G3 _ _ ⟨rfl, a2', rfl, ha2⟩
  repeat' (first
    | refine awp_seqK fun K' hpK => ?_
    | refine awp_block ?_
    | refine awp_condG fun A' B' hpA hpB => ?_
    | refine useK (by with_reducible assumption) ?_
    | refine useP (by with_reducible assumption) ?_
    | refine ED_cons (fun _ => ?_) ?_
    | (refine stable_mk ?_; simp (disch := first | (with_reducible assumption) | (simp; done) | omega | (simp; omega)); done)
    | (refine stable_no ?_; simp (disch := first | (with_reducible assumption) | (simp; done) | omega | (simp; omega)); done)
    | (with_reducible refine And.intro ?_ ?_)
    | (with_reducible intro hc)
    | (with_reducible refine GDsplit (fun hc => ?_) (fun hc => ?_) <;> try simp [hc])
    | (with_reducible refine GDsplitN (fun hc => ?_) (fun hc => ?_) <;> try simp [hc])
    | (with_reducible refine GDsplitNB (fun hc => ?_) (fun hc => ?_) <;> try simp [hc])
    | (with_reducible refine GDsplitB (fun hc => ?_) (fun hc => ?_) <;> try simp [hc])
    | (with_reducible refine GKsplit (fun hc => ?_) (fun hc => ?_) <;> try simp [hc])
    | (with_reducible refine GKsplitN (fun hc => ?_) (fun hc => ?_) <;> try simp [hc])
    | (with_reducible refine GKsplitNB (fun hc => ?_) (fun hc => ?_) <;> try simp [hc])
    | (with_reducible refine GKsplitB (fun hc => ?_) (fun hc => ?_) <;> try simp [hc])
    | (refine CallK.use (sameB_c (a := a2') (b := t) (by rw [ha2, ha, ht]) (by rw [ha2, ha, List.length_map]; omega)) ?_; rintro r G' _ _ ⟨rfl, rfl⟩)
    | simp (disch := first | (with_reducible assumption) | (simp; done) | omega | (simp; omega)))
  exact ends_one (by simp <;> rfl) (by simp) (hpost _ _ ⟨rfl, rfl⟩)
end Go.Proofs.Ytmomphnkngbgjaa
