import Derived.Test.YtjkighndbjnbjaaD9K
set_option linter.unusedSimpArgs false
set_option linter.unusedVariables false
namespace Go.Proofs.Ytjkighndbjnbjaa
open Go Go.Al
set_option maxRecDepth 20000
attribute [local irreducible] awp aops aopsD eop pv ACalls CallK AppK AEnds ti

set_option maxHeartbeats 4000000 in
theorem rtick_c {q : PP} {rb : Nat} {G : Hp} {now : Int} (hq : q.ok) (hR : RH q rb G) : ACalls Try.prog 26 [.ptr rb 0, .int .i64 now] G fun r G' => RH q rb G' ∧ ∃ s : Option (List Ls), r = ofS cVL s := by
  obtain ⟨b1, b2, bs, ls, n1, n2, n3, l1, l2, rfl⟩ := hR
  obtain ⟨h1, h2, h3, h4, h5, h6⟩ := hq
  have n3' := n3.symm
  refine ACalls.hide fun post hpost => ?_
  refine F26_in (by simp) (by simp) fun hbd => ?_
  repeat' (first
    | refine awp_seqK fun K' hpK => ?_
    | refine awp_block ?_
    | refine awp_condG fun A' B' hpA hpB => ?_
    | refine useK (by with_reducible assumption) ?_
    | refine useP (by with_reducible assumption) ?_
    | refine ED_cons (fun _ => ?_) ?_
    | (refine stable_mk ?_; simp (disch := first | (with_reducible assumption) | (simp; done) | omega | (simp; omega)) [setH_ne, setH_same, RO]; done)
    | (refine stable_no ?_; simp (disch := first | (with_reducible assumption) | (simp; done) | omega | (simp; omega)) [setH_ne, setH_same, RO]; done)
    | (with_reducible refine And.intro ?_ ?_)
    | (with_reducible intro hc; try (exfalso; omega))
    | (with_reducible refine GDsplit (fun hc => ?_) (fun hc => ?_) <;> try simp [hc])
    | (with_reducible refine GDsplitN (fun hc => ?_) (fun hc => ?_) <;> try simp [hc])
    | (with_reducible refine GDsplitNB (fun hc => ?_) (fun hc => ?_) <;> try simp [hc])
    | (with_reducible refine GDsplitB (fun hc => ?_) (fun hc => ?_) <;> try simp [hc])
    | (with_reducible refine GKsplit (fun hc => ?_) (fun hc => ?_) <;> try simp [hc])
    | (with_reducible refine GKsplitN (fun hc => ?_) (fun hc => ?_) <;> try simp [hc])
    | (with_reducible refine GKsplitNB (fun hc => ?_) (fun hc => ?_) <;> try simp [hc])
    | (with_reducible refine GKsplitB (fun hc => ?_) (fun hc => ?_) <;> try simp [hc])
    | simp (disch := first | (with_reducible assumption) | (simp; done) | omega | (simp; omega)) [setH_ne, setH_same, RO])
  refine awp_loop' (fun w T G1 => ∃ (k : Nat) (bs : List Bool) (ls : List Ls) (o : AV) (acc : List Ls), k + w = q.n ∧ bs.length = q.n ∧ ls.length = q.n ∧ acc.length ≤ k ∧ Grow cVL 3 (RG q rb b1 b2 bs ls) G1 o acc ∧ T = ofL [(0, .ptr rb 0), (1, .int .i64 now), (5, o), (11, .int .i64 q.n), (12, .int .i64 k)]) q.n ⟨0, bs, ls, .nils, [], by omega, l1, l2, by simp, Grow.nil _ _, by simp⟩ ?_
  clear l1 l2
  rintro w T G1 ⟨k, bs, ls, o, acc, hk, l1, l2, hac, hg, rfl⟩ N hN
  have hpo := hg.plain
  have e0 : RG q rb b1 b2 bs ls rb = some (RO q b1 b2) := by unfold RG; rw [setH_ne _ _ n2, setH_ne _ _ n1, one_same]
  have e1 : RG q rb b1 b2 bs ls b1 = some (0, bs.map AV.bool) := by unfold RG; rw [setH_ne _ _ n3, setH_same]
  have e2 : RG q rb b1 b2 bs ls b2 = some (0, ls.flatMap cVL) := by unfold RG; rw [setH_same]
  have hr := hg.base e0
  have hb1 := hg.base e1
  have hb2 := hg.base e2
  unfold RO at hr
  by_cases hkl : k < q.n
  · have hbk : k < bs.length := by omega
    have hlk : k < ls.length := by omega
    have g1 := bget hbk
    have g2 := flat_at1 (f := cVL) (sz := 3) (j := 2) (by simp) hlk (by omega)
    have g3 := flat_at0 (f := cVL) (sz := 3) (by simp) hlk
    cases hbv : bs[k] with
    | false =>
      rw [hbv] at g1
      repeat' (first
        | refine awp_seqK fun K' hpK => ?_
        | refine awp_block ?_
        | refine awp_condG fun A' B' hpA hpB => ?_
        | refine useK (by with_reducible assumption) ?_
        | refine useP (by with_reducible assumption) ?_
        | refine ED_cons (fun _ => ?_) ?_
        | (refine stable_mk ?_; simp (disch := first | (with_reducible assumption) | (simp; done) | omega | (simp; omega)) [hkl, hr, hb1, g1, hpo]; done)
        | (refine stable_no ?_; simp (disch := first | (with_reducible assumption) | (simp; done) | omega | (simp; omega)) [hkl, hr, hb1, g1, hpo]; done)
        | (with_reducible refine And.intro ?_ ?_)
        | (with_reducible intro hc; try (exfalso; omega))
        | (with_reducible refine GDsplit (fun hc => ?_) (fun hc => ?_) <;> try simp [hc])
        | (with_reducible refine GDsplitN (fun hc => ?_) (fun hc => ?_) <;> try simp [hc])
        | (with_reducible refine GDsplitNB (fun hc => ?_) (fun hc => ?_) <;> try simp [hc])
        | (with_reducible refine GDsplitB (fun hc => ?_) (fun hc => ?_) <;> try simp [hc])
        | (with_reducible refine GKsplit (fun hc => ?_) (fun hc => ?_) <;> try simp [hc])
        | (with_reducible refine GKsplitN (fun hc => ?_) (fun hc => ?_) <;> try simp [hc])
        | (with_reducible refine GKsplitNB (fun hc => ?_) (fun hc => ?_) <;> try simp [hc])
        | (with_reducible refine GKsplitB (fun hc => ?_) (fun hc => ?_) <;> try simp [hc])
        | simp (disch := first | (with_reducible assumption) | (simp; done) | omega | (simp; omega)) [hkl, hr, hb1, g1, hpo])
      exact hN (w - 1) _ _ (by omega) ⟨k + 1, bs, ls, o, acc, by omega, l1, l2, by omega, hg, by simp⟩
    | true =>
      rw [hbv] at g1
      by_cases he : (ls[k]).u ≤ now
      · have hjf : k * 3 + 3 ≤ (List.flatMap cVL ls).length := by rw [flat_len (sz := 3) (by simp)]; omega
        have hjf2 : k * 3 + [AV.int .u64 0, AV.int .u32 0, AV.int .i64 0].length ≤ (List.flatMap cVL ls).length := hjf
        repeat' (first
          | refine awp_seqK fun K' hpK => ?_
          | refine awp_block ?_
          | refine awp_condG fun A' B' hpA hpB => ?_
          | refine useK (by with_reducible assumption) ?_
          | refine useP (by with_reducible assumption) ?_
          | refine ED_cons (fun _ => ?_) ?_
          | (refine stable_mk ?_; simp (disch := first | (with_reducible assumption) | (simp; done) | omega | (simp; omega)) [hkl, hr, hb1, hb2, g1, g2, g3, cVL, he, hpo]; done)
          | (refine stable_no ?_; simp (disch := first | (with_reducible assumption) | (simp; done) | omega | (simp; omega)) [hkl, hr, hb1, hb2, g1, g2, g3, cVL, he, hpo]; done)
          | (with_reducible refine And.intro ?_ ?_)
          | (with_reducible intro hc; try (exfalso; omega))
          | (with_reducible refine GDsplit (fun hc => ?_) (fun hc => ?_) <;> try simp [hc])
          | (with_reducible refine GDsplitN (fun hc => ?_) (fun hc => ?_) <;> try simp [hc])
          | (with_reducible refine GDsplitNB (fun hc => ?_) (fun hc => ?_) <;> try simp [hc])
          | (with_reducible refine GDsplitB (fun hc => ?_) (fun hc => ?_) <;> try simp [hc])
          | (with_reducible refine GKsplit (fun hc => ?_) (fun hc => ?_) <;> try simp [hc])
          | (with_reducible refine GKsplitN (fun hc => ?_) (fun hc => ?_) <;> try simp [hc])
          | (with_reducible refine GKsplitNB (fun hc => ?_) (fun hc => ?_) <;> try simp [hc])
          | (with_reducible refine GKsplitB (fun hc => ?_) (fun hc => ?_) <;> try simp [hc])
          | simp (disch := first | (with_reducible assumption) | (simp; done) | omega | (simp; omega)) [hkl, hr, hb1, hb2, g1, g2, g3, cVL, he, hpo])
        refine hg.app1 (x := ls[k]) (by simp [cVL]) (by simp [cVL]) (by simp [LIM]; omega) (fun v2 G2 hg2 => ?_)
        have hv2 := hg2.plain
        have hr2 := hg2.base e0
        have hb12 := hg2.base e1
        have hb22 := hg2.base e2
        unfold RO at hr2
        repeat' (first
          | refine awp_seqK fun K' hpK => ?_
          | refine awp_block ?_
          | refine awp_condG fun A' B' hpA hpB => ?_
          | refine useK (by with_reducible assumption) ?_
          | refine useP (by with_reducible assumption) ?_
          | refine ED_cons (fun _ => ?_) ?_
          | (refine stable_mk ?_; simp (disch := first | (with_reducible assumption) | (simp; done) | omega | (simp; omega)) [hkl, hv2, hr2, hb12, hb22, setH_ne, setH_same, hbk, hlk, bsetx, lsetx, hjf, hjf2]; done)
          | (refine stable_no ?_; simp (disch := first | (with_reducible assumption) | (simp; done) | omega | (simp; omega)) [hkl, hv2, hr2, hb12, hb22, setH_ne, setH_same, hbk, hlk, bsetx, lsetx, hjf, hjf2]; done)
          | (with_reducible refine And.intro ?_ ?_)
          | (with_reducible intro hc; try (exfalso; omega))
          | (with_reducible refine GDsplit (fun hc => ?_) (fun hc => ?_) <;> try simp [hc])
          | (with_reducible refine GDsplitN (fun hc => ?_) (fun hc => ?_) <;> try simp [hc])
          | (with_reducible refine GDsplitNB (fun hc => ?_) (fun hc => ?_) <;> try simp [hc])
          | (with_reducible refine GDsplitB (fun hc => ?_) (fun hc => ?_) <;> try simp [hc])
          | (with_reducible refine GKsplit (fun hc => ?_) (fun hc => ?_) <;> try simp [hc])
          | (with_reducible refine GKsplitN (fun hc => ?_) (fun hc => ?_) <;> try simp [hc])
          | (with_reducible refine GKsplitNB (fun hc => ?_) (fun hc => ?_) <;> try simp [hc])
          | (with_reducible refine GKsplitB (fun hc => ?_) (fun hc => ?_) <;> try simp [hc])
          | simp (disch := first | (with_reducible assumption) | (simp; done) | omega | (simp; omega)) [hkl, hv2, hr2, hb12, hb22, setH_ne, setH_same, hbk, hlk, bsetx, lsetx, hjf, hjf2])
        have hs1 := hg2.set e1 (o' := (0, (bs.set k false).map AV.bool))
        have e2' : setH (RG q rb b1 b2 bs ls) b1 (some (0, (bs.set k false).map AV.bool)) b2 = some (0, ls.flatMap cVL) := by rw [setH_ne _ _ n3', e2]
        have hs2 := hs1.set e2' (o' := (0, (ls.set k ⟨0, 0, 0⟩).flatMap cVL))
        have e3 : setH (setH (RG q rb b1 b2 bs ls) b1 (some (0, (bs.set k false).map AV.bool))) b2 (some (0, (ls.set k ⟨0, 0, 0⟩).flatMap cVL)) = RG q rb b1 b2 (bs.set k false) (ls.set k ⟨0, 0, 0⟩) := by
          unfold RG; rw [hcol n3, setH_setH]
        rw [e3] at hs2
        simp only [List.map_set] at hs2
        exact hN (w - 1) _ _ (by omega) ⟨k + 1, bs.set k false, ls.set k ⟨0, 0, 0⟩, v2, acc ++ [ls[k]], by omega, by simpa using l1, by simpa using l2, by simp; omega, hs2, by simp⟩
      · repeat' (first
          | refine awp_seqK fun K' hpK => ?_
          | refine awp_block ?_
          | refine awp_condG fun A' B' hpA hpB => ?_
          | refine useK (by with_reducible assumption) ?_
          | refine useP (by with_reducible assumption) ?_
          | refine ED_cons (fun _ => ?_) ?_
          | (refine stable_mk ?_; simp (disch := first | (with_reducible assumption) | (simp; done) | omega | (simp; omega)) [hkl, hr, hb1, hb2, g1, g2, g3, cVL, he, hpo]; done)
          | (refine stable_no ?_; simp (disch := first | (with_reducible assumption) | (simp; done) | omega | (simp; omega)) [hkl, hr, hb1, hb2, g1, g2, g3, cVL, he, hpo]; done)
          | (with_reducible refine And.intro ?_ ?_)
          | (with_reducible intro hc; try (exfalso; omega))
          | (with_reducible refine GDsplit (fun hc => ?_) (fun hc => ?_) <;> try simp [hc])
          | (with_reducible refine GDsplitN (fun hc => ?_) (fun hc => ?_) <;> try simp [hc])
          | (with_reducible refine GDsplitNB (fun hc => ?_) (fun hc => ?_) <;> try simp [hc])
          | (with_reducible refine GDsplitB (fun hc => ?_) (fun hc => ?_) <;> try simp [hc])
          | (with_reducible refine GKsplit (fun hc => ?_) (fun hc => ?_) <;> try simp [hc])
          | (with_reducible refine GKsplitN (fun hc => ?_) (fun hc => ?_) <;> try simp [hc])
          | (with_reducible refine GKsplitNB (fun hc => ?_) (fun hc => ?_) <;> try simp [hc])
          | (with_reducible refine GKsplitB (fun hc => ?_) (fun hc => ?_) <;> try simp [hc])
          | simp (disch := first | (with_reducible assumption) | (simp; done) | omega | (simp; omega)) [hkl, hr, hb1, hb2, g1, g2, g3, cVL, he, hpo])
        exact hN (w - 1) _ _ (by omega) ⟨k + 1, bs, ls, o, acc, by omega, l1, l2, by omega, hg, by simp⟩
  · repeat' (first
      | refine awp_seqK fun K' hpK => ?_
      | refine awp_block ?_
      | refine awp_condG fun A' B' hpA hpB => ?_
      | refine useK (by with_reducible assumption) ?_
      | refine useP (by with_reducible assumption) ?_
      | refine ED_cons (fun _ => ?_) ?_
      | (refine stable_mk ?_; simp (disch := first | (with_reducible assumption) | (simp; done) | omega | (simp; omega)) [hkl, hpo]; done)
      | (refine stable_no ?_; simp (disch := first | (with_reducible assumption) | (simp; done) | omega | (simp; omega)) [hkl, hpo]; done)
      | (with_reducible refine And.intro ?_ ?_)
      | (with_reducible intro hc; try (exfalso; omega))
      | (with_reducible refine GDsplit (fun hc => ?_) (fun hc => ?_) <;> try simp [hc])
      | (with_reducible refine GDsplitN (fun hc => ?_) (fun hc => ?_) <;> try simp [hc])
      | (with_reducible refine GDsplitNB (fun hc => ?_) (fun hc => ?_) <;> try simp [hc])
      | (with_reducible refine GDsplitB (fun hc => ?_) (fun hc => ?_) <;> try simp [hc])
      | (with_reducible refine GKsplit (fun hc => ?_) (fun hc => ?_) <;> try simp [hc])
      | (with_reducible refine GKsplitN (fun hc => ?_) (fun hc => ?_) <;> try simp [hc])
      | (with_reducible refine GKsplitNB (fun hc => ?_) (fun hc => ?_) <;> try simp [hc])
      | (with_reducible refine GKsplitB (fun hc => ?_) (fun hc => ?_) <;> try simp [hc])
      | simp (disch := first | (with_reducible assumption) | (simp; done) | omega | (simp; omega)) [hkl, hpo])
    obtain ⟨s, hs, hz, hsub⟩ := hg.frz (by simp)
    exact ends_fr1 (by simp <;> rfl) hpo hsub hz (hpost _ _ ⟨⟨b1, b2, bs, ls, n1, n2, n3, l1, l2, rfl⟩, s, rfl⟩)

/-- a call -/
structure Cl where
  kd : Int
  mac : Int
  ip : Int
  u : Int
  t : Int
def cCl (x : Cl) : List AV := [.int .i64 x.kd, .int .u64 x.mac, .int .u32 x.ip, .int .i64 x.u, .int .i64 x.t]
@[simp] theorem cCl_len (x : Cl) : (cCl x).length = 5 := by simp [cCl]
/-- what the pool holds behind a call -/
def stepP (q : PP) (L : List (Int × Ls)) (x : Cl) (now u : Int) : List (Int × Ls) :=
  if x.kd = 1 ∨ x.kd = 2 then (grantP q L x.mac x.ip now).1 else if x.kd = 3 then freeP L x.mac else if x.kd = 4 then L.filter (fun y => !overP now y) else if x.kd = 5 then (putP q L ⟨x.mac, x.ip, u⟩).1 else L
theorem eqS66_b {a b c d e f : Int} : ∃ v, eqS66 a b c d e f = v := ⟨_, rfl⟩
theorem and39 (n : Int) : ∃ u : Int, ibits .and .i64 n 549755813887 = some u := ⟨_, rfl⟩

set_option maxHeartbeats 8000000 in
theorem step_c {q : PP} {pb rb : Nat} {hp hr : Hp} {L : List (Int × Ls)} {x : Cl} {now : Int} (hq : q.ok) (hdis : Dis hp hr) (hP : PH q pb hp L) (hok : LOk q L) (hS : Srt L) (hR : RH q rb hr) (h0 : 0 ≤ x.ip) (h1 : x.ip ≤ 4294967295) (hn0 : 0 ≤ now) (hn1 : now ≤ 1000000) :
    ACalls Try.prog 10 [.ptr pb 0, .ptr rb 0, .agg (cCl x), .int .i64 now] (uni hp hr) fun r G' => ∃ hp' hr' b u, G' = uni hp' hr' ∧ Dis hp' hr' ∧ r = .bool b ∧ PH q pb hp' (stepP q L x now u) ∧ RH q rb hr' := by
  have hl : L.length ≤ 64 := Nat.le_trans (hok.len hS) hq.2.1
  obtain ⟨kd, m, ip, u0, t⟩ := x
  simp only at h0 h1
  obtain ⟨u, hu⟩ := and39 u0
  have oc := offer_c (m := m) (now := now) hq hP hl
  have gc := grant_c (m := m) (ip := ip) (now := now) hq hP hok h0 h1 hn0 hn1
  have fc := free_c (m := m) hP hl
  have tc := tick_c (now := now) hP hl
  have pc := put_c (l := ⟨m, ip, u⟩) hq hP hok h0 h1
  have roc := roffer_c (m := m) (now := now) hq hR
  have rgc := rgrant_c (m := m) (ip := ip) (now := now) hq hR hn0 hn1
  have rfc := rfree_c (m := m) hq hR
  have rtc := rtick_c (now := now) hq hR
  have rpc := rput_c (l := ⟨m, ip, u⟩) hq hR
  unfold stepP
  by_cases n0 : kd = 0
  · refine ACalls.hide fun post hpost => ?_
    refine F10_in (by simp) (by simp) fun hbd => ?_
    repeat' (first
      | refine awp_seqK fun K' hpK => ?_
      | refine awp_block ?_
      | refine awp_condG fun A' B' hpA hpB => ?_
      | refine useK (by with_reducible assumption) ?_
      | refine useP (by with_reducible assumption) ?_
      | refine ED_cons (fun _ => ?_) ?_
      | (refine stable_mk ?_; simp (disch := first | (with_reducible assumption) | (simp; done) | omega | (simp; omega)) [cCl, n0]; done)
      | (refine stable_no ?_; simp (disch := first | (with_reducible assumption) | (simp; done) | omega | (simp; omega)) [cCl, n0]; done)
      | (with_reducible refine And.intro ?_ ?_)
      | (with_reducible intro hc; try (exfalso; omega))
      | (with_reducible refine GDsplit (fun hc => ?_) (fun hc => ?_) <;> try simp [hc])
      | (with_reducible refine GDsplitN (fun hc => ?_) (fun hc => ?_) <;> try simp [hc])
      | (with_reducible refine GDsplitNB (fun hc => ?_) (fun hc => ?_) <;> try simp [hc])
      | (with_reducible refine GDsplitB (fun hc => ?_) (fun hc => ?_) <;> try simp [hc])
      | (with_reducible refine GKsplit (fun hc => ?_) (fun hc => ?_) <;> try simp [hc])
      | (with_reducible refine GKsplitN (fun hc => ?_) (fun hc => ?_) <;> try simp [hc])
      | (with_reducible refine GKsplitNB (fun hc => ?_) (fun hc => ?_) <;> try simp [hc])
      | (with_reducible refine GKsplitB (fun hc => ?_) (fun hc => ?_) <;> try simp [hc])
      | (refine CallK.fl (oc) hdis ?_; rintro r h' hdis _ _ ⟨rfl, rfl⟩)
      | (refine CallK.fr (roc) hdis ?_; rintro r h' hdis _ _ ⟨rfl, a, e, rfl⟩)
      | simp (disch := first | (with_reducible assumption) | (simp; done) | omega | (simp; omega)) [cCl, n0])
    all_goals exact ends_one (by simp <;> rfl) (by simp) (hpost _ _ ⟨_, _, _, 0, rfl, hdis, rfl, by simp [n0]; exact hP, hR⟩)
  by_cases n1 : kd = 1
  · refine ACalls.hide fun post hpost => ?_
    refine F10_in (by simp) (by simp) fun hbd => ?_
    repeat' (first
      | refine awp_seqK fun K' hpK => ?_
      | refine awp_block ?_
      | refine awp_condG fun A' B' hpA hpB => ?_
      | refine useK (by with_reducible assumption) ?_
      | refine useP (by with_reducible assumption) ?_
      | refine ED_cons (fun _ => ?_) ?_
      | (refine stable_mk ?_; simp (disch := first | (with_reducible assumption) | (simp; done) | omega | (simp; omega)) [cCl, n1]; done)
      | (refine stable_no ?_; simp (disch := first | (with_reducible assumption) | (simp; done) | omega | (simp; omega)) [cCl, n1]; done)
      | (with_reducible refine And.intro ?_ ?_)
      | (with_reducible intro hc; try (exfalso; omega))
      | (with_reducible refine GDsplit (fun hc => ?_) (fun hc => ?_) <;> try simp [hc])
      | (with_reducible refine GDsplitN (fun hc => ?_) (fun hc => ?_) <;> try simp [hc])
      | (with_reducible refine GDsplitNB (fun hc => ?_) (fun hc => ?_) <;> try simp [hc])
      | (with_reducible refine GDsplitB (fun hc => ?_) (fun hc => ?_) <;> try simp [hc])
      | (with_reducible refine GKsplit (fun hc => ?_) (fun hc => ?_) <;> try simp [hc])
      | (with_reducible refine GKsplitN (fun hc => ?_) (fun hc => ?_) <;> try simp [hc])
      | (with_reducible refine GKsplitNB (fun hc => ?_) (fun hc => ?_) <;> try simp [hc])
      | (with_reducible refine GKsplitB (fun hc => ?_) (fun hc => ?_) <;> try simp [hc])
      | (refine CallK.fl (gc) hdis ?_; rintro r h' hdis _ _ ⟨hP', rfl⟩)
      | (refine CallK.fr (rgc) hdis ?_; rintro r h' hdis _ _ ⟨hR', a, e, rfl⟩)
      | simp (disch := first | (with_reducible assumption) | (simp; done) | omega | (simp; omega)) [cCl, n1])
    all_goals exact ends_one (by simp <;> rfl) (by simp) (hpost _ _ ⟨_, _, _, 0, rfl, hdis, rfl, by simp [n1]; exact hP', hR'⟩)
  by_cases n2 : kd = 2
  · refine ACalls.hide fun post hpost => ?_
    refine F10_in (by simp) (by simp) fun hbd => ?_
    repeat' (first
      | refine awp_seqK fun K' hpK => ?_
      | refine awp_block ?_
      | refine awp_condG fun A' B' hpA hpB => ?_
      | refine useK (by with_reducible assumption) ?_
      | refine useP (by with_reducible assumption) ?_
      | refine ED_cons (fun _ => ?_) ?_
      | (refine stable_mk ?_; simp (disch := first | (with_reducible assumption) | (simp; done) | omega | (simp; omega)) [cCl, n2]; done)
      | (refine stable_no ?_; simp (disch := first | (with_reducible assumption) | (simp; done) | omega | (simp; omega)) [cCl, n2]; done)
      | (with_reducible refine And.intro ?_ ?_)
      | (with_reducible intro hc; try (exfalso; omega))
      | (with_reducible refine GDsplit (fun hc => ?_) (fun hc => ?_) <;> try simp [hc])
      | (with_reducible refine GDsplitN (fun hc => ?_) (fun hc => ?_) <;> try simp [hc])
      | (with_reducible refine GDsplitNB (fun hc => ?_) (fun hc => ?_) <;> try simp [hc])
      | (with_reducible refine GDsplitB (fun hc => ?_) (fun hc => ?_) <;> try simp [hc])
      | (with_reducible refine GKsplit (fun hc => ?_) (fun hc => ?_) <;> try simp [hc])
      | (with_reducible refine GKsplitN (fun hc => ?_) (fun hc => ?_) <;> try simp [hc])
      | (with_reducible refine GKsplitNB (fun hc => ?_) (fun hc => ?_) <;> try simp [hc])
      | (with_reducible refine GKsplitB (fun hc => ?_) (fun hc => ?_) <;> try simp [hc])
      | (refine CallK.fl (gc) hdis ?_; rintro r h' hdis _ _ ⟨hP', rfl⟩)
      | (refine CallK.fr (rgc) hdis ?_; rintro r h' hdis _ _ ⟨hR', a, e, rfl⟩)
      | simp (disch := first | (with_reducible assumption) | (simp; done) | omega | (simp; omega)) [cCl, n2])
    all_goals exact ends_one (by simp <;> rfl) (by simp) (hpost _ _ ⟨_, _, _, 0, rfl, hdis, rfl, by simp [n2]; exact hP', hR'⟩)
  by_cases n3 : kd = 3
  · refine ACalls.hide fun post hpost => ?_
    refine F10_in (by simp) (by simp) fun hbd => ?_
    repeat' (first
      | refine awp_seqK fun K' hpK => ?_
      | refine awp_block ?_
      | refine awp_condG fun A' B' hpA hpB => ?_
      | refine useK (by with_reducible assumption) ?_
      | refine useP (by with_reducible assumption) ?_
      | refine ED_cons (fun _ => ?_) ?_
      | (refine stable_mk ?_; simp (disch := first | (with_reducible assumption) | (simp; done) | omega | (simp; omega)) [cCl, n3]; done)
      | (refine stable_no ?_; simp (disch := first | (with_reducible assumption) | (simp; done) | omega | (simp; omega)) [cCl, n3]; done)
      | (with_reducible refine And.intro ?_ ?_)
      | (with_reducible intro hc; try (exfalso; omega))
      | (with_reducible refine GDsplit (fun hc => ?_) (fun hc => ?_) <;> try simp [hc])
      | (with_reducible refine GDsplitN (fun hc => ?_) (fun hc => ?_) <;> try simp [hc])
      | (with_reducible refine GDsplitNB (fun hc => ?_) (fun hc => ?_) <;> try simp [hc])
      | (with_reducible refine GDsplitB (fun hc => ?_) (fun hc => ?_) <;> try simp [hc])
      | (with_reducible refine GKsplit (fun hc => ?_) (fun hc => ?_) <;> try simp [hc])
      | (with_reducible refine GKsplitN (fun hc => ?_) (fun hc => ?_) <;> try simp [hc])
      | (with_reducible refine GKsplitNB (fun hc => ?_) (fun hc => ?_) <;> try simp [hc])
      | (with_reducible refine GKsplitB (fun hc => ?_) (fun hc => ?_) <;> try simp [hc])
      | (refine CallK.fl (fc) hdis ?_; rintro r h' hdis _ _ ⟨hP', rfl⟩)
      | (refine CallK.fr (rfc) hdis ?_; rintro r h' hdis _ _ ⟨hR', l, b, rfl⟩)
      | (refine CallK.use (plain_c (l := (findP L m).getD l0)) ?_; rintro r G' _ _ ⟨rfl, rfl⟩)
      | simp (disch := first | (with_reducible assumption) | (simp; done) | omega | (simp; omega)) [cCl, n3])
    all_goals exact ends_one (by simp <;> rfl) (by simp) (hpost _ _ ⟨_, _, _, 0, rfl, hdis, rfl, by simp [n3]; exact hP', hR'⟩)
  by_cases n4 : kd = 4
  · refine ACalls.hide fun post hpost => ?_
    refine F10_in (by simp) (by simp) fun hbd => ?_
    repeat' (first
      | refine awp_seqK fun K' hpK => ?_
      | refine awp_block ?_
      | refine awp_condG fun A' B' hpA hpB => ?_
      | refine useK (by with_reducible assumption) ?_
      | refine useP (by with_reducible assumption) ?_
      | refine ED_cons (fun _ => ?_) ?_
      | (refine stable_mk ?_; simp (disch := first | (with_reducible assumption) | (simp; done) | omega | (simp; omega)) [cCl, n4]; done)
      | (refine stable_no ?_; simp (disch := first | (with_reducible assumption) | (simp; done) | omega | (simp; omega)) [cCl, n4]; done)
      | (with_reducible refine And.intro ?_ ?_)
      | (with_reducible intro hc; try (exfalso; omega))
      | (with_reducible refine GDsplit (fun hc => ?_) (fun hc => ?_) <;> try simp [hc])
      | (with_reducible refine GDsplitN (fun hc => ?_) (fun hc => ?_) <;> try simp [hc])
      | (with_reducible refine GDsplitNB (fun hc => ?_) (fun hc => ?_) <;> try simp [hc])
      | (with_reducible refine GDsplitB (fun hc => ?_) (fun hc => ?_) <;> try simp [hc])
      | (with_reducible refine GKsplit (fun hc => ?_) (fun hc => ?_) <;> try simp [hc])
      | (with_reducible refine GKsplitN (fun hc => ?_) (fun hc => ?_) <;> try simp [hc])
      | (with_reducible refine GKsplitNB (fun hc => ?_) (fun hc => ?_) <;> try simp [hc])
      | (with_reducible refine GKsplitB (fun hc => ?_) (fun hc => ?_) <;> try simp [hc])
      | (refine CallK.fl (tc) hdis ?_; rintro r h' hdis _ _ ⟨hP', s, rfl, hs⟩)
      | simp (disch := first | (with_reducible assumption) | (simp; done) | omega | (simp; omega)) [cCl, n4])
    have hsl : (LL s).length ≤ 64 := by rw [hs, List.length_map]; exact Nat.le_trans (List.length_filter_le _ _) hl
    refine CallK.use (plainL_c (by omega)) ?_
    rintro r G' _ _ ⟨rfl, t1, rfl, ht1⟩
    repeat' (first
      | refine awp_seqK fun K' hpK => ?_
      | refine awp_block ?_
      | refine awp_condG fun A' B' hpA hpB => ?_
      | refine useK (by with_reducible assumption) ?_
      | refine useP (by with_reducible assumption) ?_
      | refine ED_cons (fun _ => ?_) ?_
      | (refine stable_mk ?_; simp (disch := first | (with_reducible assumption) | (simp; done) | omega | (simp; omega)); done)
      | (refine stable_no ?_; simp (disch := first | (with_reducible assumption) | (simp; done) | omega | (simp; omega)); done)
      | (with_reducible refine And.intro ?_ ?_)
      | (with_reducible intro hc; try (exfalso; omega))
      | (with_reducible refine GDsplit (fun hc => ?_) (fun hc => ?_) <;> try simp [hc])
      | (with_reducible refine GDsplitN (fun hc => ?_) (fun hc => ?_) <;> try simp [hc])
      | (with_reducible refine GDsplitNB (fun hc => ?_) (fun hc => ?_) <;> try simp [hc])
      | (with_reducible refine GDsplitB (fun hc => ?_) (fun hc => ?_) <;> try simp [hc])
      | (with_reducible refine GKsplit (fun hc => ?_) (fun hc => ?_) <;> try simp [hc])
      | (with_reducible refine GKsplitN (fun hc => ?_) (fun hc => ?_) <;> try simp [hc])
      | (with_reducible refine GKsplitNB (fun hc => ?_) (fun hc => ?_) <;> try simp [hc])
      | (with_reducible refine GKsplitB (fun hc => ?_) (fun hc => ?_) <;> try simp [hc])
      | (refine CallK.fr (rtc) hdis ?_; rintro r h' hdis _ _ ⟨hR', s2, rfl⟩)
      | (refine CallK.use (sameL_c (a := t1) (by rw [ht1]; omega)) ?_; rintro r G' _ _ ⟨rfl, c, rfl⟩)
      | simp (disch := first | (with_reducible assumption) | (simp; done) | omega | (simp; omega)))
    all_goals exact ends_one (by simp <;> rfl) (by simp) (hpost _ _ ⟨_, _, _, 0, rfl, hdis, rfl, by simp [n4]; exact hP', hR'⟩)
  by_cases n5 : kd = 5
  · refine ACalls.hide fun post hpost => ?_
    refine F10_in (by simp) (by simp) fun hbd => ?_
    repeat' (first
      | refine awp_seqK fun K' hpK => ?_
      | refine awp_block ?_
      | refine awp_condG fun A' B' hpA hpB => ?_
      | refine useK (by with_reducible assumption) ?_
      | refine useP (by with_reducible assumption) ?_
      | refine ED_cons (fun _ => ?_) ?_
      | (refine stable_mk ?_; simp (disch := first | (with_reducible assumption) | (simp; done) | omega | (simp; omega)) [cCl, n5, hu]; done)
      | (refine stable_no ?_; simp (disch := first | (with_reducible assumption) | (simp; done) | omega | (simp; omega)) [cCl, n5, hu]; done)
      | (with_reducible refine And.intro ?_ ?_)
      | (with_reducible intro hc; try (exfalso; omega))
      | (with_reducible refine GDsplit (fun hc => ?_) (fun hc => ?_) <;> try simp [hc])
      | (with_reducible refine GDsplitN (fun hc => ?_) (fun hc => ?_) <;> try simp [hc])
      | (with_reducible refine GDsplitNB (fun hc => ?_) (fun hc => ?_) <;> try simp [hc])
      | (with_reducible refine GDsplitB (fun hc => ?_) (fun hc => ?_) <;> try simp [hc])
      | (with_reducible refine GKsplit (fun hc => ?_) (fun hc => ?_) <;> try simp [hc])
      | (with_reducible refine GKsplitN (fun hc => ?_) (fun hc => ?_) <;> try simp [hc])
      | (with_reducible refine GKsplitNB (fun hc => ?_) (fun hc => ?_) <;> try simp [hc])
      | (with_reducible refine GKsplitB (fun hc => ?_) (fun hc => ?_) <;> try simp [hc])
      | (refine CallK.fl (pc) hdis ?_; rintro r h' hdis _ _ ⟨hP', rfl⟩)
      | (refine CallK.fr (rpc) hdis ?_; rintro r h' hdis _ _ ⟨hR', e, rfl⟩)
      | simp (disch := first | (with_reducible assumption) | (simp; done) | omega | (simp; omega)) [cCl, n5, hu])
    all_goals exact ends_one (by simp <;> rfl) (by simp) (hpost _ _ ⟨_, _, _, u, rfl, hdis, rfl, by simp [n5]; exact hP', hR'⟩)
  refine ACalls.hide fun post hpost => ?_
  refine F10_in (by simp) (by simp) fun hbd => ?_
  repeat' (first
    | refine awp_seqK fun K' hpK => ?_
    | refine awp_block ?_
    | refine awp_condG fun A' B' hpA hpB => ?_
    | refine useK (by with_reducible assumption) ?_
    | refine useP (by with_reducible assumption) ?_
    | refine ED_cons (fun _ => ?_) ?_
    | (refine stable_mk ?_; simp (disch := first | (with_reducible assumption) | (simp; done) | omega | (simp; omega)) [cCl, n0, n1, n2, n3, n4, n5]; done)
    | (refine stable_no ?_; simp (disch := first | (with_reducible assumption) | (simp; done) | omega | (simp; omega)) [cCl, n0, n1, n2, n3, n4, n5]; done)
    | (with_reducible refine And.intro ?_ ?_)
    | (with_reducible intro hc; try (exfalso; omega))
    | (with_reducible refine GDsplit (fun hc => ?_) (fun hc => ?_) <;> try simp [hc])
    | (with_reducible refine GDsplitN (fun hc => ?_) (fun hc => ?_) <;> try simp [hc])
    | (with_reducible refine GDsplitNB (fun hc => ?_) (fun hc => ?_) <;> try simp [hc])
    | (with_reducible refine GDsplitB (fun hc => ?_) (fun hc => ?_) <;> try simp [hc])
    | (with_reducible refine GKsplit (fun hc => ?_) (fun hc => ?_) <;> try simp [hc])
    | (with_reducible refine GKsplitN (fun hc => ?_) (fun hc => ?_) <;> try simp [hc])
    | (with_reducible refine GKsplitNB (fun hc => ?_) (fun hc => ?_) <;> try simp [hc])
    | (with_reducible refine GKsplitB (fun hc => ?_) (fun hc => ?_) <;> try simp [hc])
    | simp (disch := first | (with_reducible assumption) | (simp; done) | omega | (simp; omega)) [cCl, n0, n1, n2, n3, n4, n5])
  exact ends_one (by simp <;> rfl) (by simp) (hpost _ _ ⟨hp, hr, true, 0, rfl, hdis, rfl, by simp [n1, n2, n3, n4, n5]; exact hP, hR⟩)
end Go.Proofs.Ytjkighndbjnbjaa
