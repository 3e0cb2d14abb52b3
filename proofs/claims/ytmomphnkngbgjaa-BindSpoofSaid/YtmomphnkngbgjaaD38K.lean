import Derived.Test.YtmomphnkngbgjaaD35K
set_option linter.unusedSimpArgs false
set_option linter.unusedVariables false
namespace Go.Proofs.Ytmomphnkngbgjaa
open Go Go.Al
set_option maxRecDepth 20000
attribute [local irreducible] awp aops aopsD eop pv ACalls CallK AppK AEnds ti

def spoofB (l : List Bd) (p1 p2 mac ip : Int) : Bool := l.any fun x => decide (x.sw = p1 ∧ x.port = p2 ∧ x.mac = mac ∧ x.ip = ip ∧ ¬ x.user = ByteArray.empty)
theorem check_any {L : List (Int × Bd)} (hJ : JC L) (p1 p2 mac ip : Int) : ((chkO ((L.map Prod.snd).find? fun x => decide (x.sw = p1 ∧ x.port = p2)) mac ip).2 = 0) ↔ spoofB (L.map Prod.snd) p1 p2 mac ip = true := by
  unfold spoofB
  rw [List.any_eq_true]
  cases hf : (L.map Prod.snd).find? fun x => decide (x.sw = p1 ∧ x.port = p2) with
  | none =>
    constructor
    · intro h; simp [chkO] at h
    · rintro ⟨x, hx, h⟩
      have h1 := List.find?_eq_none.1 hf x hx
      have h2 := of_decide_eq_true h
      exact absurd (decide_eq_true ⟨h2.1, h2.2.1⟩) h1
  | some x =>
    have hx := List.mem_of_find?_eq_some hf
    have hq := List.find?_some hf
    have hq' := of_decide_eq_true hq
    constructor
    · intro h
      refine ⟨x, hx, decide_eq_true ?_⟩
      unfold chkO at h
      simp only at h
      split at h
      · cases h
      · rename_i h1
        split at h
        · cases h
        · rename_i h2
          refine ⟨hq'.1, hq'.2, ?_, ?_, h2⟩
          · exact Decidable.byContradiction fun e => h1 (.inl e)
          · exact Decidable.byContradiction fun e => h1 (.inr e)
    · rintro ⟨y, hy, h⟩
      obtain ⟨h1, h2, h3, h4, h5⟩ := of_decide_eq_true h
      obtain ⟨p, hp, rfl⟩ := List.mem_map.1 hx
      obtain ⟨q, hq2, rfl⟩ := List.mem_map.1 hy
      have e := hJ.d p hp q hq2 (.inr ⟨by rw [hq'.1, h1], by rw [hq'.2, h2]⟩)
      have g1 := mem_getL hJ.j.s (k := p.1) (v := p.2) hp
      have g2 := mem_getL hJ.j.s (k := q.1) (v := q.2) hq2
      rw [e, g2] at g1
      injection g1 with g1
      rw [← g1]
      unfold chkO
      simp [h3, h4, h5]
theorem chk_mem {L : List (Int × Bd)} (hJ : JC L) {p1 p2 mac ip : Int} (h : (chkO ((L.map Prod.snd).find? fun x => decide (x.sw = p1 ∧ x.port = p2)) mac ip).2 = 0) : ∃ x, (chkO ((L.map Prod.snd).find? fun x => decide (x.sw = p1 ∧ x.port = p2)) mac ip) = (x, 0) ∧ x.mac = mac ∧ x.ip = ip ∧ x.sw = p1 ∧ x.port = p2 ∧ nameB x.user = true ∧ nameB x.host = true := by
  cases hf : (L.map Prod.snd).find? fun x => decide (x.sw = p1 ∧ x.port = p2) with
  | none => rw [hf] at h; simp [chkO] at h
  | some x =>
    rw [hf] at h
    have hx := List.mem_of_find?_eq_some hf
    have hq := List.find?_some hf
    have hq' := of_decide_eq_true hq
    obtain ⟨p, hp, rfl⟩ := List.mem_map.1 hx
    have hg := hJ.g p hp
    unfold chkO at h ⊢
    simp only at h ⊢
    split at h
    · cases h
    · rename_i h1
      split at h
      · cases h
      · rename_i h2
        refine ⟨p.2, by rw [if_neg h1, if_neg h2], ?_, ?_, hq'.1, hq'.2, hg.2.resolve_left h2, hg.1⟩
        · exact Decidable.byContradiction fun e => h1 (.inl e)
        · exact Decidable.byContradiction fun e => h1 (.inr e)
set_option maxHeartbeats 4000000 in
theorem bindSpoof_c {l : Option (List CT)} {p1 p2 mac ip : Int} (hll : (LL l).length ≤ 140737488355328) : ACalls Try.prog 3 [ofS cC l, .agg [.int .i64 p1, .int .i64 p2], .int .u64 mac, .int .u32 ip] emptyH fun r G' => G' = emptyH ∧ r = .bool true := by
  refine ACalls.hide fun post hpost => ?_
  refine F3_in (by simp) (by simp) fun hbd => ?_
  repeat' (first
    | refine awp_seqK fun K' hpK => ?_
    | refine awp_block ?_
    | refine awp_condG fun A' B' hpA hpB => ?_
    | refine useK (by with_reducible assumption) ?_
    | refine useP (by with_reducible assumption) ?_
    | refine ED_cons (fun _ => ?_) ?_
    | (refine stable_mk ?_; simp (disch := first | (with_reducible assumption) | (simp; done) | omega | (simp; omega)); done)
    | (refine stable_no ?_; simp (disch := first | (with_reducible assumption) | (simp; done) | omega | (simp; omega)); done)
    | (with_reducible refine And.intro ?_ ?_)
    | (with_reducible intro hc)
    | (with_reducible refine GDsplit (fun hc => ?_) (fun hc => ?_) <;> try simp [hc])
    | (with_reducible refine GDsplitN (fun hc => ?_) (fun hc => ?_) <;> try simp [hc])
    | (with_reducible refine GDsplitNB (fun hc => ?_) (fun hc => ?_) <;> try simp [hc])
    | (with_reducible refine GDsplitB (fun hc => ?_) (fun hc => ?_) <;> try simp [hc])
    | (with_reducible refine GKsplit (fun hc => ?_) (fun hc => ?_) <;> try simp [hc])
    | (with_reducible refine GKsplitN (fun hc => ?_) (fun hc => ?_) <;> try simp [hc])
    | (with_reducible refine GKsplitNB (fun hc => ?_) (fun hc => ?_) <;> try simp [hc])
    | (with_reducible refine GKsplitB (fun hc => ?_) (fun hc => ?_) <;> try simp [hc])
    | (refine CallK.use (new_c) ?_; rintro r G' _ _ ⟨pb, rfl, hP⟩)
    | simp (disch := first | (with_reducible assumption) | (simp; done) | omega | (simp; omega)))
  refine awp_loop' (fun w T G' => ∃ (k : Nat) (L : List (Int × Bd)) (t : Option (List Bd)), k + w = (LL l).length ∧ L.length ≤ k ∧ L.length ≤ 50 ∧ TH pb G' L ∧ JC L ∧ LL t = L.map Prod.snd ∧ T = ofL [(2, .int .u64 mac), (3, .int .u32 ip), (5, .box [.int .i64 p1, .int .i64 p2]), (9, .ptr pb 0), (10, ofS cVB t), (19, ofS cC l), (20, .int .i64 (LL l).length), (21, .int .i64 k)]) (LL l).length ⟨0, [], none, by omega, by simp, by simp, hP, JC.nil, rfl, by simp [ofS]⟩ ?_
  rintro w T G' ⟨k, L, t, hk, hL, h50, hP, hJ, ht, rfl⟩ N hN
  by_cases hkl : k < (LL l).length
  · obtain ⟨y, hy⟩ : ∃ y, y = (LL l)[k] := ⟨_, rfl⟩
    by_cases h5 : (k : Int) < 50
    · obtain ⟨kd, ⟨b1, b2, ⟨b3, b4, _⟩, b5, b6, b7, _⟩, ⟨q1, q2, _⟩, nm, n, _⟩ := y
      have cc := fun G => cut_c (kd := kd) (b := ⟨b1, b2, b3, b4, b5, b6, b7⟩) (sw := q1) (port := q2) (nm := nm) (n := n) (G := G)
      have sc := step_c (kd := kd) (b := ⟨b1, b2, b3, b4, cut12 b5, cut12 b6, b7⟩) (sw := q1) (port := q2) (nm := cut12 nm) (n := n) hP hJ.j (by omega) ht
      simp only [opA] at sc
      repeat' (first
        | refine awp_seqK fun K' hpK => ?_
        | refine awp_block ?_
        | refine awp_condG fun A' B' hpA hpB => ?_
        | refine useK (by with_reducible assumption) ?_
        | refine useP (by with_reducible assumption) ?_
        | refine ED_cons (fun _ => ?_) ?_
        | (refine stable_mk ?_; simp (disch := first | (with_reducible assumption) | (simp; done) | omega | (simp; omega)) [hkl, h5, ofS_idx (f := cC), cC, ← hy]; done)
        | (refine stable_no ?_; simp (disch := first | (with_reducible assumption) | (simp; done) | omega | (simp; omega)) [hkl, h5, ofS_idx (f := cC), cC, ← hy]; done)
        | (with_reducible refine And.intro ?_ ?_)
        | (with_reducible intro hc)
        | (with_reducible refine GDsplit (fun hc => ?_) (fun hc => ?_) <;> try simp [hc])
        | (with_reducible refine GDsplitN (fun hc => ?_) (fun hc => ?_) <;> try simp [hc])
        | (with_reducible refine GDsplitNB (fun hc => ?_) (fun hc => ?_) <;> try simp [hc])
        | (with_reducible refine GDsplitB (fun hc => ?_) (fun hc => ?_) <;> try simp [hc])
        | (with_reducible refine GKsplit (fun hc => ?_) (fun hc => ?_) <;> try simp [hc])
        | (with_reducible refine GKsplitN (fun hc => ?_) (fun hc => ?_) <;> try simp [hc])
        | (with_reducible refine GKsplitNB (fun hc => ?_) (fun hc => ?_) <;> try simp [hc])
        | (with_reducible refine GKsplitB (fun hc => ?_) (fun hc => ?_) <;> try simp [hc])
        | (refine CallK.use (cc _) ?_; rintro r G' _ _ ⟨rfl, rfl⟩)
        | simp (disch := first | (with_reducible assumption) | (simp; done) | omega | (simp; omega)) [hkl, h5, ofS_idx (f := cC), cC, ← hy])
      refine CallK.use sc ?_
      rintro r G2 _ _ ⟨t2, rfl, hP2, ht2⟩
      have hlen := stepL_len hJ.j kd ⟨b1, b2, b3, b4, cut12 b5, cut12 b6, b7⟩ q1 q2 (cut12 nm) n
      have hJ2 : JC (stepL kd ⟨b1, b2, b3, b4, cut12 b5, cut12 b6, b7⟩ q1 q2 (cut12 nm) n L) := hJ.step _ _ _ _ _ _
      repeat' (first
        | refine awp_seqK fun K' hpK => ?_
        | refine awp_block ?_
        | refine awp_condG fun A' B' hpA hpB => ?_
        | refine useK (by with_reducible assumption) ?_
        | refine useP (by with_reducible assumption) ?_
        | refine ED_cons (fun _ => ?_) ?_
        | (refine stable_mk ?_; simp (disch := first | (with_reducible assumption) | (simp; done) | omega | (simp; omega)); done)
        | (refine stable_no ?_; simp (disch := first | (with_reducible assumption) | (simp; done) | omega | (simp; omega)); done)
        | (with_reducible refine And.intro ?_ ?_)
        | (with_reducible intro hc)
        | (with_reducible refine GDsplit (fun hc => ?_) (fun hc => ?_) <;> try simp [hc])
        | (with_reducible refine GDsplitN (fun hc => ?_) (fun hc => ?_) <;> try simp [hc])
        | (with_reducible refine GDsplitNB (fun hc => ?_) (fun hc => ?_) <;> try simp [hc])
        | (with_reducible refine GDsplitB (fun hc => ?_) (fun hc => ?_) <;> try simp [hc])
        | (with_reducible refine GKsplit (fun hc => ?_) (fun hc => ?_) <;> try simp [hc])
        | (with_reducible refine GKsplitN (fun hc => ?_) (fun hc => ?_) <;> try simp [hc])
        | (with_reducible refine GKsplitNB (fun hc => ?_) (fun hc => ?_) <;> try simp [hc])
        | (with_reducible refine GKsplitB (fun hc => ?_) (fun hc => ?_) <;> try simp [hc])
        | simp (disch := first | (with_reducible assumption) | (simp; done) | omega | (simp; omega)))
      exact hN (w - 1) _ _ (by omega) ⟨k + 1, _, t2, by omega, by omega, by omega, hP2, hJ2, ht2, by simp⟩
    · repeat' (first
        | refine awp_seqK fun K' hpK => ?_
        | refine awp_block ?_
        | refine awp_condG fun A' B' hpA hpB => ?_
        | refine useK (by with_reducible assumption) ?_
        | refine useP (by with_reducible assumption) ?_
        | refine ED_cons (fun _ => ?_) ?_
        | (refine stable_mk ?_; simp (disch := first | (with_reducible assumption) | (simp; done) | omega | (simp; omega)) [hkl, h5, ofS_idx (f := cC), cC, ← hy]; done)
        | (refine stable_no ?_; simp (disch := first | (with_reducible assumption) | (simp; done) | omega | (simp; omega)) [hkl, h5, ofS_idx (f := cC), cC, ← hy]; done)
        | (with_reducible refine And.intro ?_ ?_)
        | (with_reducible intro hc)
        | (with_reducible refine GDsplit (fun hc => ?_) (fun hc => ?_) <;> try simp [hc])
        | (with_reducible refine GDsplitN (fun hc => ?_) (fun hc => ?_) <;> try simp [hc])
        | (with_reducible refine GDsplitNB (fun hc => ?_) (fun hc => ?_) <;> try simp [hc])
        | (with_reducible refine GDsplitB (fun hc => ?_) (fun hc => ?_) <;> try simp [hc])
        | (with_reducible refine GKsplit (fun hc => ?_) (fun hc => ?_) <;> try simp [hc])
        | (with_reducible refine GKsplitN (fun hc => ?_) (fun hc => ?_) <;> try simp [hc])
        | (with_reducible refine GKsplitNB (fun hc => ?_) (fun hc => ?_) <;> try simp [hc])
        | (with_reducible refine GKsplitB (fun hc => ?_) (fun hc => ?_) <;> try simp [hc])
        | simp (disch := first | (with_reducible assumption) | (simp; done) | omega | (simp; omega)) [hkl, h5, ofS_idx (f := cC), cC, ← hy])
      exact hN (w - 1) _ _ (by omega) ⟨k + 1, L, t, by omega, by omega, h50, hP, hJ, ht, by simp⟩
  · have c1 := check_c (sw := p1) (port := p2) (mac := mac) (ip := ip) hP (by omega)
    have hany := check_any hJ p1 p2 mac ip
    have hmem := chk_mem hJ (p1 := p1) (p2 := p2) (mac := mac) (ip := ip)
    have htl : (LL t).length ≤ 50 := by rw [ht, List.length_map]; exact h50
    rw [checkB_eq] at c1
    unfold atB at c1
    rw [← ht] at c1 hany hmem
    obtain ⟨kk, hkk⟩ : ∃ kk, kk = chkO ((LL t).find? fun x => decide (x.sw = p1 ∧ x.port = p2)) mac ip := ⟨_, rfl⟩
    rw [← hkk] at c1 hany hmem
    obtain ⟨x0, e0⟩ := kk
    simp only [Bd.av] at c1 hany hmem
    repeat' (first
      | refine awp_seqK fun K' hpK => ?_
      | refine awp_block ?_
      | refine awp_condG fun A' B' hpA hpB => ?_
      | refine useK (by with_reducible assumption) ?_
      | refine useP (by with_reducible assumption) ?_
      | refine ED_cons (fun _ => ?_) ?_
      | (refine stable_mk ?_; simp (disch := first | (with_reducible assumption) | (simp; done) | omega | (simp; omega)) [hkl]; done)
      | (refine stable_no ?_; simp (disch := first | (with_reducible assumption) | (simp; done) | omega | (simp; omega)) [hkl]; done)
      | (with_reducible refine And.intro ?_ ?_)
      | (with_reducible intro hc)
      | (with_reducible refine GDsplit (fun hc => ?_) (fun hc => ?_) <;> try simp [hc])
      | (with_reducible refine GDsplitN (fun hc => ?_) (fun hc => ?_) <;> try simp [hc])
      | (with_reducible refine GDsplitNB (fun hc => ?_) (fun hc => ?_) <;> try simp [hc])
      | (with_reducible refine GDsplitB (fun hc => ?_) (fun hc => ?_) <;> try simp [hc])
      | (with_reducible refine GKsplit (fun hc => ?_) (fun hc => ?_) <;> try simp [hc])
      | (with_reducible refine GKsplitN (fun hc => ?_) (fun hc => ?_) <;> try simp [hc])
      | (with_reducible refine GKsplitNB (fun hc => ?_) (fun hc => ?_) <;> try simp [hc])
      | (with_reducible refine GKsplitB (fun hc => ?_) (fun hc => ?_) <;> try simp [hc])
      | (refine CallK.use (c1) ?_; rintro r G' _ _ ⟨rfl, rfl⟩)
      | simp (disch := first | (with_reducible assumption) | (simp; done) | omega | (simp; omega)) [hkl])
    refine awp_loop' (fun w2 T2 G2 => ∃ j : Nat, j + w2 = (LL t).length ∧ G2 = G' ∧ T2 = ofL [(2, .int .u64 mac), (3, .int .u32 ip), (5, .box [.int .i64 p1, .int .i64 p2]), (13, .box [.int .u64 x0.mac, .int .u32 x0.ip, .int .i64 x0.sw, .int .i64 x0.port, .str x0.host, .str x0.user, .int .i64 x0.u]), (14, .int .i64 e0), (15, .bool (spoofB ((LL t).take j) p1 p2 mac ip)), (45, ofS cVB t), (46, .int .i64 (LL t).length), (47, .int .i64 j)]) (LL t).length ⟨0, by omega, rfl, by simp [spoofB]⟩ ?_
    rintro w2 T2 G2 ⟨j, hj, rfl, rfl⟩ N2 hN2
    by_cases hjl : j < (LL t).length
    · obtain ⟨x, hx⟩ : ∃ x, x = (LL t)[j] := ⟨_, rfl⟩
      have htk := take_succ_get (LL t) j hjl
      rw [← hx] at htk
      have e1 : spoofB ((LL t).take (j + 1)) p1 p2 mac ip = (spoofB ((LL t).take j) p1 p2 mac ip || decide (x.sw = p1 ∧ x.port = p2 ∧ x.mac = mac ∧ x.ip = ip ∧ ¬ x.user = ByteArray.empty)) := by
        unfold spoofB; rw [htk, List.any_append]; simp
      obtain ⟨v, hv⟩ : ∃ v, v = spoofB ((LL t).take j) p1 p2 mac ip := ⟨_, rfl⟩
      rw [← hv] at e1 ⊢
      cases v with
      | true =>
        repeat' (first
          | refine awp_seqK fun K' hpK => ?_
          | refine awp_block ?_
          | refine awp_condG fun A' B' hpA hpB => ?_
          | refine useK (by with_reducible assumption) ?_
          | refine useP (by with_reducible assumption) ?_
          | refine ED_cons (fun _ => ?_) ?_
          | (refine stable_mk ?_; simp (disch := first | (with_reducible assumption) | (simp; done) | omega | (simp; omega)) [hjl, ofS_idx (f := cVB), cVB, ← hx]; done)
          | (refine stable_no ?_; simp (disch := first | (with_reducible assumption) | (simp; done) | omega | (simp; omega)) [hjl, ofS_idx (f := cVB), cVB, ← hx]; done)
          | (with_reducible refine And.intro ?_ ?_)
          | (with_reducible intro hc)
          | (with_reducible refine GDsplit (fun hc => ?_) (fun hc => ?_) <;> try simp [hc])
          | (with_reducible refine GDsplitN (fun hc => ?_) (fun hc => ?_) <;> try simp [hc])
          | (with_reducible refine GDsplitNB (fun hc => ?_) (fun hc => ?_) <;> try simp [hc])
          | (with_reducible refine GDsplitB (fun hc => ?_) (fun hc => ?_) <;> try simp [hc])
          | (with_reducible refine GKsplit (fun hc => ?_) (fun hc => ?_) <;> try simp [hc])
          | (with_reducible refine GKsplitN (fun hc => ?_) (fun hc => ?_) <;> try simp [hc])
          | (with_reducible refine GKsplitNB (fun hc => ?_) (fun hc => ?_) <;> try simp [hc])
          | (with_reducible refine GKsplitB (fun hc => ?_) (fun hc => ?_) <;> try simp [hc])
          | simp (disch := first | (with_reducible assumption) | (simp; done) | omega | (simp; omega)) [hjl, ofS_idx (f := cVB), cVB, ← hx])
        exact hN2 (w2 - 1) _ _ (by omega) ⟨j + 1, by omega, rfl, by rw [e1]; simp⟩
      | false =>
        by_cases g1 : x.sw = p1 ∧ x.port = p2
        · obtain ⟨g1, g2⟩ := g1
          by_cases g3 : x.mac = mac
          · by_cases g4 : x.ip = ip
            · by_cases g5 : x.user = ByteArray.empty
              · repeat' (first
                  | refine awp_seqK fun K' hpK => ?_
                  | refine awp_block ?_
                  | refine awp_condG fun A' B' hpA hpB => ?_
                  | refine useK (by with_reducible assumption) ?_
                  | refine useP (by with_reducible assumption) ?_
                  | refine ED_cons (fun _ => ?_) ?_
                  | (refine stable_mk ?_; simp (disch := first | (with_reducible assumption) | (simp; done) | omega | (simp; omega)) [hjl, ofS_idx (f := cVB), cVB, ← hx, g1, g2, g3, g4, g5]; done)
                  | (refine stable_no ?_; simp (disch := first | (with_reducible assumption) | (simp; done) | omega | (simp; omega)) [hjl, ofS_idx (f := cVB), cVB, ← hx, g1, g2, g3, g4, g5]; done)
                  | (with_reducible refine And.intro ?_ ?_)
                  | (with_reducible intro hc)
                  | (with_reducible refine GDsplit (fun hc => ?_) (fun hc => ?_) <;> try simp [hc])
                  | (with_reducible refine GDsplitN (fun hc => ?_) (fun hc => ?_) <;> try simp [hc])
                  | (with_reducible refine GDsplitNB (fun hc => ?_) (fun hc => ?_) <;> try simp [hc])
                  | (with_reducible refine GDsplitB (fun hc => ?_) (fun hc => ?_) <;> try simp [hc])
                  | (with_reducible refine GKsplit (fun hc => ?_) (fun hc => ?_) <;> try simp [hc])
                  | (with_reducible refine GKsplitN (fun hc => ?_) (fun hc => ?_) <;> try simp [hc])
                  | (with_reducible refine GKsplitNB (fun hc => ?_) (fun hc => ?_) <;> try simp [hc])
                  | (with_reducible refine GKsplitB (fun hc => ?_) (fun hc => ?_) <;> try simp [hc])
                  | simp (disch := first | (with_reducible assumption) | (simp; done) | omega | (simp; omega)) [hjl, ofS_idx (f := cVB), cVB, ← hx, g1, g2, g3, g4, g5])
                exact hN2 (w2 - 1) _ _ (by omega) ⟨j + 1, by omega, rfl, by rw [e1]; simp [g1, g2, g3, g4, g5]⟩
              · repeat' (first
                  | refine awp_seqK fun K' hpK => ?_
                  | refine awp_block ?_
                  | refine awp_condG fun A' B' hpA hpB => ?_
                  | refine useK (by with_reducible assumption) ?_
                  | refine useP (by with_reducible assumption) ?_
                  | refine ED_cons (fun _ => ?_) ?_
                  | (refine stable_mk ?_; simp (disch := first | (with_reducible assumption) | (simp; done) | omega | (simp; omega)) [hjl, ofS_idx (f := cVB), cVB, ← hx, g1, g2, g3, g4, g5]; done)
                  | (refine stable_no ?_; simp (disch := first | (with_reducible assumption) | (simp; done) | omega | (simp; omega)) [hjl, ofS_idx (f := cVB), cVB, ← hx, g1, g2, g3, g4, g5]; done)
                  | (with_reducible refine And.intro ?_ ?_)
                  | (with_reducible intro hc)
                  | (with_reducible refine GDsplit (fun hc => ?_) (fun hc => ?_) <;> try simp [hc])
                  | (with_reducible refine GDsplitN (fun hc => ?_) (fun hc => ?_) <;> try simp [hc])
                  | (with_reducible refine GDsplitNB (fun hc => ?_) (fun hc => ?_) <;> try simp [hc])
                  | (with_reducible refine GDsplitB (fun hc => ?_) (fun hc => ?_) <;> try simp [hc])
                  | (with_reducible refine GKsplit (fun hc => ?_) (fun hc => ?_) <;> try simp [hc])
                  | (with_reducible refine GKsplitN (fun hc => ?_) (fun hc => ?_) <;> try simp [hc])
                  | (with_reducible refine GKsplitNB (fun hc => ?_) (fun hc => ?_) <;> try simp [hc])
                  | (with_reducible refine GKsplitB (fun hc => ?_) (fun hc => ?_) <;> try simp [hc])
                  | simp (disch := first | (with_reducible assumption) | (simp; done) | omega | (simp; omega)) [hjl, ofS_idx (f := cVB), cVB, ← hx, g1, g2, g3, g4, g5])
                exact hN2 (w2 - 1) _ _ (by omega) ⟨j + 1, by omega, rfl, by rw [e1]; simp [g1, g2, g3, g4, g5]⟩
            · repeat' (first
                | refine awp_seqK fun K' hpK => ?_
                | refine awp_block ?_
                | refine awp_condG fun A' B' hpA hpB => ?_
                | refine useK (by with_reducible assumption) ?_
                | refine useP (by with_reducible assumption) ?_
                | refine ED_cons (fun _ => ?_) ?_
                | (refine stable_mk ?_; simp (disch := first | (with_reducible assumption) | (simp; done) | omega | (simp; omega)) [hjl, ofS_idx (f := cVB), cVB, ← hx, g1, g2, g3, g4]; done)
                | (refine stable_no ?_; simp (disch := first | (with_reducible assumption) | (simp; done) | omega | (simp; omega)) [hjl, ofS_idx (f := cVB), cVB, ← hx, g1, g2, g3, g4]; done)
                | (with_reducible refine And.intro ?_ ?_)
                | (with_reducible intro hc)
                | (with_reducible refine GDsplit (fun hc => ?_) (fun hc => ?_) <;> try simp [hc])
                | (with_reducible refine GDsplitN (fun hc => ?_) (fun hc => ?_) <;> try simp [hc])
                | (with_reducible refine GDsplitNB (fun hc => ?_) (fun hc => ?_) <;> try simp [hc])
                | (with_reducible refine GDsplitB (fun hc => ?_) (fun hc => ?_) <;> try simp [hc])
                | (with_reducible refine GKsplit (fun hc => ?_) (fun hc => ?_) <;> try simp [hc])
                | (with_reducible refine GKsplitN (fun hc => ?_) (fun hc => ?_) <;> try simp [hc])
                | (with_reducible refine GKsplitNB (fun hc => ?_) (fun hc => ?_) <;> try simp [hc])
                | (with_reducible refine GKsplitB (fun hc => ?_) (fun hc => ?_) <;> try simp [hc])
                | simp (disch := first | (with_reducible assumption) | (simp; done) | omega | (simp; omega)) [hjl, ofS_idx (f := cVB), cVB, ← hx, g1, g2, g3, g4])
              exact hN2 (w2 - 1) _ _ (by omega) ⟨j + 1, by omega, rfl, by rw [e1]; simp [g1, g2, g3, g4]⟩
          · repeat' (first
              | refine awp_seqK fun K' hpK => ?_
              | refine awp_block ?_
              | refine awp_condG fun A' B' hpA hpB => ?_
              | refine useK (by with_reducible assumption) ?_
              | refine useP (by with_reducible assumption) ?_
              | refine ED_cons (fun _ => ?_) ?_
              | (refine stable_mk ?_; simp (disch := first | (with_reducible assumption) | (simp; done) | omega | (simp; omega)) [hjl, ofS_idx (f := cVB), cVB, ← hx, g1, g2, g3]; done)
              | (refine stable_no ?_; simp (disch := first | (with_reducible assumption) | (simp; done) | omega | (simp; omega)) [hjl, ofS_idx (f := cVB), cVB, ← hx, g1, g2, g3]; done)
              | (with_reducible refine And.intro ?_ ?_)
              | (with_reducible intro hc)
              | (with_reducible refine GDsplit (fun hc => ?_) (fun hc => ?_) <;> try simp [hc])
              | (with_reducible refine GDsplitN (fun hc => ?_) (fun hc => ?_) <;> try simp [hc])
              | (with_reducible refine GDsplitNB (fun hc => ?_) (fun hc => ?_) <;> try simp [hc])
              | (with_reducible refine GDsplitB (fun hc => ?_) (fun hc => ?_) <;> try simp [hc])
              | (with_reducible refine GKsplit (fun hc => ?_) (fun hc => ?_) <;> try simp [hc])
              | (with_reducible refine GKsplitN (fun hc => ?_) (fun hc => ?_) <;> try simp [hc])
              | (with_reducible refine GKsplitNB (fun hc => ?_) (fun hc => ?_) <;> try simp [hc])
              | (with_reducible refine GKsplitB (fun hc => ?_) (fun hc => ?_) <;> try simp [hc])
              | simp (disch := first | (with_reducible assumption) | (simp; done) | omega | (simp; omega)) [hjl, ofS_idx (f := cVB), cVB, ← hx, g1, g2, g3])
            exact hN2 (w2 - 1) _ _ (by omega) ⟨j + 1, by omega, rfl, by rw [e1]; simp [g1, g2, g3]⟩
        · have g1' : decide (x.sw = p1 ∧ x.port = p2 ∧ x.mac = mac ∧ x.ip = ip ∧ ¬ x.user = ByteArray.empty) = false := decide_eq_false fun h => g1 ⟨h.1, h.2.1⟩
          repeat' (first
            | refine awp_seqK fun K' hpK => ?_
            | refine awp_block ?_
            | refine awp_condG fun A' B' hpA hpB => ?_
            | refine useK (by with_reducible assumption) ?_
            | refine useP (by with_reducible assumption) ?_
            | refine ED_cons (fun _ => ?_) ?_
            | (refine stable_mk ?_; simp (disch := first | (with_reducible assumption) | (simp; done) | omega | (simp; omega)) [hjl, ofS_idx (f := cVB), cVB, ← hx, g1]; done)
            | (refine stable_no ?_; simp (disch := first | (with_reducible assumption) | (simp; done) | omega | (simp; omega)) [hjl, ofS_idx (f := cVB), cVB, ← hx, g1]; done)
            | (with_reducible refine And.intro ?_ ?_)
            | (with_reducible intro hc)
            | (with_reducible refine GDsplit (fun hc => ?_) (fun hc => ?_) <;> try simp [hc])
            | (with_reducible refine GDsplitN (fun hc => ?_) (fun hc => ?_) <;> try simp [hc])
            | (with_reducible refine GDsplitNB (fun hc => ?_) (fun hc => ?_) <;> try simp [hc])
            | (with_reducible refine GDsplitB (fun hc => ?_) (fun hc => ?_) <;> try simp [hc])
            | (with_reducible refine GKsplit (fun hc => ?_) (fun hc => ?_) <;> try simp [hc])
            | (with_reducible refine GKsplitN (fun hc => ?_) (fun hc => ?_) <;> try simp [hc])
            | (with_reducible refine GKsplitNB (fun hc => ?_) (fun hc => ?_) <;> try simp [hc])
            | (with_reducible refine GKsplitB (fun hc => ?_) (fun hc => ?_) <;> try simp [hc])
            | simp (disch := first | (with_reducible assumption) | (simp; done) | omega | (simp; omega)) [hjl, ofS_idx (f := cVB), cVB, ← hx, g1])
          exact hN2 (w2 - 1) _ _ (by omega) ⟨j + 1, by omega, rfl, by rw [e1, g1']; simp⟩
    · rw [List.take_of_length_le (by omega)]
      by_cases he : e0 = 0
      · have ha : spoofB (LL t) p1 p2 mac ip = true := hany.1 he
        obtain ⟨y, hy, y1, y2, y3, y4, y5, y6⟩ := hmem he
        injection hy with hy1 hy2
        subst hy1
        have n1 := fun G => rname_c (s := x0.user) (G := G)
        have n2 := fun G => rname_c (s := x0.host) (G := G)
        rw [y5] at n1; rw [y6] at n2
        rw [ha]
        repeat' (first
          | refine awp_seqK fun K' hpK => ?_
          | refine awp_block ?_
          | refine awp_condG fun A' B' hpA hpB => ?_
          | refine useK (by with_reducible assumption) ?_
          | refine useP (by with_reducible assumption) ?_
          | refine ED_cons (fun _ => ?_) ?_
          | (refine stable_mk ?_; simp (disch := first | (with_reducible assumption) | (simp; done) | omega | (simp; omega)) [hjl, he, y1, y2, y3, y4]; done)
          | (refine stable_no ?_; simp (disch := first | (with_reducible assumption) | (simp; done) | omega | (simp; omega)) [hjl, he, y1, y2, y3, y4]; done)
          | (with_reducible refine And.intro ?_ ?_)
          | (with_reducible intro hc)
          | (with_reducible refine GDsplit (fun hc => ?_) (fun hc => ?_) <;> try simp [hc])
          | (with_reducible refine GDsplitN (fun hc => ?_) (fun hc => ?_) <;> try simp [hc])
          | (with_reducible refine GDsplitNB (fun hc => ?_) (fun hc => ?_) <;> try simp [hc])
          | (with_reducible refine GDsplitB (fun hc => ?_) (fun hc => ?_) <;> try simp [hc])
          | (with_reducible refine GKsplit (fun hc => ?_) (fun hc => ?_) <;> try simp [hc])
          | (with_reducible refine GKsplitN (fun hc => ?_) (fun hc => ?_) <;> try simp [hc])
          | (with_reducible refine GKsplitNB (fun hc => ?_) (fun hc => ?_) <;> try simp [hc])
          | (with_reducible refine GKsplitB (fun hc => ?_) (fun hc => ?_) <;> try simp [hc])
          | (refine CallK.use (n1 _) ?_; rintro r G' _ _ ⟨rfl, rfl⟩)
          | (refine CallK.use (n2 _) ?_; rintro r G' _ _ ⟨rfl, rfl⟩)
          | (refine CallK.use (awake_c _) ?_; rintro r G' _ _ ⟨rfl, rfl⟩)
          | simp (disch := first | (with_reducible assumption) | (simp; done) | omega | (simp; omega)) [hjl, he, y1, y2, y3, y4])
        exact ends_drop (by simp <;> rfl) (by simp) (hpost _ _ ⟨rfl, rfl⟩)
      · have ha : spoofB (LL t) p1 p2 mac ip = false := by
          cases h : spoofB (LL t) p1 p2 mac ip with
          | false => rfl
          | true => exact absurd (hany.2 h) he
        rw [ha]
        repeat' (first
          | refine awp_seqK fun K' hpK => ?_
          | refine awp_block ?_
          | refine awp_condG fun A' B' hpA hpB => ?_
          | refine useK (by with_reducible assumption) ?_
          | refine useP (by with_reducible assumption) ?_
          | refine ED_cons (fun _ => ?_) ?_
          | (refine stable_mk ?_; simp (disch := first | (with_reducible assumption) | (simp; done) | omega | (simp; omega)) [hjl, he]; done)
          | (refine stable_no ?_; simp (disch := first | (with_reducible assumption) | (simp; done) | omega | (simp; omega)) [hjl, he]; done)
          | (with_reducible refine And.intro ?_ ?_)
          | (with_reducible intro hc)
          | (with_reducible refine GDsplit (fun hc => ?_) (fun hc => ?_) <;> try simp [hc])
          | (with_reducible refine GDsplitN (fun hc => ?_) (fun hc => ?_) <;> try simp [hc])
          | (with_reducible refine GDsplitNB (fun hc => ?_) (fun hc => ?_) <;> try simp [hc])
          | (with_reducible refine GDsplitB (fun hc => ?_) (fun hc => ?_) <;> try simp [hc])
          | (with_reducible refine GKsplit (fun hc => ?_) (fun hc => ?_) <;> try simp [hc])
          | (with_reducible refine GKsplitN (fun hc => ?_) (fun hc => ?_) <;> try simp [hc])
          | (with_reducible refine GKsplitNB (fun hc => ?_) (fun hc => ?_) <;> try simp [hc])
          | (with_reducible refine GKsplitB (fun hc => ?_) (fun hc => ?_) <;> try simp [hc])
          | (refine CallK.use (awake_c _) ?_; rintro r G' _ _ ⟨rfl, rfl⟩)
          | simp (disch := first | (with_reducible assumption) | (simp; done) | omega | (simp; omega)) [hjl, he])
        exact ends_drop (by simp <;> rfl) (by simp) (hpost _ _ ⟨rfl, rfl⟩)
theorem bindSpoof_law (z0 : (TD.slc (.two (.int .i64) (.two (.two (.int .u64) (.two (.int .u32) (.two (.two (.int .i64) (.two (.int .i64) .unit)) (.two .str (.two .str (.two (.int .i64) .unit)))))) (.two (.two (.int .i64) (.two (.int .i64) .unit)) (.two .str (.two (.int .i64) .unit)))))).T) (z1 : (TD.two (.int .i64) (.two (.int .i64) .unit)).T) (z2 : (TD.int .u64).T) (z3 : (TD.int .u32).T) (o0 : (TD.slc (.two (.int .i64) (.two (.two (.int .u64) (.two (.int .u32) (.two (.two (.int .i64) (.two (.int .i64) .unit)) (.two .str (.two .str (.two (.int .i64) .unit)))))) (.two (.two (.int .i64) (.two (.int .i64) .unit)) (.two .str (.two (.int .i64) .unit)))))).ok z0) (o1 : (TD.two (.int .i64) (.two (.int .i64) .unit)).ok z1) (o2 : (TD.int .u64).ok z2) (o3 : (TD.int .u32).ok z3) :
    ACalls Try.prog 3 [(TD.slc (.two (.int .i64) (.two (.two (.int .u64) (.two (.int .u32) (.two (.two (.int .i64) (.two (.int .i64) .unit)) (.two .str (.two .str (.two (.int .i64) .unit)))))) (.two (.two (.int .i64) (.two (.int .i64) .unit)) (.two .str (.two (.int .i64) .unit)))))).av z0, (TD.two (.int .i64) (.two (.int .i64) .unit)).av z1, (TD.int .u64).av z2, (TD.int .u32).av z3] emptyH fun r G' => G' = emptyH ∧ r = .bool true :=
  bindSpoof_c (l := z0) (p1 := z1.1) (p2 := z1.2.1) (mac := z2) (ip := z3) o0.1
end Go.Proofs.Ytmomphnkngbgjaa
