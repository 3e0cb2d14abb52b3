import Derived.Test.YtapocekfkbkefaaD13K
set_option linter.unusedSimpArgs false
set_option linter.unusedVariables false
namespace Go.Proofs.Ytapocekfkbkefaa
open Go Go.Al
set_option maxRecDepth 20000
attribute [local irreducible] awp aops aopsD eop pv ACalls CallK AppK AEnds ti

theorem JK.set {P : List (Int × Int)} {K : List Bool} {U : List Int} (h : JK P K U) (hS : Srt P) {s : Nat} {up : Int} (hs : s < 9) : JK (setL P (s : Int) up) (K.set s true) (U.set s up) := by
  obtain ⟨hK, hU, hJ⟩ := h
  refine ⟨by simpa using hK, by simpa using hU, fun i h1 h2 => ?_⟩
  simp only [List.length_set] at h1 h2
  rw [getL_set hS, List.getElem_set, List.getElem_set]
  by_cases e : s = i
  · subst e; simp
  · have e2 : ¬ ((i : Int) = (s : Int)) := by omega
    rw [if_neg e, if_neg e, if_neg e2]
    exact hJ i h1 h2
theorem JK.del {P : List (Int × Int)} {K : List Bool} {U : List Int} (h : JK P K U) (hS : Srt P) {s : Nat} (hs : s < 9) : JK (delL P (s : Int)) (K.set s false) (U.set s 0) := by
  obtain ⟨hK, hU, hJ⟩ := h
  refine ⟨by simpa using hK, by simpa using hU, fun i h1 h2 => ?_⟩
  simp only [List.length_set] at h1 h2
  rw [getL_del, List.getElem_set, List.getElem_set]
  by_cases e : s = i
  · subst e; simp
  · have e2 : ¬ ((i : Int) = (s : Int)) := by omega
    rw [if_neg e, if_neg e, if_neg e2]
    exact hJ i h1 h2
theorem rc_setK {K : List Bool} {U : List Int} {out : AV} (hK : K.length = 9) {s : Nat} (hs : s < 9) (v : Bool) : (rc K U out).take s ++ .bool v :: (rc K U out).drop (s + 1) = rc (K.set s v) U out := by
  have h1 : (rc K U out).set s (.bool v) = rc (K.set s v) U out := by
    unfold rc
    rw [List.set_append_left _ _ (by simp; omega), List.map_set]
  rw [← h1, List.set_eq_take_append_cons_drop, if_pos (by unfold rc; simp; omega)]
theorem rc_setU {K : List Bool} {U : List Int} {out : AV} (hK : K.length = 9) (hU : U.length = 9) {s : Nat} (hs : s < 9) (v : Int) : (rc K U out).take (9 + s) ++ .int .i64 v :: (rc K U out).drop (9 + s + 1) = rc K (U.set s v) out := by
  have h1 : (rc K U out).set (9 + s) (.int .i64 v) = rc K (U.set s v) out := by
    unfold rc
    rw [List.set_append_right _ _ (by simp; omega), List.set_append_left _ _ (by simp; omega), List.map_set]
    simp [hK]
  rw [← h1, List.set_eq_take_append_cons_drop, if_pos (by unfold rc; simp; omega)]
set_option maxHeartbeats 4000000 in
theorem rports_c {rb : Nat} {G : Hp} {P : List (Int × Int)} {M : List Sn} {sw up : Int} (hR : RH rb G P M) (hO : OKP P) (hl : M.length ≤ 1000) (hok : 1 ≤ sw ∧ sw ≤ 8 ∧ 0 ≤ up ∧ up ≤ 255) : ACalls Try.prog 23 [.ptr rb 0, .int .i64 sw, .int .i64 up] G fun r G' => RH rb G' (setL P sw up) (M.filter fun x => !offP (setL P sw up) x) ∧ ∃ s, r = ofS cLk s ∧ LL s = (M.filter (offP (setL P sw up))).map Sn.lk := by
  obtain ⟨K, U, out, hJ, hg⟩ := hR
  have hat := hg.at
  have hrl := rc_len (out := out) hJ.1 hJ.2.1
  obtain ⟨g1, g2, g3, g4⟩ := hok
  obtain ⟨s, rfl⟩ : ∃ s : Nat, sw = (s : Int) := ⟨sw.toNat, by omega⟩
  have n1 : ¬ (s : Int) < 1 := by omega
  have n2 : ¬ (8 : Int) < s := by omega
  have n3 : ¬ up < 0 := by omega
  have n4 : ¬ 255 < up := by omega
  have n5 : (s : Int) < 9 := by omega
  have n6 : (0 : Int) ≤ s := by omega
  have n7 : s + 1 ≤ 19 := by omega
  have k1 := rc_setK (K := K) (U := U) (out := out) hJ.1 (s := s) (by omega) true
  have k2 := rc_setU (K := K.set s true) (U := U) (out := out) (by simpa using hJ.1) hJ.2.1 (s := s) (by omega) up
  have hR2 : RH rb (setH G rb (some (0, rc (K.set s true) (U.set s up) out))) (setL P (s : Int) up) M := by
    refine ⟨_, _, out, hJ.set hO.1 (by omega), ?_⟩
    have := Grow.set hg (one_same ..) (o' := (0, rc (K.set s true) (U.set s up) out))
    rw [setH_one] at this
    exact this
  have hO2 := hO.set (sw := (s : Int)) (up := up) g1 g2 g3 g4
  have kc := keep0_c (a1 := 0) (a2 := 0) (b1 := 0) (b2 := 0) (now := 0) (most := 0) hR2 hO2 hl
  refine ACalls.hide fun post hpost => ?_
  refine F23_in (by simp) (by simp) fun hbd => ?_
  repeat' (first
    | refine awp_seqK fun K' hpK => ?_
    | refine awp_block ?_
    | refine awp_condG fun A' B' hpA hpB => ?_
    | refine useK (by with_reducible assumption) ?_
    | refine useP (by with_reducible assumption) ?_
    | refine ED_cons (fun _ => ?_) ?_
    | (refine stable_mk ?_; simp (disch := first | (with_reducible assumption) | (simp; done) | omega | (simp; omega)) [hat, hrl, n1, n2, n3, n4, n5, n6, n7]; done)
    | (refine stable_no ?_; simp (disch := first | (with_reducible assumption) | (simp; done) | omega | (simp; omega)) [hat, hrl, n1, n2, n3, n4, n5, n6, n7]; done)
    | (with_reducible refine And.intro ?_ ?_)
    | (with_reducible intro hc)
    | (with_reducible refine GDsplit (fun hc => ?_) (fun hc => ?_) <;> try simp [hc])
    | (with_reducible refine GDsplitN (fun hc => ?_) (fun hc => ?_) <;> try simp [hc])
    | (with_reducible refine GDsplitNB (fun hc => ?_) (fun hc => ?_) <;> try simp [hc])
    | (with_reducible refine GDsplitB (fun hc => ?_) (fun hc => ?_) <;> try simp [hc])
    | (with_reducible refine GKsplit (fun hc => ?_) (fun hc => ?_) <;> try simp [hc])
    | (with_reducible refine GKsplitN (fun hc => ?_) (fun hc => ?_) <;> try simp [hc])
    | (with_reducible refine GKsplitNB (fun hc => ?_) (fun hc => ?_) <;> try simp [hc])
    | (with_reducible refine GKsplitB (fun hc => ?_) (fun hc => ?_) <;> try simp [hc])
    | simp (disch := first | (with_reducible assumption) | (simp; done) | omega | (simp; omega)) [hat, hrl, n1, n2, n3, n4, n5, n6, n7])
  rw [setH_setH, k1, k2]
  refine CallK.use kc ?_
  rintro r G3 _ _ ⟨hR3, t, rfl, ht⟩
  repeat' (first
    | refine awp_seqK fun K' hpK => ?_
    | refine awp_block ?_
    | refine awp_condG fun A' B' hpA hpB => ?_
    | refine useK (by with_reducible assumption) ?_
    | refine useP (by with_reducible assumption) ?_
    | refine ED_cons (fun _ => ?_) ?_
    | (refine stable_mk ?_; simp (disch := first | (with_reducible assumption) | (simp; done) | omega | (simp; omega)); done)
    | (refine stable_no ?_; simp (disch := first | (with_reducible assumption) | (simp; done) | omega | (simp; omega)); done)
    | (with_reducible refine And.intro ?_ ?_)
    | (with_reducible intro hc)
    | (with_reducible refine GDsplit (fun hc => ?_) (fun hc => ?_) <;> try simp [hc])
    | (with_reducible refine GDsplitN (fun hc => ?_) (fun hc => ?_) <;> try simp [hc])
    | (with_reducible refine GDsplitNB (fun hc => ?_) (fun hc => ?_) <;> try simp [hc])
    | (with_reducible refine GDsplitB (fun hc => ?_) (fun hc => ?_) <;> try simp [hc])
    | (with_reducible refine GKsplit (fun hc => ?_) (fun hc => ?_) <;> try simp [hc])
    | (with_reducible refine GKsplitN (fun hc => ?_) (fun hc => ?_) <;> try simp [hc])
    | (with_reducible refine GKsplitNB (fun hc => ?_) (fun hc => ?_) <;> try simp [hc])
    | (with_reducible refine GKsplitB (fun hc => ?_) (fun hc => ?_) <;> try simp [hc])
    | simp (disch := first | (with_reducible assumption) | (simp; done) | omega | (simp; omega)))
  exact ends_one (by simp <;> rfl) (by simp) (hpost _ _ ⟨hR3, t, rfl, ht⟩)
theorem rports_no {rb : Nat} {G : Hp} {sw up : Int} (hok : ¬ (1 ≤ sw ∧ sw ≤ 8 ∧ 0 ≤ up ∧ up ≤ 255)) : ACalls Try.prog 23 [.ptr rb 0, .int .i64 sw, .int .i64 up] G fun r G' => G' = G ∧ r = .nils := by
  by_cases n1 : sw < 1
  · refine ACalls.hide fun post hpost => ?_
    refine F23_in (by simp) (by simp) fun hbd => ?_
    repeat' (first
      | refine awp_seqK fun K' hpK => ?_
      | refine awp_block ?_
      | refine awp_condG fun A' B' hpA hpB => ?_
      | refine useK (by with_reducible assumption) ?_
      | refine useP (by with_reducible assumption) ?_
      | refine ED_cons (fun _ => ?_) ?_
      | (refine stable_mk ?_; simp (disch := first | (with_reducible assumption) | (simp; done) | omega | (simp; omega)) [n1]; done)
      | (refine stable_no ?_; simp (disch := first | (with_reducible assumption) | (simp; done) | omega | (simp; omega)) [n1]; done)
      | (with_reducible refine And.intro ?_ ?_)
      | (with_reducible intro hc)
      | (with_reducible refine GDsplit (fun hc => ?_) (fun hc => ?_) <;> try simp [hc])
      | (with_reducible refine GDsplitN (fun hc => ?_) (fun hc => ?_) <;> try simp [hc])
      | (with_reducible refine GDsplitNB (fun hc => ?_) (fun hc => ?_) <;> try simp [hc])
      | (with_reducible refine GDsplitB (fun hc => ?_) (fun hc => ?_) <;> try simp [hc])
      | (with_reducible refine GKsplit (fun hc => ?_) (fun hc => ?_) <;> try simp [hc])
      | (with_reducible refine GKsplitN (fun hc => ?_) (fun hc => ?_) <;> try simp [hc])
      | (with_reducible refine GKsplitNB (fun hc => ?_) (fun hc => ?_) <;> try simp [hc])
      | (with_reducible refine GKsplitB (fun hc => ?_) (fun hc => ?_) <;> try simp [hc])
      | simp (disch := first | (with_reducible assumption) | (simp; done) | omega | (simp; omega)) [n1])
    exact ends_one (by simp <;> rfl) (by simp) (hpost _ _ ⟨rfl, rfl⟩)
  by_cases n2 : 8 < sw
  · refine ACalls.hide fun post hpost => ?_
    refine F23_in (by simp) (by simp) fun hbd => ?_
    repeat' (first
      | refine awp_seqK fun K' hpK => ?_
      | refine awp_block ?_
      | refine awp_condG fun A' B' hpA hpB => ?_
      | refine useK (by with_reducible assumption) ?_
      | refine useP (by with_reducible assumption) ?_
      | refine ED_cons (fun _ => ?_) ?_
      | (refine stable_mk ?_; simp (disch := first | (with_reducible assumption) | (simp; done) | omega | (simp; omega)) [n1, n2]; done)
      | (refine stable_no ?_; simp (disch := first | (with_reducible assumption) | (simp; done) | omega | (simp; omega)) [n1, n2]; done)
      | (with_reducible refine And.intro ?_ ?_)
      | (with_reducible intro hc)
      | (with_reducible refine GDsplit (fun hc => ?_) (fun hc => ?_) <;> try simp [hc])
      | (with_reducible refine GDsplitN (fun hc => ?_) (fun hc => ?_) <;> try simp [hc])
      | (with_reducible refine GDsplitNB (fun hc => ?_) (fun hc => ?_) <;> try simp [hc])
      | (with_reducible refine GDsplitB (fun hc => ?_) (fun hc => ?_) <;> try simp [hc])
      | (with_reducible refine GKsplit (fun hc => ?_) (fun hc => ?_) <;> try simp [hc])
      | (with_reducible refine GKsplitN (fun hc => ?_) (fun hc => ?_) <;> try simp [hc])
      | (with_reducible refine GKsplitNB (fun hc => ?_) (fun hc => ?_) <;> try simp [hc])
      | (with_reducible refine GKsplitB (fun hc => ?_) (fun hc => ?_) <;> try simp [hc])
      | simp (disch := first | (with_reducible assumption) | (simp; done) | omega | (simp; omega)) [n1, n2])
    exact ends_one (by simp <;> rfl) (by simp) (hpost _ _ ⟨rfl, rfl⟩)
  by_cases n3 : up < 0
  · refine ACalls.hide fun post hpost => ?_
    refine F23_in (by simp) (by simp) fun hbd => ?_
    repeat' (first
      | refine awp_seqK fun K' hpK => ?_
      | refine awp_block ?_
      | refine awp_condG fun A' B' hpA hpB => ?_
      | refine useK (by with_reducible assumption) ?_
      | refine useP (by with_reducible assumption) ?_
      | refine ED_cons (fun _ => ?_) ?_
      | (refine stable_mk ?_; simp (disch := first | (with_reducible assumption) | (simp; done) | omega | (simp; omega)) [n1, n2, n3]; done)
      | (refine stable_no ?_; simp (disch := first | (with_reducible assumption) | (simp; done) | omega | (simp; omega)) [n1, n2, n3]; done)
      | (with_reducible refine And.intro ?_ ?_)
      | (with_reducible intro hc)
      | (with_reducible refine GDsplit (fun hc => ?_) (fun hc => ?_) <;> try simp [hc])
      | (with_reducible refine GDsplitN (fun hc => ?_) (fun hc => ?_) <;> try simp [hc])
      | (with_reducible refine GDsplitNB (fun hc => ?_) (fun hc => ?_) <;> try simp [hc])
      | (with_reducible refine GDsplitB (fun hc => ?_) (fun hc => ?_) <;> try simp [hc])
      | (with_reducible refine GKsplit (fun hc => ?_) (fun hc => ?_) <;> try simp [hc])
      | (with_reducible refine GKsplitN (fun hc => ?_) (fun hc => ?_) <;> try simp [hc])
      | (with_reducible refine GKsplitNB (fun hc => ?_) (fun hc => ?_) <;> try simp [hc])
      | (with_reducible refine GKsplitB (fun hc => ?_) (fun hc => ?_) <;> try simp [hc])
      | simp (disch := first | (with_reducible assumption) | (simp; done) | omega | (simp; omega)) [n1, n2, n3])
    exact ends_one (by simp <;> rfl) (by simp) (hpost _ _ ⟨rfl, rfl⟩)
  have n4 : 255 < up := by omega
  refine ACalls.hide fun post hpost => ?_
  refine F23_in (by simp) (by simp) fun hbd => ?_
  repeat' (first
    | refine awp_seqK fun K' hpK => ?_
    | refine awp_block ?_
    | refine awp_condG fun A' B' hpA hpB => ?_
    | refine useK (by with_reducible assumption) ?_
    | refine useP (by with_reducible assumption) ?_
    | refine ED_cons (fun _ => ?_) ?_
    | (refine stable_mk ?_; simp (disch := first | (with_reducible assumption) | (simp; done) | omega | (simp; omega)) [n1, n2, n3, n4]; done)
    | (refine stable_no ?_; simp (disch := first | (with_reducible assumption) | (simp; done) | omega | (simp; omega)) [n1, n2, n3, n4]; done)
    | (with_reducible refine And.intro ?_ ?_)
    | (with_reducible intro hc)
    | (with_reducible refine GDsplit (fun hc => ?_) (fun hc => ?_) <;> try simp [hc])
    | (with_reducible refine GDsplitN (fun hc => ?_) (fun hc => ?_) <;> try simp [hc])
    | (with_reducible refine GDsplitNB (fun hc => ?_) (fun hc => ?_) <;> try simp [hc])
    | (with_reducible refine GDsplitB (fun hc => ?_) (fun hc => ?_) <;> try simp [hc])
    | (with_reducible refine GKsplit (fun hc => ?_) (fun hc => ?_) <;> try simp [hc])
    | (with_reducible refine GKsplitN (fun hc => ?_) (fun hc => ?_) <;> try simp [hc])
    | (with_reducible refine GKsplitNB (fun hc => ?_) (fun hc => ?_) <;> try simp [hc])
    | (with_reducible refine GKsplitB (fun hc => ?_) (fun hc => ?_) <;> try simp [hc])
    | simp (disch := first | (with_reducible assumption) | (simp; done) | omega | (simp; omega)) [n1, n2, n3, n4])
  exact ends_one (by simp <;> rfl) (by simp) (hpost _ _ ⟨rfl, rfl⟩)
theorem delL_id {P : List (Int × Int)} {k : Int} (h : ∀ q ∈ P, q.1 ≠ k) : delL P k = P := by
  unfold delL
  rw [List.filter_eq_self]
  intro q hq; simpa using h q hq
set_option maxHeartbeats 4000000 in
theorem rdrop_c {rb : Nat} {G : Hp} {P : List (Int × Int)} {M : List Sn} {sw : Int} (hR : RH rb G P M) (hO : OKP P) (hl : M.length ≤ 1000) : ACalls Try.prog 25 [.ptr rb 0, .int .i64 sw] G fun r G' => RH rb G' (delL P sw) (M.filter fun x => !atSw sw x) ∧ ∃ s, r = ofS cLk s ∧ LL s = (M.filter (atSw sw)).map Sn.lk := by
  by_cases hok : 1 ≤ sw ∧ sw ≤ 8
  · obtain ⟨K, U, out, hJ, hg⟩ := hR
    have hat := hg.at
    have hrl := rc_len (out := out) hJ.1 hJ.2.1
    obtain ⟨g1, g2⟩ := hok
    obtain ⟨s, rfl⟩ : ∃ s : Nat, sw = (s : Int) := ⟨sw.toNat, by omega⟩
    have n1 : (1 : Int) ≤ s := by omega
    have n2 : (s : Int) ≤ 8 := by omega
    have n5 : (s : Int) < 9 := by omega
    have n6 : (0 : Int) ≤ s := by omega
    have n7 : s + 1 ≤ 19 := by omega
    have k1 := rc_setK (K := K) (U := U) (out := out) hJ.1 (s := s) (by omega) false
    have k2 := rc_setU (K := K.set s false) (U := U) (out := out) (by simpa using hJ.1) hJ.2.1 (s := s) (by omega) 0
    have hR2 : RH rb (setH G rb (some (0, rc (K.set s false) (U.set s 0) out))) (delL P (s : Int)) M := by
      refine ⟨_, _, out, hJ.del hO.1 (by omega), ?_⟩
      have := Grow.set hg (one_same ..) (o' := (0, rc (K.set s false) (U.set s 0) out))
      rw [setH_one] at this
      exact this
    have kc := keep2_c (a1 := s) (a2 := 0) (b1 := 0) (b2 := 0) (now := 0) (most := 0) hR2 (hO.del _) hl
    refine ACalls.hide fun post hpost => ?_
    refine F25_in (by simp) (by simp) fun hbd => ?_
    repeat' (first
      | refine awp_seqK fun K' hpK => ?_
      | refine awp_block ?_
      | refine awp_condG fun A' B' hpA hpB => ?_
      | refine useK (by with_reducible assumption) ?_
      | refine useP (by with_reducible assumption) ?_
      | refine ED_cons (fun _ => ?_) ?_
      | (refine stable_mk ?_; simp (disch := first | (with_reducible assumption) | (simp; done) | omega | (simp; omega)) [hat, hrl, n1, n2, n5, n6, n7]; done)
      | (refine stable_no ?_; simp (disch := first | (with_reducible assumption) | (simp; done) | omega | (simp; omega)) [hat, hrl, n1, n2, n5, n6, n7]; done)
      | (with_reducible refine And.intro ?_ ?_)
      | (with_reducible intro hc)
      | (with_reducible refine GDsplit (fun hc => ?_) (fun hc => ?_) <;> try simp [hc])
      | (with_reducible refine GDsplitN (fun hc => ?_) (fun hc => ?_) <;> try simp [hc])
      | (with_reducible refine GDsplitNB (fun hc => ?_) (fun hc => ?_) <;> try simp [hc])
      | (with_reducible refine GDsplitB (fun hc => ?_) (fun hc => ?_) <;> try simp [hc])
      | (with_reducible refine GKsplit (fun hc => ?_) (fun hc => ?_) <;> try simp [hc])
      | (with_reducible refine GKsplitN (fun hc => ?_) (fun hc => ?_) <;> try simp [hc])
      | (with_reducible refine GKsplitNB (fun hc => ?_) (fun hc => ?_) <;> try simp [hc])
      | (with_reducible refine GKsplitB (fun hc => ?_) (fun hc => ?_) <;> try simp [hc])
      | simp (disch := first | (with_reducible assumption) | (simp; done) | omega | (simp; omega)) [hat, hrl, n1, n2, n5, n6, n7])
    rw [setH_setH, k1, k2]
    refine CallK.use kc ?_
    rintro r G3 _ _ ⟨hR3, t, rfl, ht⟩
    repeat' (first
      | refine awp_seqK fun K' hpK => ?_
      | refine awp_block ?_
      | refine awp_condG fun A' B' hpA hpB => ?_
      | refine useK (by with_reducible assumption) ?_
      | refine useP (by with_reducible assumption) ?_
      | refine ED_cons (fun _ => ?_) ?_
      | (refine stable_mk ?_; simp (disch := first | (with_reducible assumption) | (simp; done) | omega | (simp; omega)); done)
      | (refine stable_no ?_; simp (disch := first | (with_reducible assumption) | (simp; done) | omega | (simp; omega)); done)
      | (with_reducible refine And.intro ?_ ?_)
      | (with_reducible intro hc)
      | (with_reducible refine GDsplit (fun hc => ?_) (fun hc => ?_) <;> try simp [hc])
      | (with_reducible refine GDsplitN (fun hc => ?_) (fun hc => ?_) <;> try simp [hc])
      | (with_reducible refine GDsplitNB (fun hc => ?_) (fun hc => ?_) <;> try simp [hc])
      | (with_reducible refine GDsplitB (fun hc => ?_) (fun hc => ?_) <;> try simp [hc])
      | (with_reducible refine GKsplit (fun hc => ?_) (fun hc => ?_) <;> try simp [hc])
      | (with_reducible refine GKsplitN (fun hc => ?_) (fun hc => ?_) <;> try simp [hc])
      | (with_reducible refine GKsplitNB (fun hc => ?_) (fun hc => ?_) <;> try simp [hc])
      | (with_reducible refine GKsplitB (fun hc => ?_) (fun hc => ?_) <;> try simp [hc])
      | simp (disch := first | (with_reducible assumption) | (simp; done) | omega | (simp; omega)))
    exact ends_one (by simp <;> rfl) (by simp) (hpost _ _ ⟨hR3, t, rfl, ht⟩)
  · have kc := keep2_c (a1 := sw) (a2 := 0) (b1 := 0) (b2 := 0) (now := 0) (most := 0) hR hO hl
    rw [delL_id (by intro q hq e; have := hO.2 q hq; omega)]
    by_cases n1 : 1 ≤ sw
    · have n2 : ¬ sw ≤ 8 := by omega
      refine ACalls.hide fun post hpost => ?_
      refine F25_in (by simp) (by simp) fun hbd => ?_
      repeat' (first
        | refine awp_seqK fun K' hpK => ?_
        | refine awp_block ?_
        | refine awp_condG fun A' B' hpA hpB => ?_
        | refine useK (by with_reducible assumption) ?_
        | refine useP (by with_reducible assumption) ?_
        | refine ED_cons (fun _ => ?_) ?_
        | (refine stable_mk ?_; simp (disch := first | (with_reducible assumption) | (simp; done) | omega | (simp; omega)) [n1, n2]; done)
        | (refine stable_no ?_; simp (disch := first | (with_reducible assumption) | (simp; done) | omega | (simp; omega)) [n1, n2]; done)
        | (with_reducible refine And.intro ?_ ?_)
        | (with_reducible intro hc)
        | (with_reducible refine GDsplit (fun hc => ?_) (fun hc => ?_) <;> try simp [hc])
        | (with_reducible refine GDsplitN (fun hc => ?_) (fun hc => ?_) <;> try simp [hc])
        | (with_reducible refine GDsplitNB (fun hc => ?_) (fun hc => ?_) <;> try simp [hc])
        | (with_reducible refine GDsplitB (fun hc => ?_) (fun hc => ?_) <;> try simp [hc])
        | (with_reducible refine GKsplit (fun hc => ?_) (fun hc => ?_) <;> try simp [hc])
        | (with_reducible refine GKsplitN (fun hc => ?_) (fun hc => ?_) <;> try simp [hc])
        | (with_reducible refine GKsplitNB (fun hc => ?_) (fun hc => ?_) <;> try simp [hc])
        | (with_reducible refine GKsplitB (fun hc => ?_) (fun hc => ?_) <;> try simp [hc])
        | simp (disch := first | (with_reducible assumption) | (simp; done) | omega | (simp; omega)) [n1, n2])
      refine CallK.use kc ?_
      rintro r G3 _ _ ⟨hR3, t, rfl, ht⟩
      repeat' (first
        | refine awp_seqK fun K' hpK => ?_
        | refine awp_block ?_
        | refine awp_condG fun A' B' hpA hpB => ?_
        | refine useK (by with_reducible assumption) ?_
        | refine useP (by with_reducible assumption) ?_
        | refine ED_cons (fun _ => ?_) ?_
        | (refine stable_mk ?_; simp (disch := first | (with_reducible assumption) | (simp; done) | omega | (simp; omega)); done)
        | (refine stable_no ?_; simp (disch := first | (with_reducible assumption) | (simp; done) | omega | (simp; omega)); done)
        | (with_reducible refine And.intro ?_ ?_)
        | (with_reducible intro hc)
        | (with_reducible refine GDsplit (fun hc => ?_) (fun hc => ?_) <;> try simp [hc])
        | (with_reducible refine GDsplitN (fun hc => ?_) (fun hc => ?_) <;> try simp [hc])
        | (with_reducible refine GDsplitNB (fun hc => ?_) (fun hc => ?_) <;> try simp [hc])
        | (with_reducible refine GDsplitB (fun hc => ?_) (fun hc => ?_) <;> try simp [hc])
        | (with_reducible refine GKsplit (fun hc => ?_) (fun hc => ?_) <;> try simp [hc])
        | (with_reducible refine GKsplitN (fun hc => ?_) (fun hc => ?_) <;> try simp [hc])
        | (with_reducible refine GKsplitNB (fun hc => ?_) (fun hc => ?_) <;> try simp [hc])
        | (with_reducible refine GKsplitB (fun hc => ?_) (fun hc => ?_) <;> try simp [hc])
        | simp (disch := first | (with_reducible assumption) | (simp; done) | omega | (simp; omega)))
      exact ends_one (by simp <;> rfl) (by simp) (hpost _ _ ⟨hR3, t, rfl, ht⟩)
    · refine ACalls.hide fun post hpost => ?_
      refine F25_in (by simp) (by simp) fun hbd => ?_
      repeat' (first
        | refine awp_seqK fun K' hpK => ?_
        | refine awp_block ?_
        | refine awp_condG fun A' B' hpA hpB => ?_
        | refine useK (by with_reducible assumption) ?_
        | refine useP (by with_reducible assumption) ?_
        | refine ED_cons (fun _ => ?_) ?_
        | (refine stable_mk ?_; simp (disch := first | (with_reducible assumption) | (simp; done) | omega | (simp; omega)) [n1]; done)
        | (refine stable_no ?_; simp (disch := first | (with_reducible assumption) | (simp; done) | omega | (simp; omega)) [n1]; done)
        | (with_reducible refine And.intro ?_ ?_)
        | (with_reducible intro hc)
        | (with_reducible refine GDsplit (fun hc => ?_) (fun hc => ?_) <;> try simp [hc])
        | (with_reducible refine GDsplitN (fun hc => ?_) (fun hc => ?_) <;> try simp [hc])
        | (with_reducible refine GDsplitNB (fun hc => ?_) (fun hc => ?_) <;> try simp [hc])
        | (with_reducible refine GDsplitB (fun hc => ?_) (fun hc => ?_) <;> try simp [hc])
        | (with_reducible refine GKsplit (fun hc => ?_) (fun hc => ?_) <;> try simp [hc])
        | (with_reducible refine GKsplitN (fun hc => ?_) (fun hc => ?_) <;> try simp [hc])
        | (with_reducible refine GKsplitNB (fun hc => ?_) (fun hc => ?_) <;> try simp [hc])
        | (with_reducible refine GKsplitB (fun hc => ?_) (fun hc => ?_) <;> try simp [hc])
        | simp (disch := first | (with_reducible assumption) | (simp; done) | omega | (simp; omega)) [n1])
      refine CallK.use kc ?_
      rintro r G3 _ _ ⟨hR3, t, rfl, ht⟩
      repeat' (first
        | refine awp_seqK fun K' hpK => ?_
        | refine awp_block ?_
        | refine awp_condG fun A' B' hpA hpB => ?_
        | refine useK (by with_reducible assumption) ?_
        | refine useP (by with_reducible assumption) ?_
        | refine ED_cons (fun _ => ?_) ?_
        | (refine stable_mk ?_; simp (disch := first | (with_reducible assumption) | (simp; done) | omega | (simp; omega)); done)
        | (refine stable_no ?_; simp (disch := first | (with_reducible assumption) | (simp; done) | omega | (simp; omega)); done)
        | (with_reducible refine And.intro ?_ ?_)
        | (with_reducible intro hc)
        | (with_reducible refine GDsplit (fun hc => ?_) (fun hc => ?_) <;> try simp [hc])
        | (with_reducible refine GDsplitN (fun hc => ?_) (fun hc => ?_) <;> try simp [hc])
        | (with_reducible refine GDsplitNB (fun hc => ?_) (fun hc => ?_) <;> try simp [hc])
        | (with_reducible refine GDsplitB (fun hc => ?_) (fun hc => ?_) <;> try simp [hc])
        | (with_reducible refine GKsplit (fun hc => ?_) (fun hc => ?_) <;> try simp [hc])
        | (with_reducible refine GKsplitN (fun hc => ?_) (fun hc => ?_) <;> try simp [hc])
        | (with_reducible refine GKsplitNB (fun hc => ?_) (fun hc => ?_) <;> try simp [hc])
        | (with_reducible refine GKsplitB (fun hc => ?_) (fun hc => ?_) <;> try simp [hc])
        | simp (disch := first | (with_reducible assumption) | (simp; done) | omega | (simp; omega)))
      exact ends_one (by simp <;> rfl) (by simp) (hpost _ _ ⟨hR3, t, rfl, ht⟩)
theorem rage_c {rb : Nat} {G : Hp} {P : List (Int × Int)} {M : List Sn} {now most : Int} (hR : RH rb G P M) (hO : OKP P) (hl : M.length ≤ 1000) : ACalls Try.prog 26 [.ptr rb 0, .int .i64 now, .int .i64 most] G fun r G' => RH rb G' P (M.filter fun x => !oldP now most x) ∧ ∃ s, r = ofS cLk s ∧ LL s = (M.filter (oldP now most)).map Sn.lk := by
  have kc := keep3_c (a1 := 0) (a2 := 0) (b1 := 0) (b2 := 0) (now := now) (most := most) hR hO hl
  refine ACalls.hide fun post hpost => ?_
  refine F26_in (by simp) (by simp) fun hbd => ?_
  repeat' (first
    | refine awp_seqK fun K' hpK => ?_
    | refine awp_block ?_
    | refine awp_condG fun A' B' hpA hpB => ?_
    | refine useK (by with_reducible assumption) ?_
    | refine useP (by with_reducible assumption) ?_
    | refine ED_cons (fun _ => ?_) ?_
    | (refine stable_mk ?_; simp (disch := first | (with_reducible assumption) | (simp; done) | omega | (simp; omega)); done)
    | (refine stable_no ?_; simp (disch := first | (with_reducible assumption) | (simp; done) | omega | (simp; omega)); done)
    | (with_reducible refine And.intro ?_ ?_)
    | (with_reducible intro hc)
    | (with_reducible refine GDsplit (fun hc => ?_) (fun hc => ?_) <;> try simp [hc])
    | (with_reducible refine GDsplitN (fun hc => ?_) (fun hc => ?_) <;> try simp [hc])
    | (with_reducible refine GDsplitNB (fun hc => ?_) (fun hc => ?_) <;> try simp [hc])
    | (with_reducible refine GDsplitB (fun hc => ?_) (fun hc => ?_) <;> try simp [hc])
    | (with_reducible refine GKsplit (fun hc => ?_) (fun hc => ?_) <;> try simp [hc])
    | (with_reducible refine GKsplitN (fun hc => ?_) (fun hc => ?_) <;> try simp [hc])
    | (with_reducible refine GKsplitNB (fun hc => ?_) (fun hc => ?_) <;> try simp [hc])
    | (with_reducible refine GKsplitB (fun hc => ?_) (fun hc => ?_) <;> try simp [hc])
    | simp (disch := first | (with_reducible assumption) | (simp; done) | omega | (simp; omega)))
  refine CallK.use kc ?_
  rintro r G3 _ _ ⟨hR3, t, rfl, ht⟩
  repeat' (first
    | refine awp_seqK fun K' hpK => ?_
    | refine awp_block ?_
    | refine awp_condG fun A' B' hpA hpB => ?_
    | refine useK (by with_reducible assumption) ?_
    | refine useP (by with_reducible assumption) ?_
    | refine ED_cons (fun _ => ?_) ?_
    | (refine stable_mk ?_; simp (disch := first | (with_reducible assumption) | (simp; done) | omega | (simp; omega)); done)
    | (refine stable_no ?_; simp (disch := first | (with_reducible assumption) | (simp; done) | omega | (simp; omega)); done)
    | (with_reducible refine And.intro ?_ ?_)
    | (with_reducible intro hc)
    | (with_reducible refine GDsplit (fun hc => ?_) (fun hc => ?_) <;> try simp [hc])
    | (with_reducible refine GDsplitN (fun hc => ?_) (fun hc => ?_) <;> try simp [hc])
    | (with_reducible refine GDsplitNB (fun hc => ?_) (fun hc => ?_) <;> try simp [hc])
    | (with_reducible refine GDsplitB (fun hc => ?_) (fun hc => ?_) <;> try simp [hc])
    | (with_reducible refine GKsplit (fun hc => ?_) (fun hc => ?_) <;> try simp [hc])
    | (with_reducible refine GKsplitN (fun hc => ?_) (fun hc => ?_) <;> try simp [hc])
    | (with_reducible refine GKsplitNB (fun hc => ?_) (fun hc => ?_) <;> try simp [hc])
    | (with_reducible refine GKsplitB (fun hc => ?_) (fun hc => ?_) <;> try simp [hc])
    | simp (disch := first | (with_reducible assumption) | (simp; done) | omega | (simp; omega)))
  exact ends_one (by simp <;> rfl) (by simp) (hpost _ _ ⟨hR3, t, rfl, ht⟩)
end Go.Proofs.Ytapocekfkbkefaa
