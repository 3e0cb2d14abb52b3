import Derived.Test.YtapocekfkbkefaaD20K
set_option linter.unusedSimpArgs false
set_option linter.unusedVariables false
namespace Go.Proofs.Ytapocekfkbkefaa
open Go Go.Al
set_option maxRecDepth 20000
attribute [local irreducible] awp aops aopsD eop pv ACalls CallK AppK AEnds ti

def knL (P : List (Int × Int)) (n : Nat) : List Int := (List.range n).filterMap fun (i : Nat) => if (getL P (i : Int)).isSome then some (i : Int) else none
theorem knL_succ (P : List (Int × Int)) (n : Nat) : knL P (n + 1) = knL P n ++ (if (getL P (n : Int)).isSome then [(n : Int)] else []) := by
  unfold knL
  rw [List.range_succ, List.filterMap_append]
  congr 1
  split <;> simp [*]
theorem knL_len (P : List (Int × Int)) (n : Nat) : (knL P n).length ≤ n := by
  unfold knL
  exact Nat.le_trans (List.length_filterMap_le _ _) (by simp)
theorem getU (P : List (Int × Int)) (k : Int) : getL (P.map fun q => (q.1, ())) k = (getL P k).map fun _ => () := by
  induction P with
  | nil => rfl
  | cons p r ih =>
    rw [List.map_cons, getL, getL, ih]
    split <;> rfl
theorem mem_knL {P : List (Int × Int)} {n : Nat} {k : Int} : k ∈ knL P n ↔ 0 ≤ k ∧ k < n ∧ (getL P k).isSome = true := by
  unfold knL
  rw [List.mem_filterMap]
  constructor
  · rintro ⟨i, hi, h⟩
    rw [List.mem_range] at hi
    split at h
    · rename_i hs
      injection h with h; subst h
      exact ⟨by omega, by omega, hs⟩
    · cases h
  · rintro ⟨h0, h1, h2⟩
    refine ⟨k.toNat, List.mem_range.2 (by omega), ?_⟩
    have e : ((k.toNat : Nat) : Int) = k := by omega
    rw [e, if_pos h2]
theorem knL_srt (P : List (Int × Int)) (n : Nat) : Srt ((knL P n).map fun k => (k, ())) := by
  unfold Srt
  rw [List.pairwise_map]
  induction n with
  | zero => unfold knL; exact List.Pairwise.nil
  | succ n ih =>
    rw [knL_succ, List.pairwise_append]
    refine ⟨ih, ?_, ?_⟩
    · split
      · exact List.pairwise_singleton _ _
      · exact List.Pairwise.nil
    · intro a ha b hb
      have h1 := mem_knL.1 ha
      split at hb
      · rw [List.mem_singleton] at hb
        subst hb
        rw [KO_int, decide_eq_true]; omega
      · cases hb
theorem getL_unit {l : List Int} (hS : Srt (l.map fun k => (k, ()))) (k : Int) : getL (l.map fun k => (k, ())) k = if k ∈ l then some () else none := by
  split
  · rename_i h
    exact mem_getL hS (List.mem_map.2 ⟨k, h, rfl⟩)
  · rename_i h
    cases hg : getL (l.map fun k => (k, ())) k with
    | none => rfl
    | some u =>
      obtain ⟨q, hq, e⟩ := List.mem_map.1 (getL_mem hg)
      injection e with e1 e2
      subst e1; exact absurd hq h
theorem knL_all {P : List (Int × Int)} (hO : OKP P) : knL P 9 = P.map Prod.fst := by
  have hS : Srt (P.map fun q => (q.1, ())) := by
    unfold Srt; rw [List.pairwise_map]; exact hO.1
  have key : (knL P 9).map (fun k => (k, ())) = P.map fun q => (q.1, ()) := by
    refine Srt.ext (knL_srt P 9) hS fun k => ?_
    rw [getU, getL_unit (knL_srt P 9)]
    cases hg : getL P k with
    | none => rw [if_neg (fun h => by have := (mem_knL.1 h).2.2; rw [hg] at this; cases this)]; rfl
    | some v =>
      have := hO.2 _ (getL_mem hg)
      rw [if_pos (mem_knL.2 ⟨by omega, by omega, by rw [hg]; rfl⟩)]; rfl
  have := congrArg (List.map Prod.fst) key
  rw [List.map_map, List.map_map] at this
  simpa [Function.comp_def] using this
theorem upV_c {pb : Nat} {G : Hp} {P : List (Int × Int)} {L : List (Int × Sn)} {sw port : Int} (hV : VH pb G P L) (hO : OKP P) : ACalls Try.prog 10 [.ptr pb 0, .agg [.int .i64 sw, .int .i64 port]] G fun r G' => G' = G ∧ r = .bool (upP P sw port) := by
  obtain ⟨sl, F, hk, hU, rfl, hdis, hs⟩ := hV
  exact (up_c (sw := sw) (port := port) hU hO).ext Ext.uni
theorem ext_right {F h : Hp} (hd : Dis F h) : Ext h (uni F h) := by
  intro b o e
  rcases hd b with h1 | h1
  · rw [uni_right h1]; exact e
  · rw [h1] at e; cases e
theorem rc_9 {K : List Bool} {U : List Int} {out : AV} (hK : K.length = 9) : (rc K U out).take 9 = K.map .bool := by
  unfold rc
  rw [List.take_append_of_le_length (by simp [hK]), List.take_of_length_le (by simp [hK])]
set_option maxHeartbeats 8000000 in
theorem same_v {pb rb : Nat} {hv hr : Hp} {P : List (Int × Int)} {L : List (Int × Sn)} {n0 : Int} (hdis : Dis hv hr) (hV : VH pb hv P L) (hR : RH rb hr P (L.map Prod.snd)) (hJ : JV P L n0) (hl : L.length ≤ 60) : ACalls Try.prog 16 [.ptr pb 0, .ptr rb 0] (uni hv hr) fun r G' => G' = uni hv hr ∧ r = .bool true := by
  have hO := hJ.p
  have hple := hO.len
  have uc := fun sw port => (upV_c (sw := sw) (port := port) hV hO).ext (Ext.uni (h := hr))
  have ec := fun sw port => (edge_c (sw := sw) (port := port) hV hO (by omega)).ext (Ext.uni (h := hr))
  have sc := sws_c hV hO
  have lc := links_c hV (by omega)
  have rlc := rlinks_c hR (by rw [List.length_map]; omega)
  have rec_ := fun sw port => (redge_c (sw := sw) (port := port) hR hO (by rw [List.length_map]; omega)).ext (ext_right hdis)
  obtain ⟨K, U, out, hJK, hg⟩ := hR
  have hat := ext_right hdis _ _ hg.at
  have ruc := fun sw port => rup_c (sw := sw) (port := port) hat hJK hO
  have h9 := rc_9 (U := U) (out := out) hJK.1
  obtain ⟨G0, hG0⟩ : ∃ G0, G0 = uni hv hr := ⟨_, rfl⟩
  have lc' := lc.ext (Ext.uni (h := hr))
  have sc' := sc.ext (Ext.uni (h := hr))
  have rlc' := rlc.ext (ext_right hdis)
  rw [← hG0] at uc ec rec_ ruc lc' sc' rlc' hat ⊢
  clear lc sc rlc
  refine ACalls.hide fun post hpost => ?_
  refine F16_in (by simp) (by simp) fun hbd => ?_
  repeat' (first
    | refine awp_seqK fun K' hpK => ?_
    | refine awp_block ?_
    | refine awp_condG fun A' B' hpA hpB => ?_
    | refine useK (by with_reducible assumption) ?_
    | refine useP (by with_reducible assumption) ?_
    | refine ED_cons (fun _ => ?_) ?_
    | (refine stable_mk ?_; simp (disch := first | (with_reducible assumption) | (simp; done) | omega | (simp; omega)); done)
    | (refine stable_no ?_; simp (disch := first | (with_reducible assumption) | (simp; done) | omega | (simp; omega)); done)
    | (with_reducible refine And.intro ?_ ?_)
    | (with_reducible intro hc)
    | (with_reducible refine GDsplit (fun hc => ?_) (fun hc => ?_) <;> try simp [hc])
    | (with_reducible refine GDsplitN (fun hc => ?_) (fun hc => ?_) <;> try simp [hc])
    | (with_reducible refine GDsplitNB (fun hc => ?_) (fun hc => ?_) <;> try simp [hc])
    | (with_reducible refine GDsplitB (fun hc => ?_) (fun hc => ?_) <;> try simp [hc])
    | (with_reducible refine GKsplit (fun hc => ?_) (fun hc => ?_) <;> try simp [hc])
    | (with_reducible refine GKsplitN (fun hc => ?_) (fun hc => ?_) <;> try simp [hc])
    | (with_reducible refine GKsplitNB (fun hc => ?_) (fun hc => ?_) <;> try simp [hc])
    | (with_reducible refine GKsplitB (fun hc => ?_) (fun hc => ?_) <;> try simp [hc])
    | simp (disch := first | (with_reducible assumption) | (simp; done) | omega | (simp; omega)))
  refine awp_loop' (fun w T G => ∃ i : Nat, i + w = 10 ∧ G = G0 ∧ T = ofL [(0, .ptr pb 0), (1, .ptr rb 0), (5, .int .i64 i)]) 10 ⟨0, by omega, rfl, by simp⟩ ?_
  rintro w T G ⟨i, hi, rfl, rfl⟩ N hN
  by_cases hi9 : (i : Int) ≤ 9
  · repeat' (first
      | refine awp_seqK fun K' hpK => ?_
      | refine awp_block ?_
      | refine awp_condG fun A' B' hpA hpB => ?_
      | refine useK (by with_reducible assumption) ?_
      | refine useP (by with_reducible assumption) ?_
      | refine ED_cons (fun _ => ?_) ?_
      | (refine stable_mk ?_; simp (disch := first | (with_reducible assumption) | (simp; done) | omega | (simp; omega)) [hi9]; done)
      | (refine stable_no ?_; simp (disch := first | (with_reducible assumption) | (simp; done) | omega | (simp; omega)) [hi9]; done)
      | (with_reducible refine And.intro ?_ ?_)
      | (with_reducible intro hc)
      | (with_reducible refine GDsplit (fun hc => ?_) (fun hc => ?_) <;> try simp [hc])
      | (with_reducible refine GDsplitN (fun hc => ?_) (fun hc => ?_) <;> try simp [hc])
      | (with_reducible refine GDsplitNB (fun hc => ?_) (fun hc => ?_) <;> try simp [hc])
      | (with_reducible refine GDsplitB (fun hc => ?_) (fun hc => ?_) <;> try simp [hc])
      | (with_reducible refine GKsplit (fun hc => ?_) (fun hc => ?_) <;> try simp [hc])
      | (with_reducible refine GKsplitN (fun hc => ?_) (fun hc => ?_) <;> try simp [hc])
      | (with_reducible refine GKsplitNB (fun hc => ?_) (fun hc => ?_) <;> try simp [hc])
      | (with_reducible refine GKsplitB (fun hc => ?_) (fun hc => ?_) <;> try simp [hc])
      | simp (disch := first | (with_reducible assumption) | (simp; done) | omega | (simp; omega)) [hi9])
    refine awp_loop' (fun w2 T G2 => ∃ j : Nat, j + w2 = 10 ∧ G2 = G ∧ T = ofL [(0, .ptr pb 0), (1, .ptr rb 0), (5, .int .i64 i), (6, .int .i64 j)]) 10 ⟨0, by omega, rfl, by simp⟩ ?_
    rintro w2 T2 G2 ⟨j, hj, rfl, rfl⟩ N2 hN2
    by_cases hj9 : (j : Int) ≤ 9
    · repeat' (first
        | refine awp_seqK fun K' hpK => ?_
        | refine awp_block ?_
        | refine awp_condG fun A' B' hpA hpB => ?_
        | refine useK (by with_reducible assumption) ?_
        | refine useP (by with_reducible assumption) ?_
        | refine ED_cons (fun _ => ?_) ?_
        | (refine stable_mk ?_; simp (disch := first | (with_reducible assumption) | (simp; done) | omega | (simp; omega)) [hj9]; done)
        | (refine stable_no ?_; simp (disch := first | (with_reducible assumption) | (simp; done) | omega | (simp; omega)) [hj9]; done)
        | (with_reducible refine And.intro ?_ ?_)
        | (with_reducible intro hc)
        | (with_reducible refine GDsplit (fun hc => ?_) (fun hc => ?_) <;> try simp [hc])
        | (with_reducible refine GDsplitN (fun hc => ?_) (fun hc => ?_) <;> try simp [hc])
        | (with_reducible refine GDsplitNB (fun hc => ?_) (fun hc => ?_) <;> try simp [hc])
        | (with_reducible refine GDsplitB (fun hc => ?_) (fun hc => ?_) <;> try simp [hc])
        | (with_reducible refine GKsplit (fun hc => ?_) (fun hc => ?_) <;> try simp [hc])
        | (with_reducible refine GKsplitN (fun hc => ?_) (fun hc => ?_) <;> try simp [hc])
        | (with_reducible refine GKsplitNB (fun hc => ?_) (fun hc => ?_) <;> try simp [hc])
        | (with_reducible refine GKsplitB (fun hc => ?_) (fun hc => ?_) <;> try simp [hc])
        | (refine CallK.use (uc _ _) ?_; rintro r G' _ _ ⟨rfl, rfl⟩)
        | (refine CallK.use (ruc _ _) ?_; rintro r G' _ _ ⟨rfl, rfl⟩)
        | (refine CallK.use (ec _ _) ?_; rintro r G' _ _ ⟨rfl, rfl⟩)
        | (refine CallK.use (rec_ _ _) ?_; rintro r G' _ _ ⟨rfl, rfl⟩)
        | simp (disch := first | (with_reducible assumption) | (simp; done) | omega | (simp; omega)) [hj9])
      exact hN2 (w2 - 1) _ _ (by omega) ⟨j + 1, by omega, rfl, by simp⟩
    · repeat' (first
        | refine awp_seqK fun K' hpK => ?_
        | refine awp_block ?_
        | refine awp_condG fun A' B' hpA hpB => ?_
        | refine useK (by with_reducible assumption) ?_
        | refine useP (by with_reducible assumption) ?_
        | refine ED_cons (fun _ => ?_) ?_
        | (refine stable_mk ?_; simp (disch := first | (with_reducible assumption) | (simp; done) | omega | (simp; omega)) [hj9]; done)
        | (refine stable_no ?_; simp (disch := first | (with_reducible assumption) | (simp; done) | omega | (simp; omega)) [hj9]; done)
        | (with_reducible refine And.intro ?_ ?_)
        | (with_reducible intro hc)
        | (with_reducible refine GDsplit (fun hc => ?_) (fun hc => ?_) <;> try simp [hc])
        | (with_reducible refine GDsplitN (fun hc => ?_) (fun hc => ?_) <;> try simp [hc])
        | (with_reducible refine GDsplitNB (fun hc => ?_) (fun hc => ?_) <;> try simp [hc])
        | (with_reducible refine GDsplitB (fun hc => ?_) (fun hc => ?_) <;> try simp [hc])
        | (with_reducible refine GKsplit (fun hc => ?_) (fun hc => ?_) <;> try simp [hc])
        | (with_reducible refine GKsplitN (fun hc => ?_) (fun hc => ?_) <;> try simp [hc])
        | (with_reducible refine GKsplitNB (fun hc => ?_) (fun hc => ?_) <;> try simp [hc])
        | (with_reducible refine GKsplitB (fun hc => ?_) (fun hc => ?_) <;> try simp [hc])
        | simp (disch := first | (with_reducible assumption) | (simp; done) | omega | (simp; omega)) [hj9])
      exact hN (w - 1) _ _ (by omega) ⟨i + 1, by omega, rfl, by simp⟩
  · have h19 : 9 ≤ (rc K U out).length := by rw [rc_len hJK.1 hJK.2.1]; omega
    repeat' (first
      | refine awp_seqK fun K' hpK => ?_
      | refine awp_block ?_
      | refine awp_condG fun A' B' hpA hpB => ?_
      | refine useK (by with_reducible assumption) ?_
      | refine useP (by with_reducible assumption) ?_
      | refine ED_cons (fun _ => ?_) ?_
      | (refine stable_mk ?_; simp (disch := first | (with_reducible assumption) | (simp; done) | omega | (simp; omega)) [hi9, hat, h9, h19]; done)
      | (refine stable_no ?_; simp (disch := first | (with_reducible assumption) | (simp; done) | omega | (simp; omega)) [hi9, hat, h9, h19]; done)
      | (with_reducible refine And.intro ?_ ?_)
      | (with_reducible intro hc)
      | (with_reducible refine GDsplit (fun hc => ?_) (fun hc => ?_) <;> try simp [hc])
      | (with_reducible refine GDsplitN (fun hc => ?_) (fun hc => ?_) <;> try simp [hc])
      | (with_reducible refine GDsplitNB (fun hc => ?_) (fun hc => ?_) <;> try simp [hc])
      | (with_reducible refine GDsplitB (fun hc => ?_) (fun hc => ?_) <;> try simp [hc])
      | (with_reducible refine GKsplit (fun hc => ?_) (fun hc => ?_) <;> try simp [hc])
      | (with_reducible refine GKsplitN (fun hc => ?_) (fun hc => ?_) <;> try simp [hc])
      | (with_reducible refine GKsplitNB (fun hc => ?_) (fun hc => ?_) <;> try simp [hc])
      | (with_reducible refine GKsplitB (fun hc => ?_) (fun hc => ?_) <;> try simp [hc])
      | simp (disch := first | (with_reducible assumption) | (simp; done) | omega | (simp; omega)) [hi9, hat, h9, h19])
    refine awp_loop' (fun w2 T G2 => ∃ (j : Nat) (v : AV), j + w2 = 9 ∧ Grow cKP 1 G G2 v (knL P j) ∧ T = ofL [(0, .ptr pb 0), (1, .ptr rb 0), (8, v), (43, .agg (K.map .bool)), (44, .int .i64 j)]) 9 ⟨0, .nils, by omega, Grow.nil _ _, by simp⟩ ?_
    rintro w2 T2 G2 ⟨j, v, hj, hgv, rfl⟩ N2 hN2
    have hvp := hgv.plain
    by_cases hj9 : (j : Int) < 9
    · have hjk := (hJK.2.2 j (by rw [hJK.1]; omega) (by rw [hJK.2.1]; omega)).1
      have hat9 : (K.map AV.bool)[j]? = some (.bool (getL P (j : Int)).isSome) := by
        rw [List.getElem?_map, List.getElem?_eq_getElem (by rw [hJK.1]; omega), hjk]; rfl
      have hsc := knL_succ P j
      have hln := knL_len P j
      cases hso : (getL P (j : Int)).isSome with
      | true =>
        rw [hso] at hat9 hsc
        repeat' (first
          | refine awp_seqK fun K' hpK => ?_
          | refine awp_block ?_
          | refine awp_condG fun A' B' hpA hpB => ?_
          | refine useK (by with_reducible assumption) ?_
          | refine useP (by with_reducible assumption) ?_
          | refine ED_cons (fun _ => ?_) ?_
          | (refine stable_mk ?_; simp (disch := first | (with_reducible assumption) | (simp; done) | omega | (simp; omega)) [hj9, hat9, hvp]; done)
          | (refine stable_no ?_; simp (disch := first | (with_reducible assumption) | (simp; done) | omega | (simp; omega)) [hj9, hat9, hvp]; done)
          | (with_reducible refine And.intro ?_ ?_)
          | (with_reducible intro hc)
          | (with_reducible refine GDsplit (fun hc => ?_) (fun hc => ?_) <;> try simp [hc])
          | (with_reducible refine GDsplitN (fun hc => ?_) (fun hc => ?_) <;> try simp [hc])
          | (with_reducible refine GDsplitNB (fun hc => ?_) (fun hc => ?_) <;> try simp [hc])
          | (with_reducible refine GDsplitB (fun hc => ?_) (fun hc => ?_) <;> try simp [hc])
          | (with_reducible refine GKsplit (fun hc => ?_) (fun hc => ?_) <;> try simp [hc])
          | (with_reducible refine GKsplitN (fun hc => ?_) (fun hc => ?_) <;> try simp [hc])
          | (with_reducible refine GKsplitNB (fun hc => ?_) (fun hc => ?_) <;> try simp [hc])
          | (with_reducible refine GKsplitB (fun hc => ?_) (fun hc => ?_) <;> try simp [hc])
          | simp (disch := first | (with_reducible assumption) | (simp; done) | omega | (simp; omega)) [hj9, hat9, hvp])
        refine hgv.app1 (x := (j : Int)) (by simp [cKP]) (by simp [cKP]) (by simp [LIM]; omega) (fun v2 G3 hg3 => ?_)
        have hv2 := hg3.plain
        repeat' (first
          | refine awp_seqK fun K' hpK => ?_
          | refine awp_block ?_
          | refine awp_condG fun A' B' hpA hpB => ?_
          | refine useK (by with_reducible assumption) ?_
          | refine useP (by with_reducible assumption) ?_
          | refine ED_cons (fun _ => ?_) ?_
          | (refine stable_mk ?_; simp (disch := first | (with_reducible assumption) | (simp; done) | omega | (simp; omega)) [hv2]; done)
          | (refine stable_no ?_; simp (disch := first | (with_reducible assumption) | (simp; done) | omega | (simp; omega)) [hv2]; done)
          | (with_reducible refine And.intro ?_ ?_)
          | (with_reducible intro hc)
          | (with_reducible refine GDsplit (fun hc => ?_) (fun hc => ?_) <;> try simp [hc])
          | (with_reducible refine GDsplitN (fun hc => ?_) (fun hc => ?_) <;> try simp [hc])
          | (with_reducible refine GDsplitNB (fun hc => ?_) (fun hc => ?_) <;> try simp [hc])
          | (with_reducible refine GDsplitB (fun hc => ?_) (fun hc => ?_) <;> try simp [hc])
          | (with_reducible refine GKsplit (fun hc => ?_) (fun hc => ?_) <;> try simp [hc])
          | (with_reducible refine GKsplitN (fun hc => ?_) (fun hc => ?_) <;> try simp [hc])
          | (with_reducible refine GKsplitNB (fun hc => ?_) (fun hc => ?_) <;> try simp [hc])
          | (with_reducible refine GKsplitB (fun hc => ?_) (fun hc => ?_) <;> try simp [hc])
          | simp (disch := first | (with_reducible assumption) | (simp; done) | omega | (simp; omega)) [hv2])
        exact hN2 (w2 - 1) _ _ (by omega) ⟨j + 1, v2, by omega, by rw [hsc]; exact hg3, by simp⟩
      | false =>
        rw [hso] at hat9 hsc
        repeat' (first
          | refine awp_seqK fun K' hpK => ?_
          | refine awp_block ?_
          | refine awp_condG fun A' B' hpA hpB => ?_
          | refine useK (by with_reducible assumption) ?_
          | refine useP (by with_reducible assumption) ?_
          | refine ED_cons (fun _ => ?_) ?_
          | (refine stable_mk ?_; simp (disch := first | (with_reducible assumption) | (simp; done) | omega | (simp; omega)) [hj9, hat9, hvp]; done)
          | (refine stable_no ?_; simp (disch := first | (with_reducible assumption) | (simp; done) | omega | (simp; omega)) [hj9, hat9, hvp]; done)
          | (with_reducible refine And.intro ?_ ?_)
          | (with_reducible intro hc)
          | (with_reducible refine GDsplit (fun hc => ?_) (fun hc => ?_) <;> try simp [hc])
          | (with_reducible refine GDsplitN (fun hc => ?_) (fun hc => ?_) <;> try simp [hc])
          | (with_reducible refine GDsplitNB (fun hc => ?_) (fun hc => ?_) <;> try simp [hc])
          | (with_reducible refine GDsplitB (fun hc => ?_) (fun hc => ?_) <;> try simp [hc])
          | (with_reducible refine GKsplit (fun hc => ?_) (fun hc => ?_) <;> try simp [hc])
          | (with_reducible refine GKsplitN (fun hc => ?_) (fun hc => ?_) <;> try simp [hc])
          | (with_reducible refine GKsplitNB (fun hc => ?_) (fun hc => ?_) <;> try simp [hc])
          | (with_reducible refine GKsplitB (fun hc => ?_) (fun hc => ?_) <;> try simp [hc])
          | simp (disch := first | (with_reducible assumption) | (simp; done) | omega | (simp; omega)) [hj9, hat9, hvp])
        exact hN2 (w2 - 1) _ _ (by omega) ⟨j + 1, v, by omega, by rw [hsc]; simpa using hgv, by simp⟩
    · have hj10 : j = 9 := by omega
      subst hj10
      rw [knL_all hO] at hgv
      have hx : Ext G G2 := (Ext.refl G).grow hgv
      have hal := fun {t : TypeId} => Grow.len (P := Try.prog) (t := t) hgv
      repeat' (first
        | refine awp_seqK fun K' hpK => ?_
        | refine awp_block ?_
        | refine awp_condG fun A' B' hpA hpB => ?_
        | refine useK (by with_reducible assumption) ?_
        | refine useP (by with_reducible assumption) ?_
        | refine ED_cons (fun _ => ?_) ?_
        | (refine stable_mk ?_; simp (disch := first | (with_reducible assumption) | (simp; done) | omega | (simp; omega)) [hvp]; done)
        | (refine stable_no ?_; simp (disch := first | (with_reducible assumption) | (simp; done) | omega | (simp; omega)) [hvp]; done)
        | (with_reducible refine And.intro ?_ ?_)
        | (with_reducible intro hc)
        | (with_reducible refine GDsplit (fun hc => ?_) (fun hc => ?_) <;> try simp [hc])
        | (with_reducible refine GDsplitN (fun hc => ?_) (fun hc => ?_) <;> try simp [hc])
        | (with_reducible refine GDsplitNB (fun hc => ?_) (fun hc => ?_) <;> try simp [hc])
        | (with_reducible refine GDsplitB (fun hc => ?_) (fun hc => ?_) <;> try simp [hc])
        | (with_reducible refine GKsplit (fun hc => ?_) (fun hc => ?_) <;> try simp [hc])
        | (with_reducible refine GKsplitN (fun hc => ?_) (fun hc => ?_) <;> try simp [hc])
        | (with_reducible refine GKsplitNB (fun hc => ?_) (fun hc => ?_) <;> try simp [hc])
        | (with_reducible refine GKsplitB (fun hc => ?_) (fun hc => ?_) <;> try simp [hc])
        | simp (disch := first | (with_reducible assumption) | (simp; done) | omega | (simp; omega)) [hvp])
      refine CallK.use (sc'.ext hx) ?_
      rintro r G3 _ _ ⟨rfl, s, rfl, hs⟩
      have hsl : (LL s).length = P.length := by rw [hs, List.length_map]
      have hpl : (P.map Prod.fst).length = P.length := List.length_map ..
      repeat' (first
        | refine awp_seqK fun K' hpK => ?_
        | refine awp_block ?_
        | refine awp_condG fun A' B' hpA hpB => ?_
        | refine useK (by with_reducible assumption) ?_
        | refine useP (by with_reducible assumption) ?_
        | refine ED_cons (fun _ => ?_) ?_
        | (refine stable_mk ?_; simp (disch := first | (with_reducible assumption) | (simp; done) | omega | (simp; omega)) [hvp, hal, hsl, hpl]; done)
        | (refine stable_no ?_; simp (disch := first | (with_reducible assumption) | (simp; done) | omega | (simp; omega)) [hvp, hal, hsl, hpl]; done)
        | (with_reducible refine And.intro ?_ ?_)
        | (with_reducible intro hc)
        | (with_reducible refine GDsplit (fun hc => ?_) (fun hc => ?_) <;> try simp [hc])
        | (with_reducible refine GDsplitN (fun hc => ?_) (fun hc => ?_) <;> try simp [hc])
        | (with_reducible refine GDsplitNB (fun hc => ?_) (fun hc => ?_) <;> try simp [hc])
        | (with_reducible refine GDsplitB (fun hc => ?_) (fun hc => ?_) <;> try simp [hc])
        | (with_reducible refine GKsplit (fun hc => ?_) (fun hc => ?_) <;> try simp [hc])
        | (with_reducible refine GKsplitN (fun hc => ?_) (fun hc => ?_) <;> try simp [hc])
        | (with_reducible refine GKsplitNB (fun hc => ?_) (fun hc => ?_) <;> try simp [hc])
        | (with_reducible refine GKsplitB (fun hc => ?_) (fun hc => ?_) <;> try simp [hc])
        | simp (disch := first | (with_reducible assumption) | (simp; done) | omega | (simp; omega)) [hvp, hal, hsl, hpl])
      refine awp_loop' (fun w3 T3 G4 => ∃ j : Nat, j + w3 = P.length ∧ G4 = G3 ∧ T3 = ofL [(0, .ptr pb 0), (1, .ptr rb 0), (8, v), (11, ofS cKP s), (62, .int .i64 P.length), (63, .int .i64 j)]) P.length ⟨0, by omega, rfl, by simp⟩ ?_
      rintro w3 T3 G4 ⟨j, hj3, rfl, rfl⟩ N3 hN3
      by_cases hjl : j < P.length
      · have hjs : j < (LL s).length := by omega
        have hjm : j < (P.map Prod.fst).length := by omega
        obtain ⟨b, τ, hb, rfl, hG⟩ := Grow.ms hgv (by intro h; rw [h] at hjm; simp at hjm)
        have hatb : G4 b = some (τ, (P.map Prod.fst).flatMap cKP) := by rw [hG, setH_same]
        have hd0 := flat_at0 (f := cKP) (sz := 1) (by simp) hjm
        obtain ⟨x, hx⟩ : ∃ x, x = (P.map Prod.fst)[j] := ⟨_, rfl⟩
        have hxs : (LL s)[j] = x := by rw [hx]; simp only [hs]
        rw [← hx] at hd0
        have cx : cKP x = [.int .i64 x] := rfl
        rw [cx] at hd0
        simp only [Nat.mul_one] at hd0
        repeat' (first
          | refine awp_seqK fun K' hpK => ?_
          | refine awp_block ?_
          | refine awp_condG fun A' B' hpA hpB => ?_
          | refine useK (by with_reducible assumption) ?_
          | refine useP (by with_reducible assumption) ?_
          | refine ED_cons (fun _ => ?_) ?_
          | (refine stable_mk ?_; simp (disch := first | (with_reducible assumption) | (simp; done) | omega | (simp; omega)) [hjl, hjs, ofS_idx (f := cKP), hxs, cx, hatb, hd0, hpl]; done)
          | (refine stable_no ?_; simp (disch := first | (with_reducible assumption) | (simp; done) | omega | (simp; omega)) [hjl, hjs, ofS_idx (f := cKP), hxs, cx, hatb, hd0, hpl]; done)
          | (with_reducible refine And.intro ?_ ?_)
          | (with_reducible intro hc)
          | (with_reducible refine GDsplit (fun hc => ?_) (fun hc => ?_) <;> try simp [hc])
          | (with_reducible refine GDsplitN (fun hc => ?_) (fun hc => ?_) <;> try simp [hc])
          | (with_reducible refine GDsplitNB (fun hc => ?_) (fun hc => ?_) <;> try simp [hc])
          | (with_reducible refine GDsplitB (fun hc => ?_) (fun hc => ?_) <;> try simp [hc])
          | (with_reducible refine GKsplit (fun hc => ?_) (fun hc => ?_) <;> try simp [hc])
          | (with_reducible refine GKsplitN (fun hc => ?_) (fun hc => ?_) <;> try simp [hc])
          | (with_reducible refine GKsplitNB (fun hc => ?_) (fun hc => ?_) <;> try simp [hc])
          | (with_reducible refine GKsplitB (fun hc => ?_) (fun hc => ?_) <;> try simp [hc])
          | simp (disch := first | (with_reducible assumption) | (simp; done) | omega | (simp; omega)) [hjl, hjs, ofS_idx (f := cKP), hxs, cx, hatb, hd0, hpl])
        exact hN3 (w3 - 1) _ _ (by omega) ⟨j + 1, by omega, rfl, by simp⟩
      · repeat' (first
          | refine awp_seqK fun K' hpK => ?_
          | refine awp_block ?_
          | refine awp_condG fun A' B' hpA hpB => ?_
          | refine useK (by with_reducible assumption) ?_
          | refine useP (by with_reducible assumption) ?_
          | refine ED_cons (fun _ => ?_) ?_
          | (refine stable_mk ?_; simp (disch := first | (with_reducible assumption) | (simp; done) | omega | (simp; omega)) [hjl]; done)
          | (refine stable_no ?_; simp (disch := first | (with_reducible assumption) | (simp; done) | omega | (simp; omega)) [hjl]; done)
          | (with_reducible refine And.intro ?_ ?_)
          | (with_reducible intro hc)
          | (with_reducible refine GDsplit (fun hc => ?_) (fun hc => ?_) <;> try simp [hc])
          | (with_reducible refine GDsplitN (fun hc => ?_) (fun hc => ?_) <;> try simp [hc])
          | (with_reducible refine GDsplitNB (fun hc => ?_) (fun hc => ?_) <;> try simp [hc])
          | (with_reducible refine GDsplitB (fun hc => ?_) (fun hc => ?_) <;> try simp [hc])
          | (with_reducible refine GKsplit (fun hc => ?_) (fun hc => ?_) <;> try simp [hc])
          | (with_reducible refine GKsplitN (fun hc => ?_) (fun hc => ?_) <;> try simp [hc])
          | (with_reducible refine GKsplitNB (fun hc => ?_) (fun hc => ?_) <;> try simp [hc])
          | (with_reducible refine GKsplitB (fun hc => ?_) (fun hc => ?_) <;> try simp [hc])
          | simp (disch := first | (with_reducible assumption) | (simp; done) | omega | (simp; omega)) [hjl])
        refine CallK.use (lc'.ext hx) ?_
        rintro r G5 _ _ ⟨rfl, s4, rfl, hs4⟩
        repeat' (first
          | refine awp_seqK fun K' hpK => ?_
          | refine awp_block ?_
          | refine awp_condG fun A' B' hpA hpB => ?_
          | refine useK (by with_reducible assumption) ?_
          | refine useP (by with_reducible assumption) ?_
          | refine ED_cons (fun _ => ?_) ?_
          | (refine stable_mk ?_; simp (disch := first | (with_reducible assumption) | (simp; done) | omega | (simp; omega)); done)
          | (refine stable_no ?_; simp (disch := first | (with_reducible assumption) | (simp; done) | omega | (simp; omega)); done)
          | (with_reducible refine And.intro ?_ ?_)
          | (with_reducible intro hc)
          | (with_reducible refine GDsplit (fun hc => ?_) (fun hc => ?_) <;> try simp [hc])
          | (with_reducible refine GDsplitN (fun hc => ?_) (fun hc => ?_) <;> try simp [hc])
          | (with_reducible refine GDsplitNB (fun hc => ?_) (fun hc => ?_) <;> try simp [hc])
          | (with_reducible refine GDsplitB (fun hc => ?_) (fun hc => ?_) <;> try simp [hc])
          | (with_reducible refine GKsplit (fun hc => ?_) (fun hc => ?_) <;> try simp [hc])
          | (with_reducible refine GKsplitN (fun hc => ?_) (fun hc => ?_) <;> try simp [hc])
          | (with_reducible refine GKsplitNB (fun hc => ?_) (fun hc => ?_) <;> try simp [hc])
          | (with_reducible refine GKsplitB (fun hc => ?_) (fun hc => ?_) <;> try simp [hc])
          | simp (disch := first | (with_reducible assumption) | (simp; done) | omega | (simp; omega)))
        refine CallK.use (rlc'.ext hx) ?_
        rintro r G6 _ _ ⟨rfl, s5, rfl, hs5⟩
        have h4 : (LL s4).length ≤ 1000000 := by rw [hs4, List.length_map, List.length_map]; omega
        repeat' (first
          | refine awp_seqK fun K' hpK => ?_
          | refine awp_block ?_
          | refine awp_condG fun A' B' hpA hpB => ?_
          | refine useK (by with_reducible assumption) ?_
          | refine useP (by with_reducible assumption) ?_
          | refine ED_cons (fun _ => ?_) ?_
          | (refine stable_mk ?_; simp (disch := first | (with_reducible assumption) | (simp; done) | omega | (simp; omega)); done)
          | (refine stable_no ?_; simp (disch := first | (with_reducible assumption) | (simp; done) | omega | (simp; omega)); done)
          | (with_reducible refine And.intro ?_ ?_)
          | (with_reducible intro hc)
          | (with_reducible refine GDsplit (fun hc => ?_) (fun hc => ?_) <;> try simp [hc])
          | (with_reducible refine GDsplitN (fun hc => ?_) (fun hc => ?_) <;> try simp [hc])
          | (with_reducible refine GDsplitNB (fun hc => ?_) (fun hc => ?_) <;> try simp [hc])
          | (with_reducible refine GDsplitB (fun hc => ?_) (fun hc => ?_) <;> try simp [hc])
          | (with_reducible refine GKsplit (fun hc => ?_) (fun hc => ?_) <;> try simp [hc])
          | (with_reducible refine GKsplitN (fun hc => ?_) (fun hc => ?_) <;> try simp [hc])
          | (with_reducible refine GKsplitNB (fun hc => ?_) (fun hc => ?_) <;> try simp [hc])
          | (with_reducible refine GKsplitB (fun hc => ?_) (fun hc => ?_) <;> try simp [hc])
          | (refine CallK.use (same_c (a := s4) (b := s5) (by rw [hs4, hs5]) h4) ?_; rintro r G' _ _ ⟨rfl, rfl⟩)
          | simp (disch := first | (with_reducible assumption) | (simp; done) | omega | (simp; omega)))
        exact ends_one_sub (by simp <;> rfl) (by simp) (fun i o e => hx i o e) (hpost _ _ ⟨rfl, rfl⟩)
end Go.Proofs.Ytapocekfkbkefaa
