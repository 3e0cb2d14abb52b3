import Derived.Test.YtapocekfkbkefaaD4K
set_option linter.unusedSimpArgs false
set_option linter.unusedVariables false
namespace Go.Proofs.Ytapocekfkbkefaa
open Go Go.Al
set_option maxRecDepth 20000
attribute [local irreducible] awp aops aopsD eop pv ACalls CallK AppK AEnds ti

@[ext] structure Lk where
  a1 : Int
  a2 : Int
  b1 : Int
  b2 : Int
  deriving DecidableEq
def cLk (v : Lk) : List AV := [.int .i64 v.a1, .int .i64 v.a2, .int .i64 v.b1, .int .i64 v.b2]
@[simp] theorem cLk_len (v : Lk) : (cLk v).length = 4 := by simp [cLk]
def Sn.lk (x : Sn) : Lk := ⟨x.a1, x.a2, x.b1, x.b2⟩
theorem same_c {a b : Option (List Lk)} {G : Hp} (h : LL a = LL b) (hl : (LL a).length ≤ 1000000) : ACalls Try.prog 22 [ofS cLk a, ofS cLk b] G fun r G' => G' = G ∧ r = .bool true := by
  have hlen : (LL a).length = (LL b).length := by rw [h]
  refine ACalls.hide fun post hpost => ?_
  refine F22_in (by simp) (by simp) fun hbd => ?_
  repeat' (first
    | refine awp_seqK fun K' hpK => ?_
    | refine awp_block ?_
    | refine awp_condG fun A' B' hpA hpB => ?_
    | refine useK (by with_reducible assumption) ?_
    | refine useP (by with_reducible assumption) ?_
    | refine ED_cons (fun _ => ?_) ?_
    | (refine stable_mk ?_; simp (disch := first | (with_reducible assumption) | (simp; done) | omega | (simp; omega)) [hlen]; done)
    | (refine stable_no ?_; simp (disch := first | (with_reducible assumption) | (simp; done) | omega | (simp; omega)) [hlen]; done)
    | (with_reducible refine And.intro ?_ ?_)
    | (with_reducible intro hc)
    | (with_reducible refine GDsplit (fun hc => ?_) (fun hc => ?_) <;> try simp [hc])
    | (with_reducible refine GDsplitN (fun hc => ?_) (fun hc => ?_) <;> try simp [hc])
    | (with_reducible refine GDsplitNB (fun hc => ?_) (fun hc => ?_) <;> try simp [hc])
    | (with_reducible refine GDsplitB (fun hc => ?_) (fun hc => ?_) <;> try simp [hc])
    | (with_reducible refine GKsplit (fun hc => ?_) (fun hc => ?_) <;> try simp [hc])
    | (with_reducible refine GKsplitN (fun hc => ?_) (fun hc => ?_) <;> try simp [hc])
    | (with_reducible refine GKsplitNB (fun hc => ?_) (fun hc => ?_) <;> try simp [hc])
    | (with_reducible refine GKsplitB (fun hc => ?_) (fun hc => ?_) <;> try simp [hc])
    | simp (disch := first | (with_reducible assumption) | (simp; done) | omega | (simp; omega)) [hlen])
  refine awp_loop' (fun w T G' => ∃ k : Nat, k + w = (LL b).length ∧ G' = G ∧ T = ofL [(0, ofS cLk a), (1, ofS cLk b), (12, .int .i64 (LL b).length), (13, .int .i64 k)]) (LL b).length ⟨0, by omega, rfl, by simp [hlen]⟩ ?_
  rintro w T G' ⟨k, hk, rfl, rfl⟩ N hN
  by_cases hkl : k < (LL b).length
  · have hka : k < (LL a).length := by omega
    have hx : (LL a)[k] = (LL b)[k] := by simp only [h]
    repeat' (first
      | refine awp_seqK fun K' hpK => ?_
      | refine awp_block ?_
      | refine awp_condG fun A' B' hpA hpB => ?_
      | refine useK (by with_reducible assumption) ?_
      | refine useP (by with_reducible assumption) ?_
      | refine ED_cons (fun _ => ?_) ?_
      | (refine stable_mk ?_; simp (disch := first | (with_reducible assumption) | (simp; done) | omega | (simp; omega)) [hkl, hka, ofS_idx (f := cLk), cLk, hx]; done)
      | (refine stable_no ?_; simp (disch := first | (with_reducible assumption) | (simp; done) | omega | (simp; omega)) [hkl, hka, ofS_idx (f := cLk), cLk, hx]; done)
      | (with_reducible refine And.intro ?_ ?_)
      | (with_reducible intro hc)
      | (with_reducible refine GDsplit (fun hc => ?_) (fun hc => ?_) <;> try simp [hc])
      | (with_reducible refine GDsplitN (fun hc => ?_) (fun hc => ?_) <;> try simp [hc])
      | (with_reducible refine GDsplitNB (fun hc => ?_) (fun hc => ?_) <;> try simp [hc])
      | (with_reducible refine GDsplitB (fun hc => ?_) (fun hc => ?_) <;> try simp [hc])
      | (with_reducible refine GKsplit (fun hc => ?_) (fun hc => ?_) <;> try simp [hc])
      | (with_reducible refine GKsplitN (fun hc => ?_) (fun hc => ?_) <;> try simp [hc])
      | (with_reducible refine GKsplitNB (fun hc => ?_) (fun hc => ?_) <;> try simp [hc])
      | (with_reducible refine GKsplitB (fun hc => ?_) (fun hc => ?_) <;> try simp [hc])
      | simp (disch := first | (with_reducible assumption) | (simp; done) | omega | (simp; omega)) [hkl, hka, ofS_idx (f := cLk), cLk, hx])
    exact hN (w - 1) _ _ (by omega) ⟨k + 1, by omega, rfl, by simp⟩
  · repeat' (first
      | refine awp_seqK fun K' hpK => ?_
      | refine awp_block ?_
      | refine awp_condG fun A' B' hpA hpB => ?_
      | refine useK (by with_reducible assumption) ?_
      | refine useP (by with_reducible assumption) ?_
      | refine ED_cons (fun _ => ?_) ?_
      | (refine stable_mk ?_; simp (disch := first | (with_reducible assumption) | (simp; done) | omega | (simp; omega)) [hkl]; done)
      | (refine stable_no ?_; simp (disch := first | (with_reducible assumption) | (simp; done) | omega | (simp; omega)) [hkl]; done)
      | (with_reducible refine And.intro ?_ ?_)
      | (with_reducible intro hc)
      | (with_reducible refine GDsplit (fun hc => ?_) (fun hc => ?_) <;> try simp [hc])
      | (with_reducible refine GDsplitN (fun hc => ?_) (fun hc => ?_) <;> try simp [hc])
      | (with_reducible refine GDsplitNB (fun hc => ?_) (fun hc => ?_) <;> try simp [hc])
      | (with_reducible refine GDsplitB (fun hc => ?_) (fun hc => ?_) <;> try simp [hc])
      | (with_reducible refine GKsplit (fun hc => ?_) (fun hc => ?_) <;> try simp [hc])
      | (with_reducible refine GKsplitN (fun hc => ?_) (fun hc => ?_) <;> try simp [hc])
      | (with_reducible refine GKsplitNB (fun hc => ?_) (fun hc => ?_) <;> try simp [hc])
      | (with_reducible refine GKsplitB (fun hc => ?_) (fun hc => ?_) <;> try simp [hc])
      | simp (disch := first | (with_reducible assumption) | (simp; done) | omega | (simp; omega)) [hkl])
    exact ends_one (by simp <;> rfl) (by simp) (hpost _ _ ⟨rfl, rfl⟩)
/-- the reference's cells -/
def rc (K : List Bool) (U : List Int) (out : AV) : List AV := K.map .bool ++ (U.map (.int .i64) ++ [out])
def JK (P : List (Int × Int)) (K : List Bool) (U : List Int) : Prop := K.length = 9 ∧ U.length = 9 ∧ ∀ i (h : i < K.length) (h2 : i < U.length), K[i] = (getL P (i : Int)).isSome ∧ U[i] = (getL P (i : Int)).getD 0
theorem rc_K {K : List Bool} {U : List Int} {out : AV} {s : Nat} (h : s < K.length) : ∃ r, (rc K U out).drop s = .bool K[s] :: r := by
  unfold rc
  have hl : s < (K.map AV.bool ++ (U.map (AV.int .i64) ++ [out])).length := by simp; omega
  have e := List.drop_eq_getElem_cons hl
  rw [List.getElem_append_left (by simpa using h)] at e
  exact ⟨_, by rw [e]; simp; rfl⟩
theorem rc_U {K : List Bool} {U : List Int} {out : AV} {s : Nat} (h : s < U.length) (hK : K.length = 9) : ∃ r, (rc K U out).drop (9 + s) = .int .i64 U[s] :: r := by
  unfold rc
  have hl : 9 + s < (K.map AV.bool ++ (U.map (AV.int .i64) ++ [out])).length := by simp; omega
  have e := List.drop_eq_getElem_cons hl
  rw [List.getElem_append_right (by simp; omega), List.getElem_append_left (by simp; omega)] at e
  exact ⟨_, by rw [e]; simp [hK]; rfl⟩
theorem rc_L {K : List Bool} {U : List Int} {out : AV} (hK : K.length = 9) (hU : U.length = 9) : (rc K U out).drop 18 = [out] := by
  unfold rc
  rw [← List.append_assoc, List.drop_append_of_le_length (by simp [hK, hU]), List.drop_eq_nil_of_le (by simp [hK, hU])]; rfl
set_option maxHeartbeats 1000000 in
theorem rup_c {rb : Nat} {P : List (Int × Int)} {K : List Bool} {U : List Int} {out : AV} {G : Hp} {sw port : Int} (hG : G rb = some (0, rc K U out)) (hJ : JK P K U) (hO : OKP P) : ACalls Try.prog 38 [.ptr rb 0, .agg [.int .i64 sw, .int .i64 port]] G fun r G' => G' = G ∧ r = .bool (upP P sw port) := by
  have gc := fun G => rgood_c (sw := sw) (port := port) (G := G)
  obtain ⟨hK, hU, hJ⟩ := hJ
  have hv := hO.val sw
  unfold upP
  cases hg : goodP sw port with
  | false =>
    rw [hg] at gc
    refine ACalls.hide fun post hpost => ?_
    refine F38_in (by simp) (by simp) fun hbd => ?_
    repeat' (first
      | refine awp_seqK fun K' hpK => ?_
      | refine awp_block ?_
      | refine awp_condG fun A' B' hpA hpB => ?_
      | refine useK (by with_reducible assumption) ?_
      | refine useP (by with_reducible assumption) ?_
      | refine ED_cons (fun _ => ?_) ?_
      | (refine stable_mk ?_; simp (disch := first | (with_reducible assumption) | (simp; done) | omega | (simp; omega)) [hG]; done)
      | (refine stable_no ?_; simp (disch := first | (with_reducible assumption) | (simp; done) | omega | (simp; omega)) [hG]; done)
      | (with_reducible refine And.intro ?_ ?_)
      | (with_reducible intro hc)
      | (with_reducible refine GDsplit (fun hc => ?_) (fun hc => ?_) <;> try simp [hc])
      | (with_reducible refine GDsplitN (fun hc => ?_) (fun hc => ?_) <;> try simp [hc])
      | (with_reducible refine GDsplitNB (fun hc => ?_) (fun hc => ?_) <;> try simp [hc])
      | (with_reducible refine GDsplitB (fun hc => ?_) (fun hc => ?_) <;> try simp [hc])
      | (with_reducible refine GKsplit (fun hc => ?_) (fun hc => ?_) <;> try simp [hc])
      | (with_reducible refine GKsplitN (fun hc => ?_) (fun hc => ?_) <;> try simp [hc])
      | (with_reducible refine GKsplitNB (fun hc => ?_) (fun hc => ?_) <;> try simp [hc])
      | (with_reducible refine GKsplitB (fun hc => ?_) (fun hc => ?_) <;> try simp [hc])
      | (refine CallK.use (gc _) ?_; rintro r G' _ _ ⟨rfl, rfl⟩)
      | simp (disch := first | (with_reducible assumption) | (simp; done) | omega | (simp; omega)) [hG])
    exact ends_one (by simp <;> rfl) (by simp) (hpost _ _ ⟨rfl, rfl⟩)
  | true =>
    rw [hg] at gc
    obtain ⟨g1, g2, g3, g4⟩ := goodP_iff.1 hg
    obtain ⟨s, rfl⟩ : ∃ s : Nat, sw = (s : Int) := ⟨sw.toNat, by omega⟩
    obtain ⟨p, rfl⟩ : ∃ p : Nat, port = (p : Int) := ⟨port.toNat, by omega⟩
    obtain ⟨e1, e2⟩ := hJ s (by omega) (by omega)
    obtain ⟨r1, h1⟩ := rc_K (K := K) (U := U) (out := out) (s := s) (by omega)
    obtain ⟨r2, h2⟩ := rc_U (K := K) (U := U) (out := out) (s := s) (by omega) hK
    have hs9 : (s : Int) < 9 := by omega
    have hs0 : (0 : Int) ≤ s := by omega
    rw [e1] at h1
    rw [e2] at h2
    cases hk : (getL P (s : Int)).isSome with
    | false =>
      rw [hk] at h1
      have hn : getL P (s : Int) = none := by simpa using hk
      refine ACalls.hide fun post hpost => ?_
      refine F38_in (by simp) (by simp) fun hbd => ?_
      repeat' (first
        | refine awp_seqK fun K' hpK => ?_
        | refine awp_block ?_
        | refine awp_condG fun A' B' hpA hpB => ?_
        | refine useK (by with_reducible assumption) ?_
        | refine useP (by with_reducible assumption) ?_
        | refine ED_cons (fun _ => ?_) ?_
        | (refine stable_mk ?_; simp (disch := first | (with_reducible assumption) | (simp; done) | omega | (simp; omega)) [hG, h1, hs9, hs0]; done)
        | (refine stable_no ?_; simp (disch := first | (with_reducible assumption) | (simp; done) | omega | (simp; omega)) [hG, h1, hs9, hs0]; done)
        | (with_reducible refine And.intro ?_ ?_)
        | (with_reducible intro hc)
        | (with_reducible refine GDsplit (fun hc => ?_) (fun hc => ?_) <;> try simp [hc])
        | (with_reducible refine GDsplitN (fun hc => ?_) (fun hc => ?_) <;> try simp [hc])
        | (with_reducible refine GDsplitNB (fun hc => ?_) (fun hc => ?_) <;> try simp [hc])
        | (with_reducible refine GDsplitB (fun hc => ?_) (fun hc => ?_) <;> try simp [hc])
        | (with_reducible refine GKsplit (fun hc => ?_) (fun hc => ?_) <;> try simp [hc])
        | (with_reducible refine GKsplitN (fun hc => ?_) (fun hc => ?_) <;> try simp [hc])
        | (with_reducible refine GKsplitNB (fun hc => ?_) (fun hc => ?_) <;> try simp [hc])
        | (with_reducible refine GKsplitB (fun hc => ?_) (fun hc => ?_) <;> try simp [hc])
        | (refine CallK.use (gc _) ?_; rintro r G' _ _ ⟨rfl, rfl⟩)
        | simp (disch := first | (with_reducible assumption) | (simp; done) | omega | (simp; omega)) [hG, h1, hs9, hs0])
      exact ends_one (by simp <;> rfl) (by simp) (hpost _ _ ⟨rfl, by rw [hn]; simp⟩)
    | true =>
      rw [hk] at h1
      generalize (getL P (s : Int)).getD 0 = v at hv h2 ⊢
      refine ACalls.hide fun post hpost => ?_
      refine F38_in (by simp) (by simp) fun hbd => ?_
      repeat' (first
        | refine awp_seqK fun K' hpK => ?_
        | refine awp_block ?_
        | refine awp_condG fun A' B' hpA hpB => ?_
        | refine useK (by with_reducible assumption) ?_
        | refine useP (by with_reducible assumption) ?_
        | refine ED_cons (fun _ => ?_) ?_
        | (refine stable_mk ?_; simp (disch := first | (with_reducible assumption) | (simp; done) | omega | (simp; omega)) [hG, h1, h2, hs9, hs0]; done)
        | (refine stable_no ?_; simp (disch := first | (with_reducible assumption) | (simp; done) | omega | (simp; omega)) [hG, h1, h2, hs9, hs0]; done)
        | (with_reducible refine And.intro ?_ ?_)
        | (with_reducible intro hc)
        | (with_reducible refine GDsplit (fun hc => ?_) (fun hc => ?_) <;> try simp [hc])
        | (with_reducible refine GDsplitN (fun hc => ?_) (fun hc => ?_) <;> try simp [hc])
        | (with_reducible refine GDsplitNB (fun hc => ?_) (fun hc => ?_) <;> try simp [hc])
        | (with_reducible refine GDsplitB (fun hc => ?_) (fun hc => ?_) <;> try simp [hc])
        | (with_reducible refine GKsplit (fun hc => ?_) (fun hc => ?_) <;> try simp [hc])
        | (with_reducible refine GKsplitN (fun hc => ?_) (fun hc => ?_) <;> try simp [hc])
        | (with_reducible refine GKsplitNB (fun hc => ?_) (fun hc => ?_) <;> try simp [hc])
        | (with_reducible refine GKsplitB (fun hc => ?_) (fun hc => ?_) <;> try simp [hc])
        | (refine CallK.use (gc _) ?_; rintro r G' _ _ ⟨rfl, rfl⟩)
        | simp (disch := first | (with_reducible assumption) | (simp; done) | omega | (simp; omega)) [hG, h1, h2, hs9, hs0])
      refine awp_loop' (fun w T G2 => ∃ (k : Nat) (q : Int), k + w = p ∧ 1 ≤ k ∧ G2 = G' ∧ q = v / 2 ^ (k - 1) ∧ T = ofL [(3, .box [.int .i64 s, .int .i64 p]), (5, .int .i64 q), (6, .int .i64 k)]) (p - 1) ⟨1, v, by omega, by omega, rfl, by simp, by simp⟩ ?_
      rintro w T G2 ⟨k, q, hk, hk1, rfl, hq, rfl⟩ N hN
      have hq0 : 0 ≤ q := by rw [hq]; exact Int.ediv_nonneg hv.1 (Int.le_of_lt (Int.pow_pos (by omega)))
      have hq1 : q ≤ 255 := by rw [hq]; exact Int.le_trans (Int.ediv_le_self _ hv.1) hv.2
      have ht : q.tdiv 2 = q / 2 := Int.tdiv_eq_ediv_of_nonneg hq0
      have hm : q.tmod 2 = q % 2 := Int.tmod_eq_emod_of_nonneg hq0
      by_cases hkp : (k : Int) < p
      · repeat' (first
          | refine awp_seqK fun K' hpK => ?_
          | refine awp_block ?_
          | refine awp_condG fun A' B' hpA hpB => ?_
          | refine useK (by with_reducible assumption) ?_
          | refine useP (by with_reducible assumption) ?_
          | refine ED_cons (fun _ => ?_) ?_
          | (refine stable_mk ?_; simp (disch := first | (with_reducible assumption) | (simp; done) | omega | (simp; omega)) [hkp, ht]; done)
          | (refine stable_no ?_; simp (disch := first | (with_reducible assumption) | (simp; done) | omega | (simp; omega)) [hkp, ht]; done)
          | (with_reducible refine And.intro ?_ ?_)
          | (with_reducible intro hc)
          | (with_reducible refine GDsplit (fun hc => ?_) (fun hc => ?_) <;> try simp [hc])
          | (with_reducible refine GDsplitN (fun hc => ?_) (fun hc => ?_) <;> try simp [hc])
          | (with_reducible refine GDsplitNB (fun hc => ?_) (fun hc => ?_) <;> try simp [hc])
          | (with_reducible refine GDsplitB (fun hc => ?_) (fun hc => ?_) <;> try simp [hc])
          | (with_reducible refine GKsplit (fun hc => ?_) (fun hc => ?_) <;> try simp [hc])
          | (with_reducible refine GKsplitN (fun hc => ?_) (fun hc => ?_) <;> try simp [hc])
          | (with_reducible refine GKsplitNB (fun hc => ?_) (fun hc => ?_) <;> try simp [hc])
          | (with_reducible refine GKsplitB (fun hc => ?_) (fun hc => ?_) <;> try simp [hc])
          | simp (disch := first | (with_reducible assumption) | (simp; done) | omega | (simp; omega)) [hkp, ht])
        refine hN (w - 1) _ _ (by omega) ⟨k + 1, q / 2, by omega, by omega, rfl, ?_, by simp⟩
        rw [hq, Int.ediv_ediv_of_nonneg (Int.le_of_lt (Int.pow_pos (by omega))), ← Int.pow_succ]
        congr 2; omega
      · have hkp2 : k = p := by omega
        repeat' (first
          | refine awp_seqK fun K' hpK => ?_
          | refine awp_block ?_
          | refine awp_condG fun A' B' hpA hpB => ?_
          | refine useK (by with_reducible assumption) ?_
          | refine useP (by with_reducible assumption) ?_
          | refine ED_cons (fun _ => ?_) ?_
          | (refine stable_mk ?_; simp (disch := first | (with_reducible assumption) | (simp; done) | omega | (simp; omega)) [hkp, hm]; done)
          | (refine stable_no ?_; simp (disch := first | (with_reducible assumption) | (simp; done) | omega | (simp; omega)) [hkp, hm]; done)
          | (with_reducible refine And.intro ?_ ?_)
          | (with_reducible intro hc)
          | (with_reducible refine GDsplit (fun hc => ?_) (fun hc => ?_) <;> try simp [hc])
          | (with_reducible refine GDsplitN (fun hc => ?_) (fun hc => ?_) <;> try simp [hc])
          | (with_reducible refine GDsplitNB (fun hc => ?_) (fun hc => ?_) <;> try simp [hc])
          | (with_reducible refine GDsplitB (fun hc => ?_) (fun hc => ?_) <;> try simp [hc])
          | (with_reducible refine GKsplit (fun hc => ?_) (fun hc => ?_) <;> try simp [hc])
          | (with_reducible refine GKsplitN (fun hc => ?_) (fun hc => ?_) <;> try simp [hc])
          | (with_reducible refine GKsplitNB (fun hc => ?_) (fun hc => ?_) <;> try simp [hc])
          | (with_reducible refine GKsplitB (fun hc => ?_) (fun hc => ?_) <;> try simp [hc])
          | simp (disch := first | (with_reducible assumption) | (simp; done) | omega | (simp; omega)) [hkp, hm])
        exact ends_one (by simp <;> rfl) (by simp) (hpost _ _ ⟨rfl, by rw [hq, hkp2]; simp⟩)
end Go.Proofs.Ytapocekfkbkefaa
