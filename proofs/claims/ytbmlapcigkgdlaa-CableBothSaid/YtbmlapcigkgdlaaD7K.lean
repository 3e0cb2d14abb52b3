import Derived.Test.YtbmlapcigkgdlaaD6K
import Derived.Test.YtbmlapcigkgdlaaAl2
set_option linter.unusedSimpArgs false
set_option linter.unusedVariables false
namespace Go.Proofs.Ytbmlapcigkgdlaa
open Go Go.Al
set_option maxRecDepth 20000
attribute [local irreducible] awp aops aopsD eop pv ACalls CallK AppK AEnds ti

/-- what is plugged in where may be -/
def EOk (v : End) : Prop := (v.kind = 1 ∧ goodP v.pl = true) ∨ v.kind = 2
theorem EOk.good {v : End} (h : EOk v) (h1 : v.kind = 1) : goodP v.pl = true := by rcases h with h | h; exact h.2; omega
theorem EOk.ne {v : End} (h : EOk v) : v.kind ≠ 0 := by rcases h with h | h <;> omega
def NOk (L : List (Int × End)) : Prop := ∀ x ∈ L, (∃ p, goodP p = true ∧ x.1 = numP p) ∧ EOk x.2
theorem goods_mem {p : Pl} (h : goodP p = true) : p ∈ goods := by
  obtain ⟨h1, h2, h3, h4⟩ := goodP_iff.1 h
  simp only [goods, List.mem_map, List.mem_range]
  refine ⟨(p.sw.toNat - 1) * 8 + (p.port.toNat - 1), by omega, ?_⟩
  cases p; simp only [Pl.mk.injEq] at *; omega
theorem NOk.len {L : List (Int × End)} (hS : Srt L) (h : NOk L) : L.length ≤ 64 := by
  have := hS.len_le (m := goods.map numP) fun x hx => by
    obtain ⟨p, hp, e⟩ := (h x hx).1
    rw [e]; exact List.mem_map_of_mem (goods_mem hp)
  simpa [goods_len] using this
theorem numP_range {p : Pl} (h : goodP p = true) : 101 ≤ numP p ∧ numP p ≤ 808 := by
  obtain ⟨h1, h2, h3, h4⟩ := goodP_iff.1 h
  unfold numP; omega
theorem numP_inj {p q : Pl} (hp : goodP p = true) (hq : goodP q = true) : numP p = numP q ↔ p = q := by
  obtain ⟨h1, h2, h3, h4⟩ := goodP_iff.1 hp
  obtain ⟨k1, k2, k3, k4⟩ := goodP_iff.1 hq
  constructor
  · intro h; unfold numP at h; cases p; cases q; simp only [Pl.mk.injEq] at *; omega
  · rintro rfl; rfl
theorem placeN_num {p : Pl} (hp : goodP p = true) : placeN (numP p) = p := by
  obtain ⟨h1, h2, h3, h4⟩ := goodP_iff.1 hp
  have h0 : 0 ≤ 100 * p.sw + p.port := by omega
  unfold placeN numP
  rw [Int.tdiv_eq_ediv_of_nonneg h0, Int.tmod_eq_emod_of_nonneg h0]
  cases p; simp only [Pl.mk.injEq] at *; omega
theorem NOk.set {L : List (Int × End)} (h : NOk L) {p : Pl} (hp : goodP p = true) {v : End} (hv : EOk v) : NOk (setL L (numP p) v) := by
  intro x hx
  rcases setL_mem hx with rfl | hx
  · exact ⟨⟨p, hp, rfl⟩, hv⟩
  · exact h x hx
theorem NOk.del {L : List (Int × End)} (h : NOk L) (k : Int) : NOk (delL L k) := fun x hx => h x ((List.mem_filter.1 hx).1)
theorem setN {sb : Nat} {h : Hp} {L : List (Int × End)} {p : Pl} {v : End} (hs : SHE sb h L 64) (hok : NOk L) (hp : goodP p = true) (hv : EOk v) : ACalls Try.prog 33 [.ptr sb 0, .int .i64 (numP p), v.av] h fun r h' => SHE sb h' (setL L (numP p) v) 64 ∧ r = .int .i64 0 := by
  have hl := hok.len hs.2
  have hr : setRE L 64 (numP p) = true := by
    unfold setRE
    cases hh : hasL L (numP p) with
    | true => rfl
    | false =>
      have h1 := (hok.set hp hv).len (hs.2.set (numP p) v)
      rw [setL_len hs.2, hh] at h1
      simp at h1
      rw [decide_eq_true (by omega)]; rfl
  exact setE_E hs (by omega) (by rw [if_pos hr]) (by rw [if_pos hr])

def whereN (L : List (Int × End)) (h : Int) : Option Pl := (L.find? fun x => decide (x.2.kind = 2 ∧ x.2.host = h)).map fun x => placeN x.1
set_option maxHeartbeats 1000000 in
theorem whereC {nb : Nat} {G : Hp} {L : List (Int × End)} {hst : Int} (hn : NetH nb G L) (hok : NOk L) : ACalls Try.prog 12 [.ptr nb 0, .int .i64 hst] G fun r G' => G' = G ∧ r = .tup [((whereN L hst).getD p0).av, .bool (whereN L hst).isSome] := by
  obtain ⟨sb, h, rfl, hnb, hs⟩ := hn
  have hl := hok.len hs.2
  refine ACalls.hide fun post hpost => ?_
  refine F12_in (by simp) (by simp) fun hbd => ?_
  repeat' (first
    | refine awp_seqK fun K' hpK => ?_
    | refine awp_block ?_
    | refine awp_condG fun A' B' hpA hpB => ?_
    | refine useK (by with_reducible assumption) ?_
    | refine useP (by with_reducible assumption) ?_
    | refine ED_cons (fun _ => ?_) ?_
    | (refine stable_mk ?_; simp (disch := first | (with_reducible assumption) | (simp; done) | omega | (simp; omega)); done)
    | (refine stable_no ?_; simp (disch := first | (with_reducible assumption) | (simp; done) | omega | (simp; omega)); done)
    | (with_reducible refine And.intro ?_ ?_)
    | (with_reducible intro hc; try (exfalso; omega))
    | (with_reducible refine GDsplit (fun hc => ?_) (fun hc => ?_) <;> try simp [hc])
    | (with_reducible refine GDsplitN (fun hc => ?_) (fun hc => ?_) <;> try simp [hc])
    | (with_reducible refine GDsplitNB (fun hc => ?_) (fun hc => ?_) <;> try simp [hc])
    | (with_reducible refine GDsplitB (fun hc => ?_) (fun hc => ?_) <;> try simp [hc])
    | (with_reducible refine GKsplit (fun hc => ?_) (fun hc => ?_) <;> try simp [hc])
    | (with_reducible refine GKsplitN (fun hc => ?_) (fun hc => ?_) <;> try simp [hc])
    | (with_reducible refine GKsplitNB (fun hc => ?_) (fun hc => ?_) <;> try simp [hc])
    | (with_reducible refine GKsplitB (fun hc => ?_) (fun hc => ?_) <;> try simp [hc])
    | (refine CallK.use ((keysE_c hs (by omega)).frame1 hnb) ?_; rintro r G' _ _ ⟨h', hnb', rfl, rfl, sk, rfl, hsk⟩)
    | simp (disch := first | (with_reducible assumption) | (simp; done) | omega | (simp; omega)))
  have hlen : (LL sk).length = L.length := by rw [hsk]; simp
  refine awp_loop' (fun w T G' => ∃ k : Nat, k + w = L.length ∧ G' = setH h' nb (some (0, [.ptr sb 0])) ∧ L.find? (fun x => decide (x.2.kind = 2 ∧ x.2.host = hst)) = (L.drop k).find? (fun x => decide (x.2.kind = 2 ∧ x.2.host = hst)) ∧ T = ofL [(0, .ptr nb 0), (1, .int .i64 hst), (4, .box [.int .i64 0, .int .i64 0]), (16, ofS cKE sk), (17, .int .i64 (LL sk).length), (18, .int .i64 k)]) L.length ⟨0, by omega, rfl, rfl, by simp⟩ ?_
  rintro w T G' ⟨k, hk, rfl, hw, rfl⟩ N hN
  by_cases hkl : k < L.length
  · have hks : k < (LL sk).length := by omega
    have hkx : (LL sk)[k] = (L[k]).1 := by simp only [hsk, List.getElem_map]
    have hge := getL_at hs.2 hkl
    have gc := (getE_c (k := (L[k]).1) hs (by omega)).frame1 (o := (0, [.ptr sb 0])) hnb
    rw [hge] at gc
    obtain ⟨p, hp, hpe⟩ := (hok _ (List.getElem_mem hkl)).1
    have hrng := numP_range hp
    rw [← hpe] at hrng
    have pc := fun G => place_c (n := (L[k]).1) (G := G) (by omega) (by omega)
    rw [List.drop_eq_getElem_cons hkl] at hw
    by_cases h1 : (L[k]).2.kind = 2
    · by_cases h2 : (L[k]).2.host = hst
      · rw [List.find?_cons_of_pos (by simp [h1, h2])] at hw
        repeat' (first
          | refine awp_seqK fun K' hpK => ?_
          | refine awp_block ?_
          | refine awp_condG fun A' B' hpA hpB => ?_
          | refine useK (by with_reducible assumption) ?_
          | refine useP (by with_reducible assumption) ?_
          | refine ED_cons (fun _ => ?_) ?_
          | (refine stable_mk ?_; simp (disch := first | (with_reducible assumption) | (simp; done) | omega | (simp; omega)) [hks, hkx, ofS_idx (f := cKE), cKE, h1, h2]; done)
          | (refine stable_no ?_; simp (disch := first | (with_reducible assumption) | (simp; done) | omega | (simp; omega)) [hks, hkx, ofS_idx (f := cKE), cKE, h1, h2]; done)
          | (with_reducible refine And.intro ?_ ?_)
          | (with_reducible intro hc; try (exfalso; omega))
          | (with_reducible refine GDsplit (fun hc => ?_) (fun hc => ?_) <;> try simp [hc])
          | (with_reducible refine GDsplitN (fun hc => ?_) (fun hc => ?_) <;> try simp [hc])
          | (with_reducible refine GDsplitNB (fun hc => ?_) (fun hc => ?_) <;> try simp [hc])
          | (with_reducible refine GDsplitB (fun hc => ?_) (fun hc => ?_) <;> try simp [hc])
          | (with_reducible refine GKsplit (fun hc => ?_) (fun hc => ?_) <;> try simp [hc])
          | (with_reducible refine GKsplitN (fun hc => ?_) (fun hc => ?_) <;> try simp [hc])
          | (with_reducible refine GKsplitNB (fun hc => ?_) (fun hc => ?_) <;> try simp [hc])
          | (with_reducible refine GKsplitB (fun hc => ?_) (fun hc => ?_) <;> try simp [hc])
          | (refine CallK.use (gc) ?_; rintro r G' _ _ ⟨hh2, hnb2, rfl, rfl, rfl⟩)
          | (refine CallK.use (pc _) ?_; rintro r G' _ _ ⟨rfl, rfl⟩)
          | simp (disch := first | (with_reducible assumption) | (simp; done) | omega | (simp; omega)) [hks, hkx, ofS_idx (f := cKE), cKE, h1, h2])
        exact ends_two (by simp <;> exact ⟨rfl, rfl⟩) (by simp) (by simp) (hpost _ _ ⟨rfl, by rw [show whereN L hst = some (placeN (L[k]).1) by unfold whereN; rw [hw]; rfl]; simp⟩)
      · rw [List.find?_cons_of_neg (by simp [h2])] at hw
        repeat' (first
          | refine awp_seqK fun K' hpK => ?_
          | refine awp_block ?_
          | refine awp_condG fun A' B' hpA hpB => ?_
          | refine useK (by with_reducible assumption) ?_
          | refine useP (by with_reducible assumption) ?_
          | refine ED_cons (fun _ => ?_) ?_
          | (refine stable_mk ?_; simp (disch := first | (with_reducible assumption) | (simp; done) | omega | (simp; omega)) [hks, hkx, ofS_idx (f := cKE), cKE, h1, h2]; done)
          | (refine stable_no ?_; simp (disch := first | (with_reducible assumption) | (simp; done) | omega | (simp; omega)) [hks, hkx, ofS_idx (f := cKE), cKE, h1, h2]; done)
          | (with_reducible refine And.intro ?_ ?_)
          | (with_reducible intro hc; try (exfalso; omega))
          | (with_reducible refine GDsplit (fun hc => ?_) (fun hc => ?_) <;> try simp [hc])
          | (with_reducible refine GDsplitN (fun hc => ?_) (fun hc => ?_) <;> try simp [hc])
          | (with_reducible refine GDsplitNB (fun hc => ?_) (fun hc => ?_) <;> try simp [hc])
          | (with_reducible refine GDsplitB (fun hc => ?_) (fun hc => ?_) <;> try simp [hc])
          | (with_reducible refine GKsplit (fun hc => ?_) (fun hc => ?_) <;> try simp [hc])
          | (with_reducible refine GKsplitN (fun hc => ?_) (fun hc => ?_) <;> try simp [hc])
          | (with_reducible refine GKsplitNB (fun hc => ?_) (fun hc => ?_) <;> try simp [hc])
          | (with_reducible refine GKsplitB (fun hc => ?_) (fun hc => ?_) <;> try simp [hc])
          | (refine CallK.use (gc) ?_; rintro r G' _ _ ⟨hh2, hnb2, rfl, rfl, rfl⟩)
          | simp (disch := first | (with_reducible assumption) | (simp; done) | omega | (simp; omega)) [hks, hkx, ofS_idx (f := cKE), cKE, h1, h2])
        exact hN (w - 1) _ _ (by omega) ⟨k + 1, by omega, rfl, hw, by simp⟩
    · rw [List.find?_cons_of_neg (by simp [h1])] at hw
      repeat' (first
        | refine awp_seqK fun K' hpK => ?_
        | refine awp_block ?_
        | refine awp_condG fun A' B' hpA hpB => ?_
        | refine useK (by with_reducible assumption) ?_
        | refine useP (by with_reducible assumption) ?_
        | refine ED_cons (fun _ => ?_) ?_
        | (refine stable_mk ?_; simp (disch := first | (with_reducible assumption) | (simp; done) | omega | (simp; omega)) [hks, hkx, ofS_idx (f := cKE), cKE, h1]; done)
        | (refine stable_no ?_; simp (disch := first | (with_reducible assumption) | (simp; done) | omega | (simp; omega)) [hks, hkx, ofS_idx (f := cKE), cKE, h1]; done)
        | (with_reducible refine And.intro ?_ ?_)
        | (with_reducible intro hc; try (exfalso; omega))
        | (with_reducible refine GDsplit (fun hc => ?_) (fun hc => ?_) <;> try simp [hc])
        | (with_reducible refine GDsplitN (fun hc => ?_) (fun hc => ?_) <;> try simp [hc])
        | (with_reducible refine GDsplitNB (fun hc => ?_) (fun hc => ?_) <;> try simp [hc])
        | (with_reducible refine GDsplitB (fun hc => ?_) (fun hc => ?_) <;> try simp [hc])
        | (with_reducible refine GKsplit (fun hc => ?_) (fun hc => ?_) <;> try simp [hc])
        | (with_reducible refine GKsplitN (fun hc => ?_) (fun hc => ?_) <;> try simp [hc])
        | (with_reducible refine GKsplitNB (fun hc => ?_) (fun hc => ?_) <;> try simp [hc])
        | (with_reducible refine GKsplitB (fun hc => ?_) (fun hc => ?_) <;> try simp [hc])
        | (refine CallK.use (gc) ?_; rintro r G' _ _ ⟨hh2, hnb2, rfl, rfl, rfl⟩)
        | simp (disch := first | (with_reducible assumption) | (simp; done) | omega | (simp; omega)) [hks, hkx, ofS_idx (f := cKE), cKE, h1])
      exact hN (w - 1) _ _ (by omega) ⟨k + 1, by omega, rfl, hw, by simp⟩
  · rw [List.drop_of_length_le (by omega), List.find?_nil] at hw
    have hks : ¬ k < (LL sk).length := by omega
    repeat' (first
      | refine awp_seqK fun K' hpK => ?_
      | refine awp_block ?_
      | refine awp_condG fun A' B' hpA hpB => ?_
      | refine useK (by with_reducible assumption) ?_
      | refine useP (by with_reducible assumption) ?_
      | refine ED_cons (fun _ => ?_) ?_
      | (refine stable_mk ?_; simp (disch := first | (with_reducible assumption) | (simp; done) | omega | (simp; omega)) [hks]; done)
      | (refine stable_no ?_; simp (disch := first | (with_reducible assumption) | (simp; done) | omega | (simp; omega)) [hks]; done)
      | (with_reducible refine And.intro ?_ ?_)
      | (with_reducible intro hc; try (exfalso; omega))
      | (with_reducible refine GDsplit (fun hc => ?_) (fun hc => ?_) <;> try simp [hc])
      | (with_reducible refine GDsplitN (fun hc => ?_) (fun hc => ?_) <;> try simp [hc])
      | (with_reducible refine GDsplitNB (fun hc => ?_) (fun hc => ?_) <;> try simp [hc])
      | (with_reducible refine GDsplitB (fun hc => ?_) (fun hc => ?_) <;> try simp [hc])
      | (with_reducible refine GKsplit (fun hc => ?_) (fun hc => ?_) <;> try simp [hc])
      | (with_reducible refine GKsplitN (fun hc => ?_) (fun hc => ?_) <;> try simp [hc])
      | (with_reducible refine GKsplitNB (fun hc => ?_) (fun hc => ?_) <;> try simp [hc])
      | (with_reducible refine GKsplitB (fun hc => ?_) (fun hc => ?_) <;> try simp [hc])
      | simp (disch := first | (with_reducible assumption) | (simp; done) | omega | (simp; omega)) [hks])
    exact ends_two (by simp <;> exact ⟨rfl, rfl⟩) (by simp) (by simp) (hpost _ _ ⟨rfl, by rw [show whereN L hst = none by unfold whereN; rw [hw]; rfl]; simp [p0]⟩)

def linkN (x : Int × End) : Option (Pl × Pl) := if x.2.kind = 1 ∧ x.1 < numP x.2.pl then some (placeN x.1, x.2.pl) else none
set_option maxHeartbeats 1000000 in
theorem linksC {nb : Nat} {G : Hp} {L : List (Int × End)} (hn : NetH nb G L) (hok : NOk L) : ACalls Try.prog 16 [.ptr nb 0] G fun r G' => G' = G ∧ ∃ t, r = ofS cL t ∧ LL t = L.filterMap linkN := by
  refine ACalls.grow (f := cL) (sz := 4) ?_ (by simp)
  obtain ⟨sb, h, rfl, hnb, hs⟩ := hn
  have hl := hok.len hs.2
  have hat : setH h nb (some (0, [.ptr sb 0])) nb = some (0, [.ptr sb 0]) := setH_same ..
  refine ACalls.hide fun post hpost => ?_
  refine F16_in (by simp) (by simp) fun hbd => ?_
  repeat' (first
    | refine awp_seqK fun K' hpK => ?_
    | refine awp_block ?_
    | refine awp_condG fun A' B' hpA hpB => ?_
    | refine useK (by with_reducible assumption) ?_
    | refine useP (by with_reducible assumption) ?_
    | refine ED_cons (fun _ => ?_) ?_
    | (refine stable_mk ?_; simp (disch := first | (with_reducible assumption) | (simp; done) | omega | (simp; omega)); done)
    | (refine stable_no ?_; simp (disch := first | (with_reducible assumption) | (simp; done) | omega | (simp; omega)); done)
    | (with_reducible refine And.intro ?_ ?_)
    | (with_reducible intro hc; try (exfalso; omega))
    | (with_reducible refine GDsplit (fun hc => ?_) (fun hc => ?_) <;> try simp [hc])
    | (with_reducible refine GDsplitN (fun hc => ?_) (fun hc => ?_) <;> try simp [hc])
    | (with_reducible refine GDsplitNB (fun hc => ?_) (fun hc => ?_) <;> try simp [hc])
    | (with_reducible refine GDsplitB (fun hc => ?_) (fun hc => ?_) <;> try simp [hc])
    | (with_reducible refine GKsplit (fun hc => ?_) (fun hc => ?_) <;> try simp [hc])
    | (with_reducible refine GKsplitN (fun hc => ?_) (fun hc => ?_) <;> try simp [hc])
    | (with_reducible refine GKsplitNB (fun hc => ?_) (fun hc => ?_) <;> try simp [hc])
    | (with_reducible refine GKsplitB (fun hc => ?_) (fun hc => ?_) <;> try simp [hc])
    | (refine CallK.use ((keysE_c hs (by omega)).frame1 hnb) ?_; rintro r G' _ _ ⟨h', hnb', rfl, rfl, sk, rfl, hsk⟩)
    | simp (disch := first | (with_reducible assumption) | (simp; done) | omega | (simp; omega)))
  have hlen : (LL sk).length = L.length := by rw [hsk]; simp
  refine awp_loop' (fun w T G1 => ∃ (k : Nat) (o : AV), k + w = L.length ∧ Grow cL 4 (setH h' nb (some (0, [.ptr sb 0]))) G1 o ((L.take k).filterMap linkN) ∧ T = ofL [(0, .ptr nb 0), (3, o), (14, ofS cKE sk), (15, .int .i64 (LL sk).length), (16, .int .i64 k)]) L.length ⟨0, .nils, by omega, Grow.nil _ _, by simp⟩ ?_
  rintro w T G1 ⟨k, o, hk, hg, rfl⟩ N hN
  have hpo := hg.plain
  have hat1 := hg.base hat
  by_cases hkl : k < L.length
  · have hks : k < (LL sk).length := by omega
    have hkx : (LL sk)[k] = (L[k]).1 := by simp only [hsk, List.getElem_map]
    have hge := getL_at hs.2 hkl
    have gc := (getE_c (k := (L[k]).1) hs (by omega)).frame1 (o := (0, [.ptr sb 0])) hnb
    rw [hge] at gc
    obtain ⟨p, hp, hpe⟩ := (hok _ (List.getElem_mem hkl)).1
    have hgp := (hok _ (List.getElem_mem hkl)).2.good
    have hrng := numP_range hp
    rw [← hpe] at hrng
    have pc := fun G => place_c (n := (L[k]).1) (G := G) (by omega) (by omega)
    have htk := take_succ_get L k hkl
    have hln : ((L.take k).filterMap linkN).length ≤ 64 := Nat.le_trans (List.length_filterMap_le _ _) (by rw [List.length_take]; omega)
    have e : (L.take (k + 1)).filterMap linkN = (L.take k).filterMap linkN ++ (linkN L[k]).toList := by
      rw [htk, List.filterMap_append]
      cases hq : linkN L[k] <;> simp [hq]
    by_cases h1 : (L[k]).2.kind = 1
    · have nc := fun G => number_c (p := (L[k]).2.pl) (G := G) (hgp h1)
      by_cases h2 : (L[k]).1 < numP (L[k]).2.pl
      · have hlk : linkN L[k] = some (placeN (L[k]).1, (L[k]).2.pl) := if_pos ⟨h1, h2⟩
        repeat' (first
          | refine awp_seqK fun K' hpK => ?_
          | refine awp_block ?_
          | refine awp_condG fun A' B' hpA hpB => ?_
          | refine useK (by with_reducible assumption) ?_
          | refine useP (by with_reducible assumption) ?_
          | refine ED_cons (fun _ => ?_) ?_
          | (refine stable_mk ?_; simp (disch := first | (with_reducible assumption) | (simp; done) | omega | (simp; omega)) [hks, hkx, ofS_idx (f := cKE), cKE, h1, h2, hpo, hat1]; done)
          | (refine stable_no ?_; simp (disch := first | (with_reducible assumption) | (simp; done) | omega | (simp; omega)) [hks, hkx, ofS_idx (f := cKE), cKE, h1, h2, hpo, hat1]; done)
          | (with_reducible refine And.intro ?_ ?_)
          | (with_reducible intro hc; try (exfalso; omega))
          | (with_reducible refine GDsplit (fun hc => ?_) (fun hc => ?_) <;> try simp [hc])
          | (with_reducible refine GDsplitN (fun hc => ?_) (fun hc => ?_) <;> try simp [hc])
          | (with_reducible refine GDsplitNB (fun hc => ?_) (fun hc => ?_) <;> try simp [hc])
          | (with_reducible refine GDsplitB (fun hc => ?_) (fun hc => ?_) <;> try simp [hc])
          | (with_reducible refine GKsplit (fun hc => ?_) (fun hc => ?_) <;> try simp [hc])
          | (with_reducible refine GKsplitN (fun hc => ?_) (fun hc => ?_) <;> try simp [hc])
          | (with_reducible refine GKsplitNB (fun hc => ?_) (fun hc => ?_) <;> try simp [hc])
          | (with_reducible refine GKsplitB (fun hc => ?_) (fun hc => ?_) <;> try simp [hc])
          | simp (disch := first | (with_reducible assumption) | (simp; done) | omega | (simp; omega)) [hks, hkx, ofS_idx (f := cKE), cKE, h1, h2, hpo, hat1])
        refine CallK.grow hg gc ?_
        rintro r G2 G3 hg3 _ _ ⟨hh2, hnb2, rfl, rfl, rfl⟩
        repeat' (first
          | refine awp_seqK fun K' hpK => ?_
          | refine awp_block ?_
          | refine awp_condG fun A' B' hpA hpB => ?_
          | refine useK (by with_reducible assumption) ?_
          | refine useP (by with_reducible assumption) ?_
          | refine ED_cons (fun _ => ?_) ?_
          | (refine stable_mk ?_; simp (disch := first | (with_reducible assumption) | (simp; done) | omega | (simp; omega)) [h1, h2, hpo]; done)
          | (refine stable_no ?_; simp (disch := first | (with_reducible assumption) | (simp; done) | omega | (simp; omega)) [h1, h2, hpo]; done)
          | (with_reducible refine And.intro ?_ ?_)
          | (with_reducible intro hc; try (exfalso; omega))
          | (with_reducible refine GDsplit (fun hc => ?_) (fun hc => ?_) <;> try simp [hc])
          | (with_reducible refine GDsplitN (fun hc => ?_) (fun hc => ?_) <;> try simp [hc])
          | (with_reducible refine GDsplitNB (fun hc => ?_) (fun hc => ?_) <;> try simp [hc])
          | (with_reducible refine GDsplitB (fun hc => ?_) (fun hc => ?_) <;> try simp [hc])
          | (with_reducible refine GKsplit (fun hc => ?_) (fun hc => ?_) <;> try simp [hc])
          | (with_reducible refine GKsplitN (fun hc => ?_) (fun hc => ?_) <;> try simp [hc])
          | (with_reducible refine GKsplitNB (fun hc => ?_) (fun hc => ?_) <;> try simp [hc])
          | (with_reducible refine GKsplitB (fun hc => ?_) (fun hc => ?_) <;> try simp [hc])
          | (refine CallK.use (nc _) ?_; rintro r G' _ _ ⟨rfl, rfl⟩)
          | (refine CallK.use (pc _) ?_; rintro r G' _ _ ⟨rfl, rfl⟩)
          | simp (disch := first | (with_reducible assumption) | (simp; done) | omega | (simp; omega)) [h1, h2, hpo])
        refine hg3.app1 (x := (placeN (L[k]).1, (L[k]).2.pl)) (by simp [cL, End.pl]) (by simp [cL]) (by simp [LIM]; omega) (fun v3 G4 hg4 => ?_)
        have hv4 := hg4.plain
        repeat' (first
          | refine awp_seqK fun K' hpK => ?_
          | refine awp_block ?_
          | refine awp_condG fun A' B' hpA hpB => ?_
          | refine useK (by with_reducible assumption) ?_
          | refine useP (by with_reducible assumption) ?_
          | refine ED_cons (fun _ => ?_) ?_
          | (refine stable_mk ?_; simp (disch := first | (with_reducible assumption) | (simp; done) | omega | (simp; omega)) [hv4]; done)
          | (refine stable_no ?_; simp (disch := first | (with_reducible assumption) | (simp; done) | omega | (simp; omega)) [hv4]; done)
          | (with_reducible refine And.intro ?_ ?_)
          | (with_reducible intro hc; try (exfalso; omega))
          | (with_reducible refine GDsplit (fun hc => ?_) (fun hc => ?_) <;> try simp [hc])
          | (with_reducible refine GDsplitN (fun hc => ?_) (fun hc => ?_) <;> try simp [hc])
          | (with_reducible refine GDsplitNB (fun hc => ?_) (fun hc => ?_) <;> try simp [hc])
          | (with_reducible refine GDsplitB (fun hc => ?_) (fun hc => ?_) <;> try simp [hc])
          | (with_reducible refine GKsplit (fun hc => ?_) (fun hc => ?_) <;> try simp [hc])
          | (with_reducible refine GKsplitN (fun hc => ?_) (fun hc => ?_) <;> try simp [hc])
          | (with_reducible refine GKsplitNB (fun hc => ?_) (fun hc => ?_) <;> try simp [hc])
          | (with_reducible refine GKsplitB (fun hc => ?_) (fun hc => ?_) <;> try simp [hc])
          | simp (disch := first | (with_reducible assumption) | (simp; done) | omega | (simp; omega)) [hv4])
        exact hN (w - 1) _ _ (by omega) ⟨k + 1, v3, by omega, by rw [e, hlk]; exact hg4, by simp⟩
      · have hlk : linkN L[k] = none := if_neg (by simp [h2])
        repeat' (first
          | refine awp_seqK fun K' hpK => ?_
          | refine awp_block ?_
          | refine awp_condG fun A' B' hpA hpB => ?_
          | refine useK (by with_reducible assumption) ?_
          | refine useP (by with_reducible assumption) ?_
          | refine ED_cons (fun _ => ?_) ?_
          | (refine stable_mk ?_; simp (disch := first | (with_reducible assumption) | (simp; done) | omega | (simp; omega)) [hks, hkx, ofS_idx (f := cKE), cKE, h1, h2, hpo, hat1]; done)
          | (refine stable_no ?_; simp (disch := first | (with_reducible assumption) | (simp; done) | omega | (simp; omega)) [hks, hkx, ofS_idx (f := cKE), cKE, h1, h2, hpo, hat1]; done)
          | (with_reducible refine And.intro ?_ ?_)
          | (with_reducible intro hc; try (exfalso; omega))
          | (with_reducible refine GDsplit (fun hc => ?_) (fun hc => ?_) <;> try simp [hc])
          | (with_reducible refine GDsplitN (fun hc => ?_) (fun hc => ?_) <;> try simp [hc])
          | (with_reducible refine GDsplitNB (fun hc => ?_) (fun hc => ?_) <;> try simp [hc])
          | (with_reducible refine GDsplitB (fun hc => ?_) (fun hc => ?_) <;> try simp [hc])
          | (with_reducible refine GKsplit (fun hc => ?_) (fun hc => ?_) <;> try simp [hc])
          | (with_reducible refine GKsplitN (fun hc => ?_) (fun hc => ?_) <;> try simp [hc])
          | (with_reducible refine GKsplitNB (fun hc => ?_) (fun hc => ?_) <;> try simp [hc])
          | (with_reducible refine GKsplitB (fun hc => ?_) (fun hc => ?_) <;> try simp [hc])
          | simp (disch := first | (with_reducible assumption) | (simp; done) | omega | (simp; omega)) [hks, hkx, ofS_idx (f := cKE), cKE, h1, h2, hpo, hat1])
        refine CallK.grow hg gc ?_
        rintro r G2 G3 hg3 _ _ ⟨hh2, hnb2, rfl, rfl, rfl⟩
        repeat' (first
          | refine awp_seqK fun K' hpK => ?_
          | refine awp_block ?_
          | refine awp_condG fun A' B' hpA hpB => ?_
          | refine useK (by with_reducible assumption) ?_
          | refine useP (by with_reducible assumption) ?_
          | refine ED_cons (fun _ => ?_) ?_
          | (refine stable_mk ?_; simp (disch := first | (with_reducible assumption) | (simp; done) | omega | (simp; omega)) [h1, h2, hpo]; done)
          | (refine stable_no ?_; simp (disch := first | (with_reducible assumption) | (simp; done) | omega | (simp; omega)) [h1, h2, hpo]; done)
          | (with_reducible refine And.intro ?_ ?_)
          | (with_reducible intro hc; try (exfalso; omega))
          | (with_reducible refine GDsplit (fun hc => ?_) (fun hc => ?_) <;> try simp [hc])
          | (with_reducible refine GDsplitN (fun hc => ?_) (fun hc => ?_) <;> try simp [hc])
          | (with_reducible refine GDsplitNB (fun hc => ?_) (fun hc => ?_) <;> try simp [hc])
          | (with_reducible refine GDsplitB (fun hc => ?_) (fun hc => ?_) <;> try simp [hc])
          | (with_reducible refine GKsplit (fun hc => ?_) (fun hc => ?_) <;> try simp [hc])
          | (with_reducible refine GKsplitN (fun hc => ?_) (fun hc => ?_) <;> try simp [hc])
          | (with_reducible refine GKsplitNB (fun hc => ?_) (fun hc => ?_) <;> try simp [hc])
          | (with_reducible refine GKsplitB (fun hc => ?_) (fun hc => ?_) <;> try simp [hc])
          | (refine CallK.use (nc _) ?_; rintro r G' _ _ ⟨rfl, rfl⟩)
          | simp (disch := first | (with_reducible assumption) | (simp; done) | omega | (simp; omega)) [h1, h2, hpo])
        exact hN (w - 1) _ _ (by omega) ⟨k + 1, o, by omega, by rw [e, hlk]; simpa using hg3, by simp⟩
    · have hlk : linkN L[k] = none := if_neg (by simp [h1])
      repeat' (first
        | refine awp_seqK fun K' hpK => ?_
        | refine awp_block ?_
        | refine awp_condG fun A' B' hpA hpB => ?_
        | refine useK (by with_reducible assumption) ?_
        | refine useP (by with_reducible assumption) ?_
        | refine ED_cons (fun _ => ?_) ?_
        | (refine stable_mk ?_; simp (disch := first | (with_reducible assumption) | (simp; done) | omega | (simp; omega)) [hks, hkx, ofS_idx (f := cKE), cKE, h1, hpo, hat1]; done)
        | (refine stable_no ?_; simp (disch := first | (with_reducible assumption) | (simp; done) | omega | (simp; omega)) [hks, hkx, ofS_idx (f := cKE), cKE, h1, hpo, hat1]; done)
        | (with_reducible refine And.intro ?_ ?_)
        | (with_reducible intro hc; try (exfalso; omega))
        | (with_reducible refine GDsplit (fun hc => ?_) (fun hc => ?_) <;> try simp [hc])
        | (with_reducible refine GDsplitN (fun hc => ?_) (fun hc => ?_) <;> try simp [hc])
        | (with_reducible refine GDsplitNB (fun hc => ?_) (fun hc => ?_) <;> try simp [hc])
        | (with_reducible refine GDsplitB (fun hc => ?_) (fun hc => ?_) <;> try simp [hc])
        | (with_reducible refine GKsplit (fun hc => ?_) (fun hc => ?_) <;> try simp [hc])
        | (with_reducible refine GKsplitN (fun hc => ?_) (fun hc => ?_) <;> try simp [hc])
        | (with_reducible refine GKsplitNB (fun hc => ?_) (fun hc => ?_) <;> try simp [hc])
        | (with_reducible refine GKsplitB (fun hc => ?_) (fun hc => ?_) <;> try simp [hc])
        | simp (disch := first | (with_reducible assumption) | (simp; done) | omega | (simp; omega)) [hks, hkx, ofS_idx (f := cKE), cKE, h1, hpo, hat1])
      refine CallK.grow hg gc ?_
      rintro r G2 G3 hg3 _ _ ⟨hh2, hnb2, rfl, rfl, rfl⟩
      repeat' (first
        | refine awp_seqK fun K' hpK => ?_
        | refine awp_block ?_
        | refine awp_condG fun A' B' hpA hpB => ?_
        | refine useK (by with_reducible assumption) ?_
        | refine useP (by with_reducible assumption) ?_
        | refine ED_cons (fun _ => ?_) ?_
        | (refine stable_mk ?_; simp (disch := first | (with_reducible assumption) | (simp; done) | omega | (simp; omega)) [h1, hpo]; done)
        | (refine stable_no ?_; simp (disch := first | (with_reducible assumption) | (simp; done) | omega | (simp; omega)) [h1, hpo]; done)
        | (with_reducible refine And.intro ?_ ?_)
        | (with_reducible intro hc; try (exfalso; omega))
        | (with_reducible refine GDsplit (fun hc => ?_) (fun hc => ?_) <;> try simp [hc])
        | (with_reducible refine GDsplitN (fun hc => ?_) (fun hc => ?_) <;> try simp [hc])
        | (with_reducible refine GDsplitNB (fun hc => ?_) (fun hc => ?_) <;> try simp [hc])
        | (with_reducible refine GDsplitB (fun hc => ?_) (fun hc => ?_) <;> try simp [hc])
        | (with_reducible refine GKsplit (fun hc => ?_) (fun hc => ?_) <;> try simp [hc])
        | (with_reducible refine GKsplitN (fun hc => ?_) (fun hc => ?_) <;> try simp [hc])
        | (with_reducible refine GKsplitNB (fun hc => ?_) (fun hc => ?_) <;> try simp [hc])
        | (with_reducible refine GKsplitB (fun hc => ?_) (fun hc => ?_) <;> try simp [hc])
        | simp (disch := first | (with_reducible assumption) | (simp; done) | omega | (simp; omega)) [h1, hpo])
      exact hN (w - 1) _ _ (by omega) ⟨k + 1, o, by omega, by rw [e, hlk]; simpa using hg3, by simp⟩
  · have hks : ¬ k < (LL sk).length := by omega
    rw [List.take_of_length_le (by omega)] at hg
    repeat' (first
      | refine awp_seqK fun K' hpK => ?_
      | refine awp_block ?_
      | refine awp_condG fun A' B' hpA hpB => ?_
      | refine useK (by with_reducible assumption) ?_
      | refine useP (by with_reducible assumption) ?_
      | refine ED_cons (fun _ => ?_) ?_
      | (refine stable_mk ?_; simp (disch := first | (with_reducible assumption) | (simp; done) | omega | (simp; omega)) [hks, hpo]; done)
      | (refine stable_no ?_; simp (disch := first | (with_reducible assumption) | (simp; done) | omega | (simp; omega)) [hks, hpo]; done)
      | (with_reducible refine And.intro ?_ ?_)
      | (with_reducible intro hc; try (exfalso; omega))
      | (with_reducible refine GDsplit (fun hc => ?_) (fun hc => ?_) <;> try simp [hc])
      | (with_reducible refine GDsplitN (fun hc => ?_) (fun hc => ?_) <;> try simp [hc])
      | (with_reducible refine GDsplitNB (fun hc => ?_) (fun hc => ?_) <;> try simp [hc])
      | (with_reducible refine GDsplitB (fun hc => ?_) (fun hc => ?_) <;> try simp [hc])
      | (with_reducible refine GKsplit (fun hc => ?_) (fun hc => ?_) <;> try simp [hc])
      | (with_reducible refine GKsplitN (fun hc => ?_) (fun hc => ?_) <;> try simp [hc])
      | (with_reducible refine GKsplitNB (fun hc => ?_) (fun hc => ?_) <;> try simp [hc])
      | (with_reducible refine GKsplitB (fun hc => ?_) (fun hc => ?_) <;> try simp [hc])
      | simp (disch := first | (with_reducible assumption) | (simp; done) | omega | (simp; omega)) [hks, hpo])
    exact ends_one (by simp <;> rfl) hpo (hpost _ _ hg)
end Go.Proofs.Ytbmlapcigkgdlaa
