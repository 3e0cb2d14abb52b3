import Derived.Test.YtapocekfkbkefaaD14K
set_option linter.unusedSimpArgs false
set_option linter.unusedVariables false
namespace Go.Proofs.Ytapocekfkbkefaa
open Go Go.Al
set_option maxRecDepth 20000
attribute [local irreducible] awp aops aopsD eop pv ACalls CallK AppK AEnds ti

def lessS (v x : Sn) : Prop := v.a1 < x.a1 ∨ v.a1 = x.a1 ∧ v.a2 < x.a2
instance (v x : Sn) : Decidable (lessS v x) := by unfold lessS; infer_instance
def insS (b : Sn) : List Sn → List Sn
  | [] => [b]
  | x :: r => if lessS b x then b :: x :: r else x :: insS b r
theorem insS_all {b : Sn} {l : List Sn} (h : ∀ x ∈ l, ¬ lessS b x) : insS b l = l ++ [b] := by
  induction l with
  | nil => rfl
  | cons x r ih => unfold insS; rw [if_neg (h x (by simp)), ih fun y hy => h y (by simp [hy])]; rfl
theorem insS_at {b x : Sn} {l : List Sn} (h : ∀ y ∈ l, ¬ lessS b y) (hx : lessS b x) : insS b (l ++ [x]) = l ++ [b, x] := by
  induction l with
  | nil => show insS b [x] = _; unfold insS; rw [if_pos hx]; rfl
  | cons y r ih => show insS b (y :: (r ++ [x])) = _; unfold insS; rw [if_neg (h y (by simp)), ih fun z hz => h z (by simp [hz])]; rfl
theorem insS_past {b x : Sn} {l : List Sn} (h : ∃ y ∈ l, lessS b y) : insS b (l ++ [x]) = insS b l ++ [x] := by
  induction l with
  | nil => obtain ⟨y, hy, _⟩ := h; cases hy
  | cons y r ih =>
    show insS b (y :: (r ++ [x])) = insS b (y :: r) ++ [x]
    unfold insS
    split
    · rfl
    · rename_i h1
      rw [ih (by
        obtain ⟨z, hz, hz2⟩ := h
        rcases List.mem_cons.1 hz with rfl | hz
        · exact absurd hz2 h1
        · exact ⟨z, hz, hz2⟩)]; rfl
theorem insS_len (b : Sn) (l : List Sn) : (insS b l).length = l.length + 1 := by
  induction l with
  | nil => rfl
  | cons x r ih => unfold insS; split <;> simp [ih]
def updM (l : Lk) (now : Int) : List Sn → List Sn
  | [] => []
  | x :: r => if x.lk = l then { x with t := now } :: r else x :: updM l now r
theorem updM_at {l : Lk} {now : Int} {M : List Sn} {j : Nat} (hj : j < M.length) (h : ∀ i (hi : i < j), M[i].lk ≠ l) (he : M[j].lk = l) : updM l now M = M.set j { M[j] with t := now } := by
  induction M generalizing j with
  | nil => simp at hj
  | cons x r ih =>
    cases j with
    | zero =>
      simp only [List.getElem_cons_zero] at he
      unfold updM; rw [if_pos he]; simp
    | succ i =>
      have h0 : x.lk ≠ l := h 0 (by omega)
      simp only [List.getElem_cons_succ] at he
      unfold updM; rw [if_neg h0, ih (by simpa using hj) (fun k hk => by have := h (k + 1) (by omega); simpa using this) he]; simp
def rl (M : List Sn) (x1 x2 y1 y2 now : Int) : List Sn × List Lk × Bool :=
  if ∃ x ∈ M, x.lk = ⟨x1, x2, y1, y2⟩ then (updM ⟨x1, x2, y1, y2⟩ now M, [], false)
  else (insS ⟨x1, x2, y1, y2, now⟩ (M.filter fun x => !touchP x1 x2 y1 y2 x), (M.filter (touchP x1 x2 y1 y2)).map Sn.lk, true)
theorem rlinks_c {rb : Nat} {G : Hp} {P : List (Int × Int)} {M : List Sn} (hR : RH rb G P M) (hl : M.length ≤ 1000) : ACalls Try.prog 40 [.ptr rb 0] G fun r G' => G' = G ∧ ∃ s, r = ofS cLk s ∧ LL s = M.map Sn.lk := by
  obtain ⟨K, U, out, hJ, hg⟩ := hR
  have hat := hg.at
  have hpo := Grow.plain hg
  have hal := fun {t : TypeId} => Grow.len (P := Try.prog) (t := t) hg
  have hL := rc_L (out := out) hJ.1 hJ.2.1
  refine ACalls.hide fun post hpost => ?_
  refine F40_in (by simp) (by simp) fun hbd => ?_
  repeat' (first
    | refine awp_seqK fun K' hpK => ?_
    | refine awp_block ?_
    | refine awp_condG fun A' B' hpA hpB => ?_
    | refine useK (by with_reducible assumption) ?_
    | refine useP (by with_reducible assumption) ?_
    | refine ED_cons (fun _ => ?_) ?_
    | (refine stable_mk ?_; simp (disch := first | (with_reducible assumption) | (simp; done) | omega | (simp; omega)) [hat, hL, hpo, hal]; done)
    | (refine stable_no ?_; simp (disch := first | (with_reducible assumption) | (simp; done) | omega | (simp; omega)) [hat, hL, hpo, hal]; done)
    | (with_reducible refine And.intro ?_ ?_)
    | (with_reducible intro hc)
    | (with_reducible refine GDsplit (fun hc => ?_) (fun hc => ?_) <;> try simp [hc])
    | (with_reducible refine GDsplitN (fun hc => ?_) (fun hc => ?_) <;> try simp [hc])
    | (with_reducible refine GDsplitNB (fun hc => ?_) (fun hc => ?_) <;> try simp [hc])
    | (with_reducible refine GDsplitB (fun hc => ?_) (fun hc => ?_) <;> try simp [hc])
    | (with_reducible refine GKsplit (fun hc => ?_) (fun hc => ?_) <;> try simp [hc])
    | (with_reducible refine GKsplitN (fun hc => ?_) (fun hc => ?_) <;> try simp [hc])
    | (with_reducible refine GKsplitNB (fun hc => ?_) (fun hc => ?_) <;> try simp [hc])
    | (with_reducible refine GKsplitB (fun hc => ?_) (fun hc => ?_) <;> try simp [hc])
    | simp (disch := first | (with_reducible assumption) | (simp; done) | omega | (simp; omega)) [hat, hL, hpo, hal])
  refine awp_loop' (fun w T G1 => ∃ (k : Nat) (v : AV), k + w = M.length ∧ Grow cLk 4 G G1 v ((M.take k).map Sn.lk) ∧ T = ofL [(3, v), (9, out), (10, .int .i64 M.length), (11, .int .i64 k)]) M.length ⟨0, .nils, by omega, Grow.nil _ _, by simp⟩ ?_
  rintro w T G1 ⟨k, v, hk, hgo, rfl⟩ N hN
  have hoo := hgo.plain
  by_cases hkl : k < M.length
  · obtain ⟨b, τ, hb, rfl, hG⟩ := Grow.ms hg (by intro h; subst h; simp at hkl)
    have hatb : G b = some (τ, M.flatMap cVS) := by rw [hG, setH_same]
    have hatb1 := hgo.base hatb
    have hd0 := flat_at0 (f := cVS) (sz := 5) (by simp) hkl
    have htk := take_succ_get M k hkl
    obtain ⟨x, hx⟩ : ∃ x, x = M[k] := ⟨_, rfl⟩
    rw [← hx] at hd0 htk
    repeat' (first
      | refine awp_seqK fun K' hpK => ?_
      | refine awp_block ?_
      | refine awp_condG fun A' B' hpA hpB => ?_
      | refine useK (by with_reducible assumption) ?_
      | refine useP (by with_reducible assumption) ?_
      | refine ED_cons (fun _ => ?_) ?_
      | (refine stable_mk ?_; simp (disch := first | (with_reducible assumption) | (simp; done) | omega | (simp; omega)) [hkl, hatb1, hd0, cVS, hoo]; done)
      | (refine stable_no ?_; simp (disch := first | (with_reducible assumption) | (simp; done) | omega | (simp; omega)) [hkl, hatb1, hd0, cVS, hoo]; done)
      | (with_reducible refine And.intro ?_ ?_)
      | (with_reducible intro hc)
      | (with_reducible refine GDsplit (fun hc => ?_) (fun hc => ?_) <;> try simp [hc])
      | (with_reducible refine GDsplitN (fun hc => ?_) (fun hc => ?_) <;> try simp [hc])
      | (with_reducible refine GDsplitNB (fun hc => ?_) (fun hc => ?_) <;> try simp [hc])
      | (with_reducible refine GDsplitB (fun hc => ?_) (fun hc => ?_) <;> try simp [hc])
      | (with_reducible refine GKsplit (fun hc => ?_) (fun hc => ?_) <;> try simp [hc])
      | (with_reducible refine GKsplitN (fun hc => ?_) (fun hc => ?_) <;> try simp [hc])
      | (with_reducible refine GKsplitNB (fun hc => ?_) (fun hc => ?_) <;> try simp [hc])
      | (with_reducible refine GKsplitB (fun hc => ?_) (fun hc => ?_) <;> try simp [hc])
      | simp (disch := first | (with_reducible assumption) | (simp; done) | omega | (simp; omega)) [hkl, hatb1, hd0, cVS, hoo])
    refine hgo.app1 (x := x.lk) (by simp [cLk, Sn.lk]) (by simp [cLk]) (by simp [LIM]; omega) (fun v2 G2 hg2 => ?_)
    have hv2 := hg2.plain
    repeat' (first
      | refine awp_seqK fun K' hpK => ?_
      | refine awp_block ?_
      | refine awp_condG fun A' B' hpA hpB => ?_
      | refine useK (by with_reducible assumption) ?_
      | refine useP (by with_reducible assumption) ?_
      | refine ED_cons (fun _ => ?_) ?_
      | (refine stable_mk ?_; simp (disch := first | (with_reducible assumption) | (simp; done) | omega | (simp; omega)) [hv2]; done)
      | (refine stable_no ?_; simp (disch := first | (with_reducible assumption) | (simp; done) | omega | (simp; omega)) [hv2]; done)
      | (with_reducible refine And.intro ?_ ?_)
      | (with_reducible intro hc)
      | (with_reducible refine GDsplit (fun hc => ?_) (fun hc => ?_) <;> try simp [hc])
      | (with_reducible refine GDsplitN (fun hc => ?_) (fun hc => ?_) <;> try simp [hc])
      | (with_reducible refine GDsplitNB (fun hc => ?_) (fun hc => ?_) <;> try simp [hc])
      | (with_reducible refine GDsplitB (fun hc => ?_) (fun hc => ?_) <;> try simp [hc])
      | (with_reducible refine GKsplit (fun hc => ?_) (fun hc => ?_) <;> try simp [hc])
      | (with_reducible refine GKsplitN (fun hc => ?_) (fun hc => ?_) <;> try simp [hc])
      | (with_reducible refine GKsplitNB (fun hc => ?_) (fun hc => ?_) <;> try simp [hc])
      | (with_reducible refine GKsplitB (fun hc => ?_) (fun hc => ?_) <;> try simp [hc])
      | simp (disch := first | (with_reducible assumption) | (simp; done) | omega | (simp; omega)) [hv2])
    exact hN (w - 1) _ _ (by omega) ⟨k + 1, v2, by omega, by rw [htk, List.map_append]; exact hg2, by simp⟩
  · rw [List.take_of_length_le (by omega)] at hgo
    repeat' (first
      | refine awp_seqK fun K' hpK => ?_
      | refine awp_block ?_
      | refine awp_condG fun A' B' hpA hpB => ?_
      | refine useK (by with_reducible assumption) ?_
      | refine useP (by with_reducible assumption) ?_
      | refine ED_cons (fun _ => ?_) ?_
      | (refine stable_mk ?_; simp (disch := first | (with_reducible assumption) | (simp; done) | omega | (simp; omega)) [hkl, hoo]; done)
      | (refine stable_no ?_; simp (disch := first | (with_reducible assumption) | (simp; done) | omega | (simp; omega)) [hkl, hoo]; done)
      | (with_reducible refine And.intro ?_ ?_)
      | (with_reducible intro hc)
      | (with_reducible refine GDsplit (fun hc => ?_) (fun hc => ?_) <;> try simp [hc])
      | (with_reducible refine GDsplitN (fun hc => ?_) (fun hc => ?_) <;> try simp [hc])
      | (with_reducible refine GDsplitNB (fun hc => ?_) (fun hc => ?_) <;> try simp [hc])
      | (with_reducible refine GDsplitB (fun hc => ?_) (fun hc => ?_) <;> try simp [hc])
      | (with_reducible refine GKsplit (fun hc => ?_) (fun hc => ?_) <;> try simp [hc])
      | (with_reducible refine GKsplitN (fun hc => ?_) (fun hc => ?_) <;> try simp [hc])
      | (with_reducible refine GKsplitNB (fun hc => ?_) (fun hc => ?_) <;> try simp [hc])
      | (with_reducible refine GKsplitB (fun hc => ?_) (fun hc => ?_) <;> try simp [hc])
      | simp (disch := first | (with_reducible assumption) | (simp; done) | omega | (simp; omega)) [hkl, hoo])
    obtain ⟨s, hs2, hz, hsub⟩ := hgo.frz (by simp)
    exact ends_fr1 (by simp <;> rfl) hoo hsub hz (hpost _ _ ⟨rfl, s, rfl, hs2⟩)
theorem redge_c {rb : Nat} {G : Hp} {P : List (Int × Int)} {M : List Sn} {sw port : Int} (hR : RH rb G P M) (hO : OKP P) (hl : M.length ≤ 1000) : ACalls Try.prog 39 [.ptr rb 0, .agg [.int .i64 sw, .int .i64 port]] G fun r G' => G' = G ∧ r = .bool (edgeP P M sw port) := by
  obtain ⟨K, U, out, hJ, hg⟩ := hR
  have hat := hg.at
  have hpo := Grow.plain hg
  have hal := fun {t : TypeId} => Grow.len (P := Try.prog) (t := t) hg
  have hL := rc_L (out := out) hJ.1 hJ.2.1
  unfold edgeP
  refine ACalls.hide fun post hpost => ?_
  refine F39_in (by simp) (by simp) fun hbd => ?_
  repeat' (first
    | refine awp_seqK fun K' hpK => ?_
    | refine awp_block ?_
    | refine awp_condG fun A' B' hpA hpB => ?_
    | refine useK (by with_reducible assumption) ?_
    | refine useP (by with_reducible assumption) ?_
    | refine ED_cons (fun _ => ?_) ?_
    | (refine stable_mk ?_; simp (disch := first | (with_reducible assumption) | (simp; done) | omega | (simp; omega)) [hat, hL, hpo, hal]; done)
    | (refine stable_no ?_; simp (disch := first | (with_reducible assumption) | (simp; done) | omega | (simp; omega)) [hat, hL, hpo, hal]; done)
    | (with_reducible refine And.intro ?_ ?_)
    | (with_reducible intro hc)
    | (with_reducible refine GDsplit (fun hc => ?_) (fun hc => ?_) <;> try simp [hc])
    | (with_reducible refine GDsplitN (fun hc => ?_) (fun hc => ?_) <;> try simp [hc])
    | (with_reducible refine GDsplitNB (fun hc => ?_) (fun hc => ?_) <;> try simp [hc])
    | (with_reducible refine GDsplitB (fun hc => ?_) (fun hc => ?_) <;> try simp [hc])
    | (with_reducible refine GKsplit (fun hc => ?_) (fun hc => ?_) <;> try simp [hc])
    | (with_reducible refine GKsplitN (fun hc => ?_) (fun hc => ?_) <;> try simp [hc])
    | (with_reducible refine GKsplitNB (fun hc => ?_) (fun hc => ?_) <;> try simp [hc])
    | (with_reducible refine GKsplitB (fun hc => ?_) (fun hc => ?_) <;> try simp [hc])
    | simp (disch := first | (with_reducible assumption) | (simp; done) | omega | (simp; omega)) [hat, hL, hpo, hal])
  refine awp_loop' (fun w T G1 => ∃ (k : Nat), k + w = M.length ∧ G1 = G ∧ ((M.any fun x => endsP x sw port) = (M.drop k).any fun x => endsP x sw port) ∧ T = ofL [(0, .ptr rb 0), (3, .box [.int .i64 sw, .int .i64 port]), (10, out), (11, .int .i64 M.length), (12, .int .i64 k)]) M.length ⟨0, by omega, rfl, rfl, by simp⟩ ?_
  rintro w T G1 ⟨k, hk, rfl, hd, rfl⟩ N hN
  by_cases hkl : k < M.length
  · obtain ⟨b, τ, hb, rfl, hG⟩ := Grow.ms hg (by intro h; subst h; simp at hkl)
    have hatb : G1 b = some (τ, M.flatMap cVS) := by rw [hG, setH_same]
    have hd0 := flat_at0 (f := cVS) (sz := 5) (by simp) hkl
    obtain ⟨x, hx⟩ : ∃ x, x = M[k] := ⟨_, rfl⟩
    rw [List.drop_eq_getElem_cons hkl, List.any_cons] at hd
    rw [← hx] at hd0 hd
    by_cases h1 : x.a1 = sw ∧ x.a2 = port
    · have he : endsP x sw port = true := by unfold endsP; simp [h1]
      obtain ⟨rfl, rfl⟩ := h1
      repeat' (first
        | refine awp_seqK fun K' hpK => ?_
        | refine awp_block ?_
        | refine awp_condG fun A' B' hpA hpB => ?_
        | refine useK (by with_reducible assumption) ?_
        | refine useP (by with_reducible assumption) ?_
        | refine ED_cons (fun _ => ?_) ?_
        | (refine stable_mk ?_; simp (disch := first | (with_reducible assumption) | (simp; done) | omega | (simp; omega)) [hkl, hatb, hd0, cVS]; done)
        | (refine stable_no ?_; simp (disch := first | (with_reducible assumption) | (simp; done) | omega | (simp; omega)) [hkl, hatb, hd0, cVS]; done)
        | (with_reducible refine And.intro ?_ ?_)
        | (with_reducible intro hc)
        | (with_reducible refine GDsplit (fun hc => ?_) (fun hc => ?_) <;> try simp [hc])
        | (with_reducible refine GDsplitN (fun hc => ?_) (fun hc => ?_) <;> try simp [hc])
        | (with_reducible refine GDsplitNB (fun hc => ?_) (fun hc => ?_) <;> try simp [hc])
        | (with_reducible refine GDsplitB (fun hc => ?_) (fun hc => ?_) <;> try simp [hc])
        | (with_reducible refine GKsplit (fun hc => ?_) (fun hc => ?_) <;> try simp [hc])
        | (with_reducible refine GKsplitN (fun hc => ?_) (fun hc => ?_) <;> try simp [hc])
        | (with_reducible refine GKsplitNB (fun hc => ?_) (fun hc => ?_) <;> try simp [hc])
        | (with_reducible refine GKsplitB (fun hc => ?_) (fun hc => ?_) <;> try simp [hc])
        | simp (disch := first | (with_reducible assumption) | (simp; done) | omega | (simp; omega)) [hkl, hatb, hd0, cVS])
      exact ends_one (by simp <;> rfl) (by simp) (hpost _ _ ⟨rfl, by rw [hd, he]; simp⟩)
    by_cases h2 : x.b1 = sw ∧ x.b2 = port
    · have he : endsP x sw port = true := by unfold endsP; simp [h2]
      obtain ⟨rfl, rfl⟩ := h2
      repeat' (first
        | refine awp_seqK fun K' hpK => ?_
        | refine awp_block ?_
        | refine awp_condG fun A' B' hpA hpB => ?_
        | refine useK (by with_reducible assumption) ?_
        | refine useP (by with_reducible assumption) ?_
        | refine ED_cons (fun _ => ?_) ?_
        | (refine stable_mk ?_; simp (disch := first | (with_reducible assumption) | (simp; done) | omega | (simp; omega)) [hkl, hatb, hd0, cVS, h1]; done)
        | (refine stable_no ?_; simp (disch := first | (with_reducible assumption) | (simp; done) | omega | (simp; omega)) [hkl, hatb, hd0, cVS, h1]; done)
        | (with_reducible refine And.intro ?_ ?_)
        | (with_reducible intro hc)
        | (with_reducible refine GDsplit (fun hc => ?_) (fun hc => ?_) <;> try simp [hc])
        | (with_reducible refine GDsplitN (fun hc => ?_) (fun hc => ?_) <;> try simp [hc])
        | (with_reducible refine GDsplitNB (fun hc => ?_) (fun hc => ?_) <;> try simp [hc])
        | (with_reducible refine GDsplitB (fun hc => ?_) (fun hc => ?_) <;> try simp [hc])
        | (with_reducible refine GKsplit (fun hc => ?_) (fun hc => ?_) <;> try simp [hc])
        | (with_reducible refine GKsplitN (fun hc => ?_) (fun hc => ?_) <;> try simp [hc])
        | (with_reducible refine GKsplitNB (fun hc => ?_) (fun hc => ?_) <;> try simp [hc])
        | (with_reducible refine GKsplitB (fun hc => ?_) (fun hc => ?_) <;> try simp [hc])
        | simp (disch := first | (with_reducible assumption) | (simp; done) | omega | (simp; omega)) [hkl, hatb, hd0, cVS, h1])
      exact ends_one (by simp <;> rfl) (by simp) (hpost _ _ ⟨rfl, by rw [hd, he]; simp⟩)
    · have he : endsP x sw port = false := by unfold endsP; simp only [h1, h2]; rfl
      repeat' (first
        | refine awp_seqK fun K' hpK => ?_
        | refine awp_block ?_
        | refine awp_condG fun A' B' hpA hpB => ?_
        | refine useK (by with_reducible assumption) ?_
        | refine useP (by with_reducible assumption) ?_
        | refine ED_cons (fun _ => ?_) ?_
        | (refine stable_mk ?_; simp (disch := first | (with_reducible assumption) | (simp; done) | omega | (simp; omega)) [hkl, hatb, hd0, cVS, h1, h2]; done)
        | (refine stable_no ?_; simp (disch := first | (with_reducible assumption) | (simp; done) | omega | (simp; omega)) [hkl, hatb, hd0, cVS, h1, h2]; done)
        | (with_reducible refine And.intro ?_ ?_)
        | (with_reducible intro hc)
        | (with_reducible refine GDsplit (fun hc => ?_) (fun hc => ?_) <;> try simp [hc])
        | (with_reducible refine GDsplitN (fun hc => ?_) (fun hc => ?_) <;> try simp [hc])
        | (with_reducible refine GDsplitNB (fun hc => ?_) (fun hc => ?_) <;> try simp [hc])
        | (with_reducible refine GDsplitB (fun hc => ?_) (fun hc => ?_) <;> try simp [hc])
        | (with_reducible refine GKsplit (fun hc => ?_) (fun hc => ?_) <;> try simp [hc])
        | (with_reducible refine GKsplitN (fun hc => ?_) (fun hc => ?_) <;> try simp [hc])
        | (with_reducible refine GKsplitNB (fun hc => ?_) (fun hc => ?_) <;> try simp [hc])
        | (with_reducible refine GKsplitB (fun hc => ?_) (fun hc => ?_) <;> try simp [hc])
        | simp (disch := first | (with_reducible assumption) | (simp; done) | omega | (simp; omega)) [hkl, hatb, hd0, cVS, h1, h2])
      exact hN (w - 1) _ _ (by omega) ⟨k + 1, by omega, rfl, by rw [hd, he]; simp, by simp⟩
  · have uc := rup_c (sw := sw) (port := port) hat hJ hO
    rw [List.drop_eq_nil_of_le (by omega)] at hd
    repeat' (first
      | refine awp_seqK fun K' hpK => ?_
      | refine awp_block ?_
      | refine awp_condG fun A' B' hpA hpB => ?_
      | refine useK (by with_reducible assumption) ?_
      | refine useP (by with_reducible assumption) ?_
      | refine ED_cons (fun _ => ?_) ?_
      | (refine stable_mk ?_; simp (disch := first | (with_reducible assumption) | (simp; done) | omega | (simp; omega)) [hkl]; done)
      | (refine stable_no ?_; simp (disch := first | (with_reducible assumption) | (simp; done) | omega | (simp; omega)) [hkl]; done)
      | (with_reducible refine And.intro ?_ ?_)
      | (with_reducible intro hc)
      | (with_reducible refine GDsplit (fun hc => ?_) (fun hc => ?_) <;> try simp [hc])
      | (with_reducible refine GDsplitN (fun hc => ?_) (fun hc => ?_) <;> try simp [hc])
      | (with_reducible refine GDsplitNB (fun hc => ?_) (fun hc => ?_) <;> try simp [hc])
      | (with_reducible refine GDsplitB (fun hc => ?_) (fun hc => ?_) <;> try simp [hc])
      | (with_reducible refine GKsplit (fun hc => ?_) (fun hc => ?_) <;> try simp [hc])
      | (with_reducible refine GKsplitN (fun hc => ?_) (fun hc => ?_) <;> try simp [hc])
      | (with_reducible refine GKsplitNB (fun hc => ?_) (fun hc => ?_) <;> try simp [hc])
      | (with_reducible refine GKsplitB (fun hc => ?_) (fun hc => ?_) <;> try simp [hc])
      | (refine CallK.use (uc) ?_; rintro r G' _ _ ⟨rfl, rfl⟩)
      | simp (disch := first | (with_reducible assumption) | (simp; done) | omega | (simp; omega)) [hkl])
    exact ends_one (by simp <;> rfl) (by simp) (hpost _ _ ⟨rfl, by rw [hd]; simp⟩)
end Go.Proofs.Ytapocekfkbkefaa
