import Derived.Test.YtgideonigiokbaaD13K
set_option linter.unusedSimpArgs false
set_option linter.unusedVariables false
namespace Go.Proofs.Ytgideonigiokbaa
open Go Go.Al
set_option maxRecDepth 20000
attribute [local irreducible] awp aops aopsD eop pv ACalls CallK AppK AEnds ti

@[simp] theorem cVO_scal (v : On) : (cVO v).all AV.scal = true := by simp [cVO]
theorem flat_scal (l : List On) : (l.flatMap cVO).all AV.scal = true := by rw [List.all_flatMap]; simp
theorem src_ms {G : Hp} {b τ k n : Nat} {M : List On} (h : G b = some (τ, M.flatMap cVO)) (hk : k + n ≤ M.length) : srcCells G 35 (.ms b (k * 35) n 35) = some (((M.drop k).take n).length, ((M.drop k).take n).flatMap cVO) := by
  simp only [srcCells, if_true, h]
  rw [if_pos (by rw [flat_len (sz := 35) (by simp) M]; omega), flat_drop (sz := 35) (by simp), flat_take (sz := 35) (by simp), List.length_take, List.length_drop, Nat.min_eq_left (by omega)]
def doneR (sq sw life ep s : Int) : List On → List On × Int × Int × Bool
  | [] => ([], sq, 0, false)
  | v :: r => if matchO sw life ep s v then (if v.at_ = 0 then (r, sq, v.id, true) else (stepO sq v :: r, sq + 1, v.id, false)) else (v :: (doneR sq sw life ep s r).1, (doneR sq sw life ep s r).2)
theorem doneR_no {sq sw life ep s : Int} {M : List On} (h : ∀ i (hi : i < M.length), matchO sw life ep s M[i] = false) : doneR sq sw life ep s M = (M, sq, 0, false) := by
  induction M with
  | nil => rfl
  | cons v r ih =>
    have h0 : matchO sw life ep s v = false := h 0 (by simp)
    unfold doneR
    rw [h0, if_neg (by simp), ih fun i hi => by have := h (i + 1) (by simpa using hi); simpa using this]
theorem doneR_at {sq sw life ep s : Int} {M : List On} {j : Nat} (hj : j < M.length) (h : ∀ i (hi : i < M.length), i < j → matchO sw life ep s M[i] = false) (he : matchO sw life ep s M[j] = true) : doneR sq sw life ep s M = if (M[j]).at_ = 0 then (M.take j ++ M.drop (j + 1), sq, (M[j]).id, true) else (M.set j (stepO sq M[j]), sq + 1, (M[j]).id, false) := by
  induction M generalizing j with
  | nil => simp at hj
  | cons v r ih =>
    cases j with
    | zero =>
      simp only [List.getElem_cons_zero] at he ⊢
      unfold doneR
      rw [he, if_pos rfl]; simp
    | succ i =>
      have h0 : matchO sw life ep s v = false := h 0 (by simp) (by omega)
      simp only [List.getElem_cons_succ] at he ⊢
      unfold doneR
      rw [h0, if_neg (by simp), ih (by simpa using hj) (fun k hk hki => by have := h (k + 1) (by simpa using hk) (by omega); simpa using this) he]
      split <;> simp
set_option maxHeartbeats 8000000 in
theorem rdone_c {rb : Nat} {G : Hp} {M : List On} {rt sq sw life ep s : Int} (hR : RH rb G M rt sq) (hl : M.length ≤ 1000) (h0 : 0 ≤ sq) (h1 : sq ≤ 1000000) (hok : ∀ v ∈ M, okAt v) : ACalls Try.prog 35 [.ptr rb 0, .int .i64 sw, .int .u32 life, .int .u32 ep, .int .u32 s] G fun r G' => RH rb G' (doneR sq sw life ep s M).1 rt (doneR sq sw life ep s M).2.1 ∧ r = .tup [.int .u32 (doneR sq sw life ep s M).2.2.1, .bool (doneR sq sw life ep s M).2.2.2] := by
  obtain ⟨out, hg⟩ := hR
  have hat := hg.at
  have hpo := Grow.plain hg
  have hal := fun {t : TypeId} => Grow.len (P := Try.prog) (t := t) hg
  have w1 : IntKind.u32.wrap (sq + 1) = sq + 1 := by rw [IntKind.wrap_u32]; omega
  refine ACalls.hide fun post hpost => ?_
  refine F35_in (by simp) (by simp) fun hbd => ?_
  repeat' (first
    | refine awp_seqK fun K' hpK => ?_
    | refine awp_block ?_
    | refine awp_condG fun A' B' hpA hpB => ?_
    | refine useK (by with_reducible assumption) ?_
    | refine useP (by with_reducible assumption) ?_
    | refine ED_cons (fun _ => ?_) ?_
    | (refine stable_mk ?_; simp (disch := first | (with_reducible assumption) | (simp; done) | omega | (simp; omega)) [hat, hpo, hal]; done)
    | (refine stable_no ?_; simp (disch := first | (with_reducible assumption) | (simp; done) | omega | (simp; omega)) [hat, hpo, hal]; done)
    | (with_reducible refine And.intro ?_ ?_)
    | (with_reducible intro hc)
    | (with_reducible refine GDsplit (fun hc => ?_) (fun hc => ?_) <;> try simp [hc])
    | (with_reducible refine GDsplitN (fun hc => ?_) (fun hc => ?_) <;> try simp [hc])
    | (with_reducible refine GDsplitNB (fun hc => ?_) (fun hc => ?_) <;> try simp [hc])
    | (with_reducible refine GDsplitB (fun hc => ?_) (fun hc => ?_) <;> try simp [hc])
    | (with_reducible refine GKsplit (fun hc => ?_) (fun hc => ?_) <;> try simp [hc])
    | (with_reducible refine GKsplitN (fun hc => ?_) (fun hc => ?_) <;> try simp [hc])
    | (with_reducible refine GKsplitNB (fun hc => ?_) (fun hc => ?_) <;> try simp [hc])
    | (with_reducible refine GKsplitB (fun hc => ?_) (fun hc => ?_) <;> try simp [hc])
    | simp (disch := first | (with_reducible assumption) | (simp; done) | omega | (simp; omega)) [hat, hpo, hal])
  refine awp_loop' (fun w T G1 => ∃ (j : Nat), j + w = M.length ∧ G1 = G ∧ (∀ i (hi : i < M.length), i < j → matchO sw life ep s M[i] = false) ∧ T = ofL [(0, .ptr rb 0), (1, .int .i64 sw), (2, .int .u32 life), (3, .int .u32 ep), (4, .int .u32 s), (18, out), (19, .int .i64 M.length), (20, .int .i64 j)]) M.length ⟨0, by omega, rfl, fun i hi h => absurd h (by omega), by simp⟩ ?_
  rintro w T G1 ⟨j, hj, rfl, hno, rfl⟩ N hN
  by_cases hjl : j < M.length
  · obtain ⟨x, hx⟩ : ∃ x, x = M[j] := ⟨_, rfl⟩
    have hox := hok x (by rw [hx]; exact List.getElem_mem _)
    obtain ⟨b, τ, hb, rfl, hG⟩ := Grow.ms hg (by intro h; subst h; simp at hjl)
    have hatb : G1 b = some (τ, M.flatMap cVO) := by rw [hG, setH_same]
    have hbr : b ≠ rb := by rintro rfl; rw [one_same] at hb; cases hb
    have hd0 := flat_at0 (f := cVO) (sz := 35) (by simp) hjl
    rw [← hx, cVO_x] at hd0
    have hlen : (M.flatMap cVO).length = M.length * 35 := flat_len (by simp) M
    have mc : ∀ G, ACalls Try.prog 41 [x.av, .int .i64 x.at_] G fun r G' => G' = G ∧ r = (nowM x).av := fun G => rnowM_c (v := x) (G := G) hox
    simp only [On.av, Ms.av] at mc
    have hst : matchO sw life ep s x = false → ∀ i (hi : i < M.length), i < j + 1 → matchO sw life ep s M[i] = false := by
      intro hne i hi hik
      by_cases e : i < j
      · exact hno i hi e
      · have : i = j := by omega
        subst this; rw [← hx]; exact hne
    repeat' (first
      | refine awp_seqK fun K' hpK => ?_
      | refine awp_block ?_
      | refine awp_condG fun A' B' hpA hpB => ?_
      | refine useK (by with_reducible assumption) ?_
      | refine useP (by with_reducible assumption) ?_
      | refine ED_cons (fun _ => ?_) ?_
      | (refine stable_mk ?_; simp (disch := first | (with_reducible assumption) | (simp; done) | omega | (simp; omega)) [hjl, hatb, hd0]; done)
      | (refine stable_no ?_; simp (disch := first | (with_reducible assumption) | (simp; done) | omega | (simp; omega)) [hjl, hatb, hd0]; done)
      | (with_reducible refine And.intro ?_ ?_)
      | (with_reducible intro hc)
      | (with_reducible refine GDsplit (fun hc => ?_) (fun hc => ?_) <;> try simp [hc])
      | (with_reducible refine GDsplitN (fun hc => ?_) (fun hc => ?_) <;> try simp [hc])
      | (with_reducible refine GDsplitNB (fun hc => ?_) (fun hc => ?_) <;> try simp [hc])
      | (with_reducible refine GDsplitB (fun hc => ?_) (fun hc => ?_) <;> try simp [hc])
      | (with_reducible refine GKsplit (fun hc => ?_) (fun hc => ?_) <;> try simp [hc])
      | (with_reducible refine GKsplitN (fun hc => ?_) (fun hc => ?_) <;> try simp [hc])
      | (with_reducible refine GKsplitNB (fun hc => ?_) (fun hc => ?_) <;> try simp [hc])
      | (with_reducible refine GKsplitB (fun hc => ?_) (fun hc => ?_) <;> try simp [hc])
      | simp (disch := first | (with_reducible assumption) | (simp; done) | omega | (simp; omega)) [hjl, hatb, hd0])
    refine CallK.use (mc _) ?_
    rintro r G3 _ _ ⟨rfl, rfl⟩
    cases hsd : x.said with
    | false =>
      repeat' (first
        | refine awp_seqK fun K' hpK => ?_
        | refine awp_block ?_
        | refine awp_condG fun A' B' hpA hpB => ?_
        | refine useK (by with_reducible assumption) ?_
        | refine useP (by with_reducible assumption) ?_
        | refine ED_cons (fun _ => ?_) ?_
        | (refine stable_mk ?_; simp (disch := first | (with_reducible assumption) | (simp; done) | omega | (simp; omega)) [hsd]; done)
        | (refine stable_no ?_; simp (disch := first | (with_reducible assumption) | (simp; done) | omega | (simp; omega)) [hsd]; done)
        | (with_reducible refine And.intro ?_ ?_)
        | (with_reducible intro hc)
        | (with_reducible refine GDsplit (fun hc => ?_) (fun hc => ?_) <;> try simp [hc])
        | (with_reducible refine GDsplitN (fun hc => ?_) (fun hc => ?_) <;> try simp [hc])
        | (with_reducible refine GDsplitNB (fun hc => ?_) (fun hc => ?_) <;> try simp [hc])
        | (with_reducible refine GDsplitB (fun hc => ?_) (fun hc => ?_) <;> try simp [hc])
        | (with_reducible refine GKsplit (fun hc => ?_) (fun hc => ?_) <;> try simp [hc])
        | (with_reducible refine GKsplitN (fun hc => ?_) (fun hc => ?_) <;> try simp [hc])
        | (with_reducible refine GKsplitNB (fun hc => ?_) (fun hc => ?_) <;> try simp [hc])
        | (with_reducible refine GKsplitB (fun hc => ?_) (fun hc => ?_) <;> try simp [hc])
        | simp (disch := first | (with_reducible assumption) | (simp; done) | omega | (simp; omega)) [hsd])
      exact hN (w - 1) _ _ (by omega) ⟨j + 1, by omega, rfl, hst (by unfold matchO; rw [hsd]; rfl), by simp⟩
    | true =>
    by_cases m1 : (nowM x).sw = sw
    · by_cases m2 : (nowM x).life = life
      · by_cases m3 : (nowM x).ep = ep
        · by_cases m4 : (nowM x).seq = s
          · have hma : matchO sw life ep s x = true := by unfold matchO; rw [hsd]; simp [m1, m2, m3, m4]
            have hdr := doneR_at (sq := sq) hjl hno (by rw [← hx]; exact hma)
            rw [← hx] at hdr
            by_cases ha : x.at_ = 0
            · rw [if_pos ha] at hdr
              rw [hdr] at hpost
              have hj1 : (j : Int) + 1 ≤ M.length := by omega
              have hj2 : (0 : Int) ≤ (j : Int) + 1 := by omega
              have hwj : IntKind.i64.wrap ((j : Int) + 1) = (j : Int) + 1 := by rw [IntKind.wrap_i64]; omega
              have hjle : j ≤ M.length := by omega
              have hjle1 : j + 1 ≤ M.length := by omega
              have hjt : ((j : Int) + 1).toNat = j + 1 := by omega
              by_cases hlt : j + 1 < M.length
              · repeat' (first
                  | refine awp_seqK fun K' hpK => ?_
                  | refine awp_block ?_
                  | refine awp_condG fun A' B' hpA hpB => ?_
                  | refine useK (by with_reducible assumption) ?_
                  | refine useP (by with_reducible assumption) ?_
                  | refine ED_cons (fun _ => ?_) ?_
                  | (refine stable_mk ?_; simp (disch := first | (with_reducible assumption) | (simp; done) | omega | (simp; omega)) [hsd, m1, m2, m3, m4, ha, hat, hatb, hwj, hj1, hj2, hjle, hjle1, hjt, hlt]; done)
                  | (refine stable_no ?_; simp (disch := first | (with_reducible assumption) | (simp; done) | omega | (simp; omega)) [hsd, m1, m2, m3, m4, ha, hat, hatb, hwj, hj1, hj2, hjle, hjle1, hjt, hlt]; done)
                  | (with_reducible refine And.intro ?_ ?_)
                  | (with_reducible intro hc)
                  | (with_reducible refine GDsplit (fun hc => ?_) (fun hc => ?_) <;> try simp [hc])
                  | (with_reducible refine GDsplitN (fun hc => ?_) (fun hc => ?_) <;> try simp [hc])
                  | (with_reducible refine GDsplitNB (fun hc => ?_) (fun hc => ?_) <;> try simp [hc])
                  | (with_reducible refine GDsplitB (fun hc => ?_) (fun hc => ?_) <;> try simp [hc])
                  | (with_reducible refine GKsplit (fun hc => ?_) (fun hc => ?_) <;> try simp [hc])
                  | (with_reducible refine GKsplitN (fun hc => ?_) (fun hc => ?_) <;> try simp [hc])
                  | (with_reducible refine GKsplitNB (fun hc => ?_) (fun hc => ?_) <;> try simp [hc])
                  | (with_reducible refine GKsplitB (fun hc => ?_) (fun hc => ?_) <;> try simp [hc])
                  | simp (disch := first | (with_reducible assumption) | (simp; done) | omega | (simp; omega)) [hsd, m1, m2, m3, m4, ha, hat, hatb, hwj, hj1, hj2, hjle, hjle1, hjt, hlt])
                intro c hc
                refine ⟨0, ?_⟩
                have hcb : b ≠ c := by rintro rfl; rw [hatb] at hc; cases hc
                have hatc : setH G3 c (some (0, [])) b = some (τ, M.flatMap cVO) := by rw [setH_ne _ _ hcb]; exact hatb
                have hrc : rb ≠ c := by rintro rfl; rw [hat] at hc; cases hc
                have hatrc := hat
                rw [← setH_ne G3 (some (0, [])) hrc] at hatrc
                repeat' (first
                  | refine awp_seqK fun K' hpK => ?_
                  | refine awp_block ?_
                  | refine awp_condG fun A' B' hpA hpB => ?_
                  | refine useK (by with_reducible assumption) ?_
                  | refine useP (by with_reducible assumption) ?_
                  | refine ED_cons (fun _ => ?_) ?_
                  | (refine stable_mk ?_; simp (disch := first | (with_reducible assumption) | (simp; done) | omega | (simp; omega)) [hatrc, hat, RO]; done)
                  | (refine stable_no ?_; simp (disch := first | (with_reducible assumption) | (simp; done) | omega | (simp; omega)) [hatrc, hat, RO]; done)
                  | (with_reducible refine And.intro ?_ ?_)
                  | (with_reducible intro hc)
                  | (with_reducible refine GDsplit (fun hc => ?_) (fun hc => ?_) <;> try simp [hc])
                  | (with_reducible refine GDsplitN (fun hc => ?_) (fun hc => ?_) <;> try simp [hc])
                  | (with_reducible refine GDsplitNB (fun hc => ?_) (fun hc => ?_) <;> try simp [hc])
                  | (with_reducible refine GDsplitB (fun hc => ?_) (fun hc => ?_) <;> try simp [hc])
                  | (with_reducible refine GKsplit (fun hc => ?_) (fun hc => ?_) <;> try simp [hc])
                  | (with_reducible refine GKsplitN (fun hc => ?_) (fun hc => ?_) <;> try simp [hc])
                  | (with_reducible refine GKsplitNB (fun hc => ?_) (fun hc => ?_) <;> try simp [hc])
                  | (with_reducible refine GKsplitB (fun hc => ?_) (fun hc => ?_) <;> try simp [hc])
                  | simp (disch := first | (with_reducible assumption) | (simp; done) | omega | (simp; omega)) [hatrc, hat, RO])
                refine Grow.app (f := cVO) (xs := M.take j) (Grow.fresh hc) (by have := src_ms hatc (k := 0) (n := j) (by omega); simpa using this) (flat_scal _) (by simp [LIM]; omega) (fun v1 G4 hg4 => ?_) (hf := by simp)
                rw [List.nil_append] at hg4
                have hp4 := Grow.plain hg4
                have hatb4 := hg4.base hatb
                have hat4 := hg4.base hat
                repeat' (first
                  | refine awp_seqK fun K' hpK => ?_
                  | refine awp_block ?_
                  | refine awp_condG fun A' B' hpA hpB => ?_
                  | refine useK (by with_reducible assumption) ?_
                  | refine useP (by with_reducible assumption) ?_
                  | refine ED_cons (fun _ => ?_) ?_
                  | (refine stable_mk ?_; simp (disch := first | (with_reducible assumption) | (simp; done) | omega | (simp; omega)) [hp4, hat4, RO]; done)
                  | (refine stable_no ?_; simp (disch := first | (with_reducible assumption) | (simp; done) | omega | (simp; omega)) [hp4, hat4, RO]; done)
                  | (with_reducible refine And.intro ?_ ?_)
                  | (with_reducible intro hc)
                  | (with_reducible refine GDsplit (fun hc => ?_) (fun hc => ?_) <;> try simp [hc])
                  | (with_reducible refine GDsplitN (fun hc => ?_) (fun hc => ?_) <;> try simp [hc])
                  | (with_reducible refine GDsplitNB (fun hc => ?_) (fun hc => ?_) <;> try simp [hc])
                  | (with_reducible refine GDsplitB (fun hc => ?_) (fun hc => ?_) <;> try simp [hc])
                  | (with_reducible refine GKsplit (fun hc => ?_) (fun hc => ?_) <;> try simp [hc])
                  | (with_reducible refine GKsplitN (fun hc => ?_) (fun hc => ?_) <;> try simp [hc])
                  | (with_reducible refine GKsplitNB (fun hc => ?_) (fun hc => ?_) <;> try simp [hc])
                  | (with_reducible refine GKsplitB (fun hc => ?_) (fun hc => ?_) <;> try simp [hc])
                  | simp (disch := first | (with_reducible assumption) | (simp; done) | omega | (simp; omega)) [hp4, hat4, RO])
                refine Grow.app (f := cVO) (xs := M.drop (j + 1)) hg4 (by have := src_ms hatb4 (k := j + 1) (n := M.length - (j + 1)) (by omega); rwa [List.take_of_length_le (by rw [List.length_drop]; omega)] at this) (flat_scal _) (by simp [LIM]; omega) (fun v2 G5 hg5 => ?_) (hf := by simp)
                have hp5 := Grow.plain hg5
                have hkn := hg5.known
                have hks := hg5.scal
                have hkc := hg5.cells
                have hat5 := hg5.base hat
                repeat' (first
                  | refine awp_seqK fun K' hpK => ?_
                  | refine awp_block ?_
                  | refine awp_condG fun A' B' hpA hpB => ?_
                  | refine useK (by with_reducible assumption) ?_
                  | refine useP (by with_reducible assumption) ?_
                  | refine ED_cons (fun _ => ?_) ?_
                  | (refine stable_mk ?_; simp (disch := first | (with_reducible assumption) | (simp; done) | omega | (simp; omega)) [hp5, hat5, hkn, hks, hkc]; done)
                  | (refine stable_no ?_; simp (disch := first | (with_reducible assumption) | (simp; done) | omega | (simp; omega)) [hp5, hat5, hkn, hks, hkc]; done)
                  | (with_reducible refine And.intro ?_ ?_)
                  | (with_reducible intro hc)
                  | (with_reducible refine GDsplit (fun hc => ?_) (fun hc => ?_) <;> try simp [hc])
                  | (with_reducible refine GDsplitN (fun hc => ?_) (fun hc => ?_) <;> try simp [hc])
                  | (with_reducible refine GDsplitNB (fun hc => ?_) (fun hc => ?_) <;> try simp [hc])
                  | (with_reducible refine GDsplitB (fun hc => ?_) (fun hc => ?_) <;> try simp [hc])
                  | (with_reducible refine GKsplit (fun hc => ?_) (fun hc => ?_) <;> try simp [hc])
                  | (with_reducible refine GKsplitN (fun hc => ?_) (fun hc => ?_) <;> try simp [hc])
                  | (with_reducible refine GKsplitNB (fun hc => ?_) (fun hc => ?_) <;> try simp [hc])
                  | (with_reducible refine GKsplitB (fun hc => ?_) (fun hc => ?_) <;> try simp [hc])
                  | simp (disch := first | (with_reducible assumption) | (simp; done) | omega | (simp; omega)) [hp5, hat5, hkn, hks, hkc])
                obtain ⟨h6, hsub, hg6⟩ := Grow.cut hg5 hat (o' := RO v2 rt sq)
                exact ends_two_sub (by simp <;> exact ⟨rfl, rfl⟩) (by simp) (by simp) hsub (hpost _ _ ⟨⟨v2, hg6⟩, rfl⟩)
              · have hdn : M.drop (j + 1) = [] := List.drop_eq_nil_of_le (by omega)
                repeat' (first
                  | refine awp_seqK fun K' hpK => ?_
                  | refine awp_block ?_
                  | refine awp_condG fun A' B' hpA hpB => ?_
                  | refine useK (by with_reducible assumption) ?_
                  | refine useP (by with_reducible assumption) ?_
                  | refine ED_cons (fun _ => ?_) ?_
                  | (refine stable_mk ?_; simp (disch := first | (with_reducible assumption) | (simp; done) | omega | (simp; omega)) [hsd, m1, m2, m3, m4, ha, hat, hatb, hwj, hj1, hj2, hjle, hjle1, hjt, hlt]; done)
                  | (refine stable_no ?_; simp (disch := first | (with_reducible assumption) | (simp; done) | omega | (simp; omega)) [hsd, m1, m2, m3, m4, ha, hat, hatb, hwj, hj1, hj2, hjle, hjle1, hjt, hlt]; done)
                  | (with_reducible refine And.intro ?_ ?_)
                  | (with_reducible intro hc)
                  | (with_reducible refine GDsplit (fun hc => ?_) (fun hc => ?_) <;> try simp [hc])
                  | (with_reducible refine GDsplitN (fun hc => ?_) (fun hc => ?_) <;> try simp [hc])
                  | (with_reducible refine GDsplitNB (fun hc => ?_) (fun hc => ?_) <;> try simp [hc])
                  | (with_reducible refine GDsplitB (fun hc => ?_) (fun hc => ?_) <;> try simp [hc])
                  | (with_reducible refine GKsplit (fun hc => ?_) (fun hc => ?_) <;> try simp [hc])
                  | (with_reducible refine GKsplitN (fun hc => ?_) (fun hc => ?_) <;> try simp [hc])
                  | (with_reducible refine GKsplitNB (fun hc => ?_) (fun hc => ?_) <;> try simp [hc])
                  | (with_reducible refine GKsplitB (fun hc => ?_) (fun hc => ?_) <;> try simp [hc])
                  | simp (disch := first | (with_reducible assumption) | (simp; done) | omega | (simp; omega)) [hsd, m1, m2, m3, m4, ha, hat, hatb, hwj, hj1, hj2, hjle, hjle1, hjt, hlt])
                intro c hc
                refine ⟨0, ?_⟩
                have hcb : b ≠ c := by rintro rfl; rw [hatb] at hc; cases hc
                have hatc : setH G3 c (some (0, [])) b = some (τ, M.flatMap cVO) := by rw [setH_ne _ _ hcb]; exact hatb
                have hrc : rb ≠ c := by rintro rfl; rw [hat] at hc; cases hc
                have hatrc := hat
                rw [← setH_ne G3 (some (0, [])) hrc] at hatrc
                repeat' (first
                  | refine awp_seqK fun K' hpK => ?_
                  | refine awp_block ?_
                  | refine awp_condG fun A' B' hpA hpB => ?_
                  | refine useK (by with_reducible assumption) ?_
                  | refine useP (by with_reducible assumption) ?_
                  | refine ED_cons (fun _ => ?_) ?_
                  | (refine stable_mk ?_; simp (disch := first | (with_reducible assumption) | (simp; done) | omega | (simp; omega)) [hatrc, hat, RO]; done)
                  | (refine stable_no ?_; simp (disch := first | (with_reducible assumption) | (simp; done) | omega | (simp; omega)) [hatrc, hat, RO]; done)
                  | (with_reducible refine And.intro ?_ ?_)
                  | (with_reducible intro hc)
                  | (with_reducible refine GDsplit (fun hc => ?_) (fun hc => ?_) <;> try simp [hc])
                  | (with_reducible refine GDsplitN (fun hc => ?_) (fun hc => ?_) <;> try simp [hc])
                  | (with_reducible refine GDsplitNB (fun hc => ?_) (fun hc => ?_) <;> try simp [hc])
                  | (with_reducible refine GDsplitB (fun hc => ?_) (fun hc => ?_) <;> try simp [hc])
                  | (with_reducible refine GKsplit (fun hc => ?_) (fun hc => ?_) <;> try simp [hc])
                  | (with_reducible refine GKsplitN (fun hc => ?_) (fun hc => ?_) <;> try simp [hc])
                  | (with_reducible refine GKsplitNB (fun hc => ?_) (fun hc => ?_) <;> try simp [hc])
                  | (with_reducible refine GKsplitB (fun hc => ?_) (fun hc => ?_) <;> try simp [hc])
                  | simp (disch := first | (with_reducible assumption) | (simp; done) | omega | (simp; omega)) [hatrc, hat, RO])
                refine Grow.app (f := cVO) (xs := M.take j) (Grow.fresh hc) (by have := src_ms hatc (k := 0) (n := j) (by omega); simpa using this) (flat_scal _) (by simp [LIM]; omega) (fun v1 G4 hg4 => ?_) (hf := by simp)
                rw [List.nil_append] at hg4
                have hp4 := Grow.plain hg4
                have hatb4 := hg4.base hatb
                have hat4 := hg4.base hat
                repeat' (first
                  | refine awp_seqK fun K' hpK => ?_
                  | refine awp_block ?_
                  | refine awp_condG fun A' B' hpA hpB => ?_
                  | refine useK (by with_reducible assumption) ?_
                  | refine useP (by with_reducible assumption) ?_
                  | refine ED_cons (fun _ => ?_) ?_
                  | (refine stable_mk ?_; simp (disch := first | (with_reducible assumption) | (simp; done) | omega | (simp; omega)) [hp4, hat4, RO]; done)
                  | (refine stable_no ?_; simp (disch := first | (with_reducible assumption) | (simp; done) | omega | (simp; omega)) [hp4, hat4, RO]; done)
                  | (with_reducible refine And.intro ?_ ?_)
                  | (with_reducible intro hc)
                  | (with_reducible refine GDsplit (fun hc => ?_) (fun hc => ?_) <;> try simp [hc])
                  | (with_reducible refine GDsplitN (fun hc => ?_) (fun hc => ?_) <;> try simp [hc])
                  | (with_reducible refine GDsplitNB (fun hc => ?_) (fun hc => ?_) <;> try simp [hc])
                  | (with_reducible refine GDsplitB (fun hc => ?_) (fun hc => ?_) <;> try simp [hc])
                  | (with_reducible refine GKsplit (fun hc => ?_) (fun hc => ?_) <;> try simp [hc])
                  | (with_reducible refine GKsplitN (fun hc => ?_) (fun hc => ?_) <;> try simp [hc])
                  | (with_reducible refine GKsplitNB (fun hc => ?_) (fun hc => ?_) <;> try simp [hc])
                  | (with_reducible refine GKsplitB (fun hc => ?_) (fun hc => ?_) <;> try simp [hc])
                  | simp (disch := first | (with_reducible assumption) | (simp; done) | omega | (simp; omega)) [hp4, hat4, RO])
                refine Grow.app (f := cVO) (xs := M.drop (j + 1)) hg4 (by rw [hdn]; rfl) (flat_scal _) (by simp [LIM]; omega) (fun v2 G5 hg5 => ?_) (hf := by simp)
                have hp5 := Grow.plain hg5
                have hkn := hg5.known
                have hks := hg5.scal
                have hkc := hg5.cells
                have hat5 := hg5.base hat
                repeat' (first
                  | refine awp_seqK fun K' hpK => ?_
                  | refine awp_block ?_
                  | refine awp_condG fun A' B' hpA hpB => ?_
                  | refine useK (by with_reducible assumption) ?_
                  | refine useP (by with_reducible assumption) ?_
                  | refine ED_cons (fun _ => ?_) ?_
                  | (refine stable_mk ?_; simp (disch := first | (with_reducible assumption) | (simp; done) | omega | (simp; omega)) [hp5, hat5, hkn, hks, hkc]; done)
                  | (refine stable_no ?_; simp (disch := first | (with_reducible assumption) | (simp; done) | omega | (simp; omega)) [hp5, hat5, hkn, hks, hkc]; done)
                  | (with_reducible refine And.intro ?_ ?_)
                  | (with_reducible intro hc)
                  | (with_reducible refine GDsplit (fun hc => ?_) (fun hc => ?_) <;> try simp [hc])
                  | (with_reducible refine GDsplitN (fun hc => ?_) (fun hc => ?_) <;> try simp [hc])
                  | (with_reducible refine GDsplitNB (fun hc => ?_) (fun hc => ?_) <;> try simp [hc])
                  | (with_reducible refine GDsplitB (fun hc => ?_) (fun hc => ?_) <;> try simp [hc])
                  | (with_reducible refine GKsplit (fun hc => ?_) (fun hc => ?_) <;> try simp [hc])
                  | (with_reducible refine GKsplitN (fun hc => ?_) (fun hc => ?_) <;> try simp [hc])
                  | (with_reducible refine GKsplitNB (fun hc => ?_) (fun hc => ?_) <;> try simp [hc])
                  | (with_reducible refine GKsplitB (fun hc => ?_) (fun hc => ?_) <;> try simp [hc])
                  | simp (disch := first | (with_reducible assumption) | (simp; done) | omega | (simp; omega)) [hp5, hat5, hkn, hks, hkc])
                obtain ⟨h6, hsub, hg6⟩ := Grow.cut hg5 hat (o' := RO v2 rt sq)
                exact ends_two_sub (by simp <;> exact ⟨rfl, rfl⟩) (by simp) (by simp) hsub (hpost _ _ ⟨⟨v2, hg6⟩, rfl⟩)
            · rw [if_neg ha] at hdr
              rw [hdr] at hpost
              have wa : IntKind.i64.wrap (x.at_ - 1) = x.at_ - 1 := by
                have := hox.1; have := hox.2.1; have := hox.2.2
                rw [IntKind.wrap_i64]; omega
              have hg2 := Grow.set hg (one_same ..) (o' := RO (.ms b 0 M.length 35) rt (sq + 1))
              rw [setH_one] at hg2
              have hatb2 : setH G3 rb (some (RO (.ms b 0 M.length 35) rt (sq + 1))) b = some (τ, M.flatMap cVO) := by rw [setH_ne _ _ hbr]; exact hatb
              simp only [RO] at hatb2
              have hsp : splice (M.flatMap cVO) (j * 35) (cVO (stepO sq x)) = (M.set j (stepO sq x)).flatMap cVO := by
                have := flat_splice (f := cVO) (sz := 35) (by simp) hjl (j := 0) (vs := cVO (stepO sq x)) (y := stepO sq x) (by simp) (by simp)
                simpa using this
              have hsq : (M.flatMap cVO).take (j * 35) ++ AV.int .u32 x.id :: AV.int .u32 x.ep :: AV.int .u64 x.k1 :: AV.int .u64 x.k2 :: AV.int .u32 x.k3 :: AV.int .u32 x.k4 :: AV.int .i64 x.k5 :: AV.int .i64 x.k6 :: AV.int .i64 x.k7 :: AV.int .i64 x.f1 :: AV.int .i64 x.f2 :: AV.int .i64 x.t1 :: AV.int .i64 x.t2 :: AV.str x.su :: AV.str x.sh :: AV.str x.du :: AV.str x.dh :: AV.int .i64 x.act :: AV.int .i64 x.rule :: ofS cHo x.path :: AV.int .u32 x.l0 :: AV.int .u32 x.l1 :: AV.int .u32 x.l2 :: AV.int .u32 x.l3 :: AV.int .u32 x.l4 :: AV.int .u32 x.l5 :: AV.int .u32 x.l6 :: AV.int .u32 x.l7 :: AV.int .u32 x.l8 :: AV.int .i64 x.idle :: AV.int .i64 x.hard :: AV.int .i64 (x.at_ - 1) :: AV.int .u32 (sq + 1) :: AV.bool false :: AV.int .i64 x.when :: (M.flatMap cVO).drop (j * 35 + 35) = (M.set j (stepO sq x)).flatMap cVO := by
                rw [← hsp]; simp [splice, cVO_x, stepO]
              have hfit : j * 35 + (cVO (stepO sq x)).length ≤ (M.flatMap cVO).length := by rw [hlen, cVO_len]; omega
              simp only [cVO_x, stepO] at hfit
              repeat' (first
                | refine awp_seqK fun K' hpK => ?_
                | refine awp_block ?_
                | refine awp_condG fun A' B' hpA hpB => ?_
                | refine useK (by with_reducible assumption) ?_
                | refine useP (by with_reducible assumption) ?_
                | refine ED_cons (fun _ => ?_) ?_
                | (refine stable_mk ?_; simp (disch := first | (with_reducible assumption) | (simp; done) | omega | (simp; omega)) [hsd, m1, m2, m3, m4, ha, hat, hatb, hatb2, w1, wa, hjl]; done)
                | (refine stable_no ?_; simp (disch := first | (with_reducible assumption) | (simp; done) | omega | (simp; omega)) [hsd, m1, m2, m3, m4, ha, hat, hatb, hatb2, w1, wa, hjl]; done)
                | (with_reducible refine And.intro ?_ ?_)
                | (with_reducible intro hc)
                | (with_reducible refine GDsplit (fun hc => ?_) (fun hc => ?_) <;> try simp [hc])
                | (with_reducible refine GDsplitN (fun hc => ?_) (fun hc => ?_) <;> try simp [hc])
                | (with_reducible refine GDsplitNB (fun hc => ?_) (fun hc => ?_) <;> try simp [hc])
                | (with_reducible refine GDsplitB (fun hc => ?_) (fun hc => ?_) <;> try simp [hc])
                | (with_reducible refine GKsplit (fun hc => ?_) (fun hc => ?_) <;> try simp [hc])
                | (with_reducible refine GKsplitN (fun hc => ?_) (fun hc => ?_) <;> try simp [hc])
                | (with_reducible refine GKsplitNB (fun hc => ?_) (fun hc => ?_) <;> try simp [hc])
                | (with_reducible refine GKsplitB (fun hc => ?_) (fun hc => ?_) <;> try simp [hc])
                | simp (disch := first | (with_reducible assumption) | (simp; done) | omega | (simp; omega)) [hsd, m1, m2, m3, m4, ha, hat, hatb, hatb2, w1, wa, hjl])
              rw [hsq]
              refine ends_two (by simp <;> exact ⟨rfl, rfl⟩) (by simp) (by simp) (hpost _ _ ⟨⟨.ms b 0 M.length 35, .inr ⟨b, τ, ?_, by simp, ?_⟩⟩, rfl⟩)
              · unfold one; rw [setH_ne _ _ hbr]; rfl
              · have e : setH G3 rb (some (RO (.ms b 0 M.length 35) rt (sq + 1))) = setH (one rb (RO (.ms b 0 M.length 35) rt (sq + 1))) b (some (τ, M.flatMap cVO)) := by rw [hG, setH_comm hbr, setH_one]
                simp only [RO] at e ⊢
                rw [e, setH_setH]
          · repeat' (first
              | refine awp_seqK fun K' hpK => ?_
              | refine awp_block ?_
              | refine awp_condG fun A' B' hpA hpB => ?_
              | refine useK (by with_reducible assumption) ?_
              | refine useP (by with_reducible assumption) ?_
              | refine ED_cons (fun _ => ?_) ?_
              | (refine stable_mk ?_; simp (disch := first | (with_reducible assumption) | (simp; done) | omega | (simp; omega)) [hsd, m1, m2, m3, m4]; done)
              | (refine stable_no ?_; simp (disch := first | (with_reducible assumption) | (simp; done) | omega | (simp; omega)) [hsd, m1, m2, m3, m4]; done)
              | (with_reducible refine And.intro ?_ ?_)
              | (with_reducible intro hc)
              | (with_reducible refine GDsplit (fun hc => ?_) (fun hc => ?_) <;> try simp [hc])
              | (with_reducible refine GDsplitN (fun hc => ?_) (fun hc => ?_) <;> try simp [hc])
              | (with_reducible refine GDsplitNB (fun hc => ?_) (fun hc => ?_) <;> try simp [hc])
              | (with_reducible refine GDsplitB (fun hc => ?_) (fun hc => ?_) <;> try simp [hc])
              | (with_reducible refine GKsplit (fun hc => ?_) (fun hc => ?_) <;> try simp [hc])
              | (with_reducible refine GKsplitN (fun hc => ?_) (fun hc => ?_) <;> try simp [hc])
              | (with_reducible refine GKsplitNB (fun hc => ?_) (fun hc => ?_) <;> try simp [hc])
              | (with_reducible refine GKsplitB (fun hc => ?_) (fun hc => ?_) <;> try simp [hc])
              | simp (disch := first | (with_reducible assumption) | (simp; done) | omega | (simp; omega)) [hsd, m1, m2, m3, m4])
            exact hN (w - 1) _ _ (by omega) ⟨j + 1, by omega, rfl, hst (by unfold matchO; simp [m4]), by simp⟩
        · repeat' (first
            | refine awp_seqK fun K' hpK => ?_
            | refine awp_block ?_
            | refine awp_condG fun A' B' hpA hpB => ?_
            | refine useK (by with_reducible assumption) ?_
            | refine useP (by with_reducible assumption) ?_
            | refine ED_cons (fun _ => ?_) ?_
            | (refine stable_mk ?_; simp (disch := first | (with_reducible assumption) | (simp; done) | omega | (simp; omega)) [hsd, m1, m2, m3]; done)
            | (refine stable_no ?_; simp (disch := first | (with_reducible assumption) | (simp; done) | omega | (simp; omega)) [hsd, m1, m2, m3]; done)
            | (with_reducible refine And.intro ?_ ?_)
            | (with_reducible intro hc)
            | (with_reducible refine GDsplit (fun hc => ?_) (fun hc => ?_) <;> try simp [hc])
            | (with_reducible refine GDsplitN (fun hc => ?_) (fun hc => ?_) <;> try simp [hc])
            | (with_reducible refine GDsplitNB (fun hc => ?_) (fun hc => ?_) <;> try simp [hc])
            | (with_reducible refine GDsplitB (fun hc => ?_) (fun hc => ?_) <;> try simp [hc])
            | (with_reducible refine GKsplit (fun hc => ?_) (fun hc => ?_) <;> try simp [hc])
            | (with_reducible refine GKsplitN (fun hc => ?_) (fun hc => ?_) <;> try simp [hc])
            | (with_reducible refine GKsplitNB (fun hc => ?_) (fun hc => ?_) <;> try simp [hc])
            | (with_reducible refine GKsplitB (fun hc => ?_) (fun hc => ?_) <;> try simp [hc])
            | simp (disch := first | (with_reducible assumption) | (simp; done) | omega | (simp; omega)) [hsd, m1, m2, m3])
          exact hN (w - 1) _ _ (by omega) ⟨j + 1, by omega, rfl, hst (by unfold matchO; simp [m3]), by simp⟩
      · repeat' (first
          | refine awp_seqK fun K' hpK => ?_
          | refine awp_block ?_
          | refine awp_condG fun A' B' hpA hpB => ?_
          | refine useK (by with_reducible assumption) ?_
          | refine useP (by with_reducible assumption) ?_
          | refine ED_cons (fun _ => ?_) ?_
          | (refine stable_mk ?_; simp (disch := first | (with_reducible assumption) | (simp; done) | omega | (simp; omega)) [hsd, m1, m2]; done)
          | (refine stable_no ?_; simp (disch := first | (with_reducible assumption) | (simp; done) | omega | (simp; omega)) [hsd, m1, m2]; done)
          | (with_reducible refine And.intro ?_ ?_)
          | (with_reducible intro hc)
          | (with_reducible refine GDsplit (fun hc => ?_) (fun hc => ?_) <;> try simp [hc])
          | (with_reducible refine GDsplitN (fun hc => ?_) (fun hc => ?_) <;> try simp [hc])
          | (with_reducible refine GDsplitNB (fun hc => ?_) (fun hc => ?_) <;> try simp [hc])
          | (with_reducible refine GDsplitB (fun hc => ?_) (fun hc => ?_) <;> try simp [hc])
          | (with_reducible refine GKsplit (fun hc => ?_) (fun hc => ?_) <;> try simp [hc])
          | (with_reducible refine GKsplitN (fun hc => ?_) (fun hc => ?_) <;> try simp [hc])
          | (with_reducible refine GKsplitNB (fun hc => ?_) (fun hc => ?_) <;> try simp [hc])
          | (with_reducible refine GKsplitB (fun hc => ?_) (fun hc => ?_) <;> try simp [hc])
          | simp (disch := first | (with_reducible assumption) | (simp; done) | omega | (simp; omega)) [hsd, m1, m2])
        exact hN (w - 1) _ _ (by omega) ⟨j + 1, by omega, rfl, hst (by unfold matchO; simp [m2]), by simp⟩
    · repeat' (first
        | refine awp_seqK fun K' hpK => ?_
        | refine awp_block ?_
        | refine awp_condG fun A' B' hpA hpB => ?_
        | refine useK (by with_reducible assumption) ?_
        | refine useP (by with_reducible assumption) ?_
        | refine ED_cons (fun _ => ?_) ?_
        | (refine stable_mk ?_; simp (disch := first | (with_reducible assumption) | (simp; done) | omega | (simp; omega)) [hsd, m1]; done)
        | (refine stable_no ?_; simp (disch := first | (with_reducible assumption) | (simp; done) | omega | (simp; omega)) [hsd, m1]; done)
        | (with_reducible refine And.intro ?_ ?_)
        | (with_reducible intro hc)
        | (with_reducible refine GDsplit (fun hc => ?_) (fun hc => ?_) <;> try simp [hc])
        | (with_reducible refine GDsplitN (fun hc => ?_) (fun hc => ?_) <;> try simp [hc])
        | (with_reducible refine GDsplitNB (fun hc => ?_) (fun hc => ?_) <;> try simp [hc])
        | (with_reducible refine GDsplitB (fun hc => ?_) (fun hc => ?_) <;> try simp [hc])
        | (with_reducible refine GKsplit (fun hc => ?_) (fun hc => ?_) <;> try simp [hc])
        | (with_reducible refine GKsplitN (fun hc => ?_) (fun hc => ?_) <;> try simp [hc])
        | (with_reducible refine GKsplitNB (fun hc => ?_) (fun hc => ?_) <;> try simp [hc])
        | (with_reducible refine GKsplitB (fun hc => ?_) (fun hc => ?_) <;> try simp [hc])
        | simp (disch := first | (with_reducible assumption) | (simp; done) | omega | (simp; omega)) [hsd, m1])
      exact hN (w - 1) _ _ (by omega) ⟨j + 1, by omega, rfl, hst (by unfold matchO; simp [m1]), by simp⟩
  · have hdr := doneR_no (sq := sq) fun i hi => hno i hi (by omega)
    rw [hdr] at hpost
    repeat' (first
      | refine awp_seqK fun K' hpK => ?_
      | refine awp_block ?_
      | refine awp_condG fun A' B' hpA hpB => ?_
      | refine useK (by with_reducible assumption) ?_
      | refine useP (by with_reducible assumption) ?_
      | refine ED_cons (fun _ => ?_) ?_
      | (refine stable_mk ?_; simp (disch := first | (with_reducible assumption) | (simp; done) | omega | (simp; omega)) [hjl]; done)
      | (refine stable_no ?_; simp (disch := first | (with_reducible assumption) | (simp; done) | omega | (simp; omega)) [hjl]; done)
      | (with_reducible refine And.intro ?_ ?_)
      | (with_reducible intro hc)
      | (with_reducible refine GDsplit (fun hc => ?_) (fun hc => ?_) <;> try simp [hc])
      | (with_reducible refine GDsplitN (fun hc => ?_) (fun hc => ?_) <;> try simp [hc])
      | (with_reducible refine GDsplitNB (fun hc => ?_) (fun hc => ?_) <;> try simp [hc])
      | (with_reducible refine GDsplitB (fun hc => ?_) (fun hc => ?_) <;> try simp [hc])
      | (with_reducible refine GKsplit (fun hc => ?_) (fun hc => ?_) <;> try simp [hc])
      | (with_reducible refine GKsplitN (fun hc => ?_) (fun hc => ?_) <;> try simp [hc])
      | (with_reducible refine GKsplitNB (fun hc => ?_) (fun hc => ?_) <;> try simp [hc])
      | (with_reducible refine GKsplitB (fun hc => ?_) (fun hc => ?_) <;> try simp [hc])
      | simp (disch := first | (with_reducible assumption) | (simp; done) | omega | (simp; omega)) [hjl])
    exact ends_two (by simp <;> exact ⟨rfl, rfl⟩) (by simp) (by simp) (hpost _ _ ⟨⟨out, hg⟩, rfl⟩)
end Go.Proofs.Ytgideonigiokbaa
