import Derived.Test.YtgideonigiokbaaD6K
set_option linter.unusedSimpArgs false
set_option linter.unusedVariables false
namespace Go.Proofs.Ytgideonigiokbaa
open Go Go.Al
set_option maxRecDepth 20000
attribute [local irreducible] awp aops aopsD eop pv ACalls CallK AppK AEnds ti

def matchO (sw life ep sq : Int) (v : On) : Bool := v.said && decide ((nowM v).sw = sw ∧ (nowM v).life = life ∧ (nowM v).ep = ep ∧ (nowM v).seq = sq)
def stepO (sq : Int) (v : On) : On := { v with at_ := v.at_ - 1, seq := sq + 1, said := false }
def doneP (L : List (Int × On)) (sq sw life ep s : Int) : List (Int × On) × Int × Int × Bool :=
  match L.find? fun q => matchO sw life ep s q.2 with
  | none => (L, sq, 0, false)
  | some q => if q.2.at_ = 0 then (delL L q.1, sq, q.1, true) else (setL L q.1 (stepO sq q.2), sq + 1, q.1, false)
theorem find_at {α : Type} {p : α → Bool} {l : List α} {j : Nat} (hj : j < l.length) (h : ∀ i (hi : i < l.length), i < j → p l[i] = false) (he : p l[j] = true) : l.find? p = some l[j] := by
  induction l generalizing j with
  | nil => simp at hj
  | cons x r ih =>
    cases j with
    | zero => simp only [List.getElem_cons_zero] at he ⊢; rw [List.find?_cons, he]
    | succ i =>
      have h0 : p x = false := h 0 (by simp) (by omega)
      rw [List.find?_cons, h0]
      simp only [List.getElem_cons_succ] at he ⊢
      exact ih (by simpa using hj) (fun k hk hki => by have := h (k + 1) (by simp; omega) (by omega); simpa using this) he
theorem find_no {α : Type} {p : α → Bool} {l : List α} (h : ∀ i (hi : i < l.length), p l[i] = false) : l.find? p = none := by
  rw [List.find?_eq_none]
  intro x hx
  obtain ⟨i, hi, rfl⟩ := List.mem_iff_getElem.1 hx
  rw [h i hi]; simp
set_option maxHeartbeats 8000000 in
theorem done_c {pb : Nat} {G : Hp} {L : List (Int × On)} {rt sq sw life ep s : Int} (hP : TH pb G L rt sq) (hl : L.length ≤ 1000) (h0 : 0 ≤ sq) (h1 : sq ≤ 1000000) (hok : ∀ q ∈ L, okAt q.2) : ACalls Try.prog 14 [.ptr pb 0, .int .i64 sw, .int .u32 life, .int .u32 ep, .int .u32 s] G fun r G' => TH pb G' (doneP L sq sw life ep s).1 rt (doneP L sq sw life ep s).2.1 ∧ r = .tup [.int .u32 (doneP L sq sw life ep s).2.2.1, .bool (doneP L sq sw life ep s).2.2.2] := by
  have hP0 := hP
  obtain ⟨sb, h, rfl, hpb, hs⟩ := hP
  have w1 : IntKind.u32.wrap (sq + 1) = sq + 1 := by rw [IntKind.wrap_u32]; omega
  have h1L : 1 ≤ LIM := by simp [LIM]
  refine ACalls.hide fun post hpost => ?_
  refine F14_in (by simp) (by simp) fun hbd => ?_
  repeat' (first
    | refine awp_seqK fun K' hpK => ?_
    | refine awp_block ?_
    | refine awp_condG fun A' B' hpA hpB => ?_
    | refine useK (by with_reducible assumption) ?_
    | refine useP (by with_reducible assumption) ?_
    | refine ED_cons (fun _ => ?_) ?_
    | (refine stable_mk ?_; simp (disch := first | (with_reducible assumption) | (simp; done) | omega | (simp; omega)) [PO]; done)
    | (refine stable_no ?_; simp (disch := first | (with_reducible assumption) | (simp; done) | omega | (simp; omega)) [PO]; done)
    | (with_reducible refine And.intro ?_ ?_)
    | (with_reducible intro hc)
    | (with_reducible refine GDsplit (fun hc => ?_) (fun hc => ?_) <;> try simp [hc])
    | (with_reducible refine GDsplitN (fun hc => ?_) (fun hc => ?_) <;> try simp [hc])
    | (with_reducible refine GDsplitNB (fun hc => ?_) (fun hc => ?_) <;> try simp [hc])
    | (with_reducible refine GDsplitB (fun hc => ?_) (fun hc => ?_) <;> try simp [hc])
    | (with_reducible refine GKsplit (fun hc => ?_) (fun hc => ?_) <;> try simp [hc])
    | (with_reducible refine GKsplitN (fun hc => ?_) (fun hc => ?_) <;> try simp [hc])
    | (with_reducible refine GKsplitNB (fun hc => ?_) (fun hc => ?_) <;> try simp [hc])
    | (with_reducible refine GKsplitB (fun hc => ?_) (fun hc => ?_) <;> try simp [hc])
    | (refine CallK.use ((keysO_c hs (by omega)).frame1 (o := PO sb rt sq) hpb) ?_; rintro r G' _ _ ⟨h', hpb', rfl, rfl, ks, rfl, hks⟩)
    | simp (disch := first | (with_reducible assumption) | (simp; done) | omega | (simp; omega)) [PO])
  have hkl : (LL ks).length = L.length := by rw [hks, List.length_map]
  rw [hkl]
  refine awp_loop' (fun w T G' => ∃ (j : Nat), j + w = L.length ∧ G' = setH h' pb (some (PO sb rt sq)) ∧ (∀ i (hi : i < L.length), i < j → matchO sw life ep s L[i].2 = false) ∧ T = ofL [(0, .ptr pb 0), (1, .int .i64 sw), (2, .int .u32 life), (3, .int .u32 ep), (4, .int .u32 s), (23, ofS cKO ks), (24, .int .i64 L.length), (25, .int .i64 j)]) L.length ⟨0, by omega, rfl, fun i hi h => absurd h (by omega), by simp⟩ ?_
  rintro w T G' ⟨j, hj, rfl, hno, rfl⟩ N hN
  have hbase : setH h' pb (some (PO sb rt sq)) pb = some (0, [.ptr sb 0, .int .i64 rt, .int .u32 sq]) := by rw [setH_same]; rfl
  by_cases hjl : j < L.length
  · have hjk : j < (LL ks).length := by omega
    obtain ⟨q, hq⟩ : ∃ q, q = L[j] := ⟨_, rfl⟩
    have hkq : (LL ks)[j] = q.1 := by rw [hq]; simp only [hks, List.getElem_map]
    have hmq : q ∈ L := by rw [hq]; exact List.getElem_mem _
    have hoq := hok q hmq
    have hgq : getL L q.1 = some q.2 := mem_getL hs.2 hmq
    have gc := getO_c (k := q.1) hs (by omega)
    rw [hgq] at gc
    simp only [Option.getD_some, Option.isSome_some] at gc
    have mc := fun G => nowM_c (v := q.2) (G := G) hoq
    simp only [On.av, Ms.av] at mc
    have hst : matchO sw life ep s q.2 = false → ∀ i (hi : i < L.length), i < j + 1 → matchO sw life ep s L[i].2 = false := by
      intro hne i hi hik
      by_cases e : i < j
      · exact hno i hi e
      · have : i = j := by omega
        subst this; rw [← hq]; exact hne
    repeat' (first
      | refine awp_seqK fun K' hpK => ?_
      | refine awp_block ?_
      | refine awp_condG fun A' B' hpA hpB => ?_
      | refine useK (by with_reducible assumption) ?_
      | refine useP (by with_reducible assumption) ?_
      | refine ED_cons (fun _ => ?_) ?_
      | (refine stable_mk ?_; simp (disch := first | (with_reducible assumption) | (simp; done) | omega | (simp; omega)) [hjl, hjk, ofS_idx (f := cKO), cKO, hkq, PO]; done)
      | (refine stable_no ?_; simp (disch := first | (with_reducible assumption) | (simp; done) | omega | (simp; omega)) [hjl, hjk, ofS_idx (f := cKO), cKO, hkq, PO]; done)
      | (with_reducible refine And.intro ?_ ?_)
      | (with_reducible intro hc)
      | (with_reducible refine GDsplit (fun hc => ?_) (fun hc => ?_) <;> try simp [hc])
      | (with_reducible refine GDsplitN (fun hc => ?_) (fun hc => ?_) <;> try simp [hc])
      | (with_reducible refine GDsplitNB (fun hc => ?_) (fun hc => ?_) <;> try simp [hc])
      | (with_reducible refine GDsplitB (fun hc => ?_) (fun hc => ?_) <;> try simp [hc])
      | (with_reducible refine GKsplit (fun hc => ?_) (fun hc => ?_) <;> try simp [hc])
      | (with_reducible refine GKsplitN (fun hc => ?_) (fun hc => ?_) <;> try simp [hc])
      | (with_reducible refine GKsplitNB (fun hc => ?_) (fun hc => ?_) <;> try simp [hc])
      | (with_reducible refine GKsplitB (fun hc => ?_) (fun hc => ?_) <;> try simp [hc])
      | simp (disch := first | (with_reducible assumption) | (simp; done) | omega | (simp; omega)) [hjl, hjk, ofS_idx (f := cKO), cKO, hkq, PO])
    refine CallK.use (gc.frame1 (o := PO sb rt sq) hpb') ?_
    rintro r G2 _ _ ⟨h2, _, rfl, rfl, rfl⟩
    repeat' (first
      | refine awp_seqK fun K' hpK => ?_
      | refine awp_block ?_
      | refine awp_condG fun A' B' hpA hpB => ?_
      | refine useK (by with_reducible assumption) ?_
      | refine useP (by with_reducible assumption) ?_
      | refine ED_cons (fun _ => ?_) ?_
      | (refine stable_mk ?_; simp (disch := first | (with_reducible assumption) | (simp; done) | omega | (simp; omega)); done)
      | (refine stable_no ?_; simp (disch := first | (with_reducible assumption) | (simp; done) | omega | (simp; omega)); done)
      | (with_reducible refine And.intro ?_ ?_)
      | (with_reducible intro hc)
      | (with_reducible refine GDsplit (fun hc => ?_) (fun hc => ?_) <;> try simp [hc])
      | (with_reducible refine GDsplitN (fun hc => ?_) (fun hc => ?_) <;> try simp [hc])
      | (with_reducible refine GDsplitNB (fun hc => ?_) (fun hc => ?_) <;> try simp [hc])
      | (with_reducible refine GDsplitB (fun hc => ?_) (fun hc => ?_) <;> try simp [hc])
      | (with_reducible refine GKsplit (fun hc => ?_) (fun hc => ?_) <;> try simp [hc])
      | (with_reducible refine GKsplitN (fun hc => ?_) (fun hc => ?_) <;> try simp [hc])
      | (with_reducible refine GKsplitNB (fun hc => ?_) (fun hc => ?_) <;> try simp [hc])
      | (with_reducible refine GKsplitB (fun hc => ?_) (fun hc => ?_) <;> try simp [hc])
      | simp (disch := first | (with_reducible assumption) | (simp; done) | omega | (simp; omega)))
    refine CallK.use (mc _) ?_
    rintro r G3 _ _ ⟨rfl, rfl⟩
    cases hsd : q.2.said with
    | false =>
      repeat' (first
        | refine awp_seqK fun K' hpK => ?_
        | refine awp_block ?_
        | refine awp_condG fun A' B' hpA hpB => ?_
        | refine useK (by with_reducible assumption) ?_
        | refine useP (by with_reducible assumption) ?_
        | refine ED_cons (fun _ => ?_) ?_
        | (refine stable_mk ?_; simp (disch := first | (with_reducible assumption) | (simp; done) | omega | (simp; omega)) [hsd]; done)
        | (refine stable_no ?_; simp (disch := first | (with_reducible assumption) | (simp; done) | omega | (simp; omega)) [hsd]; done)
        | (with_reducible refine And.intro ?_ ?_)
        | (with_reducible intro hc)
        | (with_reducible refine GDsplit (fun hc => ?_) (fun hc => ?_) <;> try simp [hc])
        | (with_reducible refine GDsplitN (fun hc => ?_) (fun hc => ?_) <;> try simp [hc])
        | (with_reducible refine GDsplitNB (fun hc => ?_) (fun hc => ?_) <;> try simp [hc])
        | (with_reducible refine GDsplitB (fun hc => ?_) (fun hc => ?_) <;> try simp [hc])
        | (with_reducible refine GKsplit (fun hc => ?_) (fun hc => ?_) <;> try simp [hc])
        | (with_reducible refine GKsplitN (fun hc => ?_) (fun hc => ?_) <;> try simp [hc])
        | (with_reducible refine GKsplitNB (fun hc => ?_) (fun hc => ?_) <;> try simp [hc])
        | (with_reducible refine GKsplitB (fun hc => ?_) (fun hc => ?_) <;> try simp [hc])
        | simp (disch := first | (with_reducible assumption) | (simp; done) | omega | (simp; omega)) [hsd])
      exact hN (w - 1) _ _ (by omega) ⟨j + 1, by omega, rfl, hst (by unfold matchO; rw [hsd]; rfl), by simp⟩
    | true =>
    by_cases m1 : (nowM q.2).sw = sw
    · by_cases m2 : (nowM q.2).life = life
      · by_cases m3 : (nowM q.2).ep = ep
        · by_cases m4 : (nowM q.2).seq = s
          · have hfd : L.find? (fun q => matchO sw life ep s q.2) = some q := by
              rw [hq]; exact find_at hjl hno (by rw [← hq]; unfold matchO; rw [hsd]; simp [m1, m2, m3, m4])
            have hdp : doneP L sq sw life ep s = if q.2.at_ = 0 then (delL L q.1, sq, q.1, true) else (setL L q.1 (stepO sq q.2), sq + 1, q.1, false) := by unfold doneP; rw [hfd]
            by_cases ha : q.2.at_ = 0
            · rw [if_pos ha] at hdp
              have dc : ACalls Try.prog 29 [.ptr sb 0, .sl 1 [.int .u32 q.1]] h2 fun r h' => SHO sb h' (delL L q.1) 1024 ∧ r = .int .i64 (delsNO L [q.1]) := delO_c (s := some [q.1]) hs (by omega) (by simp [LL])
              repeat' (first
                | refine awp_seqK fun K' hpK => ?_
                | refine awp_block ?_
                | refine awp_condG fun A' B' hpA hpB => ?_
                | refine useK (by with_reducible assumption) ?_
                | refine useP (by with_reducible assumption) ?_
                | refine ED_cons (fun _ => ?_) ?_
                | (refine stable_mk ?_; simp (disch := first | (with_reducible assumption) | (simp; done) | omega | (simp; omega)) [hsd, m1, m2, m3, m4, ha, h1L, PO]; done)
                | (refine stable_no ?_; simp (disch := first | (with_reducible assumption) | (simp; done) | omega | (simp; omega)) [hsd, m1, m2, m3, m4, ha, h1L, PO]; done)
                | (with_reducible refine And.intro ?_ ?_)
                | (with_reducible intro hc)
                | (with_reducible refine GDsplit (fun hc => ?_) (fun hc => ?_) <;> try simp [hc])
                | (with_reducible refine GDsplitN (fun hc => ?_) (fun hc => ?_) <;> try simp [hc])
                | (with_reducible refine GDsplitNB (fun hc => ?_) (fun hc => ?_) <;> try simp [hc])
                | (with_reducible refine GDsplitB (fun hc => ?_) (fun hc => ?_) <;> try simp [hc])
                | (with_reducible refine GKsplit (fun hc => ?_) (fun hc => ?_) <;> try simp [hc])
                | (with_reducible refine GKsplitN (fun hc => ?_) (fun hc => ?_) <;> try simp [hc])
                | (with_reducible refine GKsplitNB (fun hc => ?_) (fun hc => ?_) <;> try simp [hc])
                | (with_reducible refine GKsplitB (fun hc => ?_) (fun hc => ?_) <;> try simp [hc])
                | simp (disch := first | (with_reducible assumption) | (simp; done) | omega | (simp; omega)) [hsd, m1, m2, m3, m4, ha, h1L, PO])
              refine CallK.use (dc.frame1 (o := PO sb rt sq) hpb') ?_
              rintro r G3 _ _ ⟨h3, hpb3, rfl, hs3, rfl⟩
              repeat' (first
                | refine awp_seqK fun K' hpK => ?_
                | refine awp_block ?_
                | refine awp_condG fun A' B' hpA hpB => ?_
                | refine useK (by with_reducible assumption) ?_
                | refine useP (by with_reducible assumption) ?_
                | refine ED_cons (fun _ => ?_) ?_
                | (refine stable_mk ?_; simp (disch := first | (with_reducible assumption) | (simp; done) | omega | (simp; omega)); done)
                | (refine stable_no ?_; simp (disch := first | (with_reducible assumption) | (simp; done) | omega | (simp; omega)); done)
                | (with_reducible refine And.intro ?_ ?_)
                | (with_reducible intro hc)
                | (with_reducible refine GDsplit (fun hc => ?_) (fun hc => ?_) <;> try simp [hc])
                | (with_reducible refine GDsplitN (fun hc => ?_) (fun hc => ?_) <;> try simp [hc])
                | (with_reducible refine GDsplitNB (fun hc => ?_) (fun hc => ?_) <;> try simp [hc])
                | (with_reducible refine GDsplitB (fun hc => ?_) (fun hc => ?_) <;> try simp [hc])
                | (with_reducible refine GKsplit (fun hc => ?_) (fun hc => ?_) <;> try simp [hc])
                | (with_reducible refine GKsplitN (fun hc => ?_) (fun hc => ?_) <;> try simp [hc])
                | (with_reducible refine GKsplitNB (fun hc => ?_) (fun hc => ?_) <;> try simp [hc])
                | (with_reducible refine GKsplitB (fun hc => ?_) (fun hc => ?_) <;> try simp [hc])
                | simp (disch := first | (with_reducible assumption) | (simp; done) | omega | (simp; omega)))
              exact ends_two (by simp <;> exact ⟨rfl, rfl⟩) (by simp) (by simp) (hpost _ _ (by rw [hdp]; exact ⟨⟨sb, h3, rfl, hpb3, hs3⟩, rfl⟩))
            · rw [if_neg ha] at hdp
              have hroom : setRO L 1024 q.1 = true := by unfold setRO; rw [hasL_get, hgq]; rfl
              have sc := setO_E (k := q.1) (v := stepO sq q.2) hs (by omega) (if_pos hroom) (if_pos hroom)
              simp only [stepO] at sc
              have wa : IntKind.i64.wrap (q.2.at_ - 1) = q.2.at_ - 1 := by
                have := hoq.1; have := hoq.2.1; have := hoq.2.2
                rw [IntKind.wrap_i64]; omega
              repeat' (first
                | refine awp_seqK fun K' hpK => ?_
                | refine awp_block ?_
                | refine awp_condG fun A' B' hpA hpB => ?_
                | refine useK (by with_reducible assumption) ?_
                | refine useP (by with_reducible assumption) ?_
                | refine ED_cons (fun _ => ?_) ?_
                | (refine stable_mk ?_; simp (disch := first | (with_reducible assumption) | (simp; done) | omega | (simp; omega)) [hsd, m1, m2, m3, m4, ha, PO, w1, wa, setH_setH]; done)
                | (refine stable_no ?_; simp (disch := first | (with_reducible assumption) | (simp; done) | omega | (simp; omega)) [hsd, m1, m2, m3, m4, ha, PO, w1, wa, setH_setH]; done)
                | (with_reducible refine And.intro ?_ ?_)
                | (with_reducible intro hc)
                | (with_reducible refine GDsplit (fun hc => ?_) (fun hc => ?_) <;> try simp [hc])
                | (with_reducible refine GDsplitN (fun hc => ?_) (fun hc => ?_) <;> try simp [hc])
                | (with_reducible refine GDsplitNB (fun hc => ?_) (fun hc => ?_) <;> try simp [hc])
                | (with_reducible refine GDsplitB (fun hc => ?_) (fun hc => ?_) <;> try simp [hc])
                | (with_reducible refine GKsplit (fun hc => ?_) (fun hc => ?_) <;> try simp [hc])
                | (with_reducible refine GKsplitN (fun hc => ?_) (fun hc => ?_) <;> try simp [hc])
                | (with_reducible refine GKsplitNB (fun hc => ?_) (fun hc => ?_) <;> try simp [hc])
                | (with_reducible refine GKsplitB (fun hc => ?_) (fun hc => ?_) <;> try simp [hc])
                | simp (disch := first | (with_reducible assumption) | (simp; done) | omega | (simp; omega)) [hsd, m1, m2, m3, m4, ha, PO, w1, wa, setH_setH])
              have sc2 := sc.frame1 (o := PO sb rt (sq + 1)) hpb'
              simp only [PO] at sc2
              refine CallK.use sc2 ?_
              rintro r G3 _ _ ⟨h3, hpb3, rfl, hs3, rfl⟩
              repeat' (first
                | refine awp_seqK fun K' hpK => ?_
                | refine awp_block ?_
                | refine awp_condG fun A' B' hpA hpB => ?_
                | refine useK (by with_reducible assumption) ?_
                | refine useP (by with_reducible assumption) ?_
                | refine ED_cons (fun _ => ?_) ?_
                | (refine stable_mk ?_; simp (disch := first | (with_reducible assumption) | (simp; done) | omega | (simp; omega)); done)
                | (refine stable_no ?_; simp (disch := first | (with_reducible assumption) | (simp; done) | omega | (simp; omega)); done)
                | (with_reducible refine And.intro ?_ ?_)
                | (with_reducible intro hc)
                | (with_reducible refine GDsplit (fun hc => ?_) (fun hc => ?_) <;> try simp [hc])
                | (with_reducible refine GDsplitN (fun hc => ?_) (fun hc => ?_) <;> try simp [hc])
                | (with_reducible refine GDsplitNB (fun hc => ?_) (fun hc => ?_) <;> try simp [hc])
                | (with_reducible refine GDsplitB (fun hc => ?_) (fun hc => ?_) <;> try simp [hc])
                | (with_reducible refine GKsplit (fun hc => ?_) (fun hc => ?_) <;> try simp [hc])
                | (with_reducible refine GKsplitN (fun hc => ?_) (fun hc => ?_) <;> try simp [hc])
                | (with_reducible refine GKsplitNB (fun hc => ?_) (fun hc => ?_) <;> try simp [hc])
                | (with_reducible refine GKsplitB (fun hc => ?_) (fun hc => ?_) <;> try simp [hc])
                | simp (disch := first | (with_reducible assumption) | (simp; done) | omega | (simp; omega)))
              exact ends_two (by simp <;> exact ⟨rfl, rfl⟩) (by simp) (by simp) (hpost _ _ (by rw [hdp]; exact ⟨⟨sb, h3, rfl, hpb3, hs3⟩, rfl⟩))
          · repeat' (first
              | refine awp_seqK fun K' hpK => ?_
              | refine awp_block ?_
              | refine awp_condG fun A' B' hpA hpB => ?_
              | refine useK (by with_reducible assumption) ?_
              | refine useP (by with_reducible assumption) ?_
              | refine ED_cons (fun _ => ?_) ?_
              | (refine stable_mk ?_; simp (disch := first | (with_reducible assumption) | (simp; done) | omega | (simp; omega)) [hsd, m1, m2, m3, m4]; done)
              | (refine stable_no ?_; simp (disch := first | (with_reducible assumption) | (simp; done) | omega | (simp; omega)) [hsd, m1, m2, m3, m4]; done)
              | (with_reducible refine And.intro ?_ ?_)
              | (with_reducible intro hc)
              | (with_reducible refine GDsplit (fun hc => ?_) (fun hc => ?_) <;> try simp [hc])
              | (with_reducible refine GDsplitN (fun hc => ?_) (fun hc => ?_) <;> try simp [hc])
              | (with_reducible refine GDsplitNB (fun hc => ?_) (fun hc => ?_) <;> try simp [hc])
              | (with_reducible refine GDsplitB (fun hc => ?_) (fun hc => ?_) <;> try simp [hc])
              | (with_reducible refine GKsplit (fun hc => ?_) (fun hc => ?_) <;> try simp [hc])
              | (with_reducible refine GKsplitN (fun hc => ?_) (fun hc => ?_) <;> try simp [hc])
              | (with_reducible refine GKsplitNB (fun hc => ?_) (fun hc => ?_) <;> try simp [hc])
              | (with_reducible refine GKsplitB (fun hc => ?_) (fun hc => ?_) <;> try simp [hc])
              | simp (disch := first | (with_reducible assumption) | (simp; done) | omega | (simp; omega)) [hsd, m1, m2, m3, m4])
            exact hN (w - 1) _ _ (by omega) ⟨j + 1, by omega, rfl, hst (by unfold matchO; simp [m4]), by simp⟩
        · repeat' (first
            | refine awp_seqK fun K' hpK => ?_
            | refine awp_block ?_
            | refine awp_condG fun A' B' hpA hpB => ?_
            | refine useK (by with_reducible assumption) ?_
            | refine useP (by with_reducible assumption) ?_
            | refine ED_cons (fun _ => ?_) ?_
            | (refine stable_mk ?_; simp (disch := first | (with_reducible assumption) | (simp; done) | omega | (simp; omega)) [hsd, m1, m2, m3]; done)
            | (refine stable_no ?_; simp (disch := first | (with_reducible assumption) | (simp; done) | omega | (simp; omega)) [hsd, m1, m2, m3]; done)
            | (with_reducible refine And.intro ?_ ?_)
            | (with_reducible intro hc)
            | (with_reducible refine GDsplit (fun hc => ?_) (fun hc => ?_) <;> try simp [hc])
            | (with_reducible refine GDsplitN (fun hc => ?_) (fun hc => ?_) <;> try simp [hc])
            | (with_reducible refine GDsplitNB (fun hc => ?_) (fun hc => ?_) <;> try simp [hc])
            | (with_reducible refine GDsplitB (fun hc => ?_) (fun hc => ?_) <;> try simp [hc])
            | (with_reducible refine GKsplit (fun hc => ?_) (fun hc => ?_) <;> try simp [hc])
            | (with_reducible refine GKsplitN (fun hc => ?_) (fun hc => ?_) <;> try simp [hc])
            | (with_reducible refine GKsplitNB (fun hc => ?_) (fun hc => ?_) <;> try simp [hc])
            | (with_reducible refine GKsplitB (fun hc => ?_) (fun hc => ?_) <;> try simp [hc])
            | simp (disch := first | (with_reducible assumption) | (simp; done) | omega | (simp; omega)) [hsd, m1, m2, m3])
          exact hN (w - 1) _ _ (by omega) ⟨j + 1, by omega, rfl, hst (by unfold matchO; simp [m3]), by simp⟩
      · repeat' (first
          | refine awp_seqK fun K' hpK => ?_
          | refine awp_block ?_
          | refine awp_condG fun A' B' hpA hpB => ?_
          | refine useK (by with_reducible assumption) ?_
          | refine useP (by with_reducible assumption) ?_
          | refine ED_cons (fun _ => ?_) ?_
          | (refine stable_mk ?_; simp (disch := first | (with_reducible assumption) | (simp; done) | omega | (simp; omega)) [hsd, m1, m2]; done)
          | (refine stable_no ?_; simp (disch := first | (with_reducible assumption) | (simp; done) | omega | (simp; omega)) [hsd, m1, m2]; done)
          | (with_reducible refine And.intro ?_ ?_)
          | (with_reducible intro hc)
          | (with_reducible refine GDsplit (fun hc => ?_) (fun hc => ?_) <;> try simp [hc])
          | (with_reducible refine GDsplitN (fun hc => ?_) (fun hc => ?_) <;> try simp [hc])
          | (with_reducible refine GDsplitNB (fun hc => ?_) (fun hc => ?_) <;> try simp [hc])
          | (with_reducible refine GDsplitB (fun hc => ?_) (fun hc => ?_) <;> try simp [hc])
          | (with_reducible refine GKsplit (fun hc => ?_) (fun hc => ?_) <;> try simp [hc])
          | (with_reducible refine GKsplitN (fun hc => ?_) (fun hc => ?_) <;> try simp [hc])
          | (with_reducible refine GKsplitNB (fun hc => ?_) (fun hc => ?_) <;> try simp [hc])
          | (with_reducible refine GKsplitB (fun hc => ?_) (fun hc => ?_) <;> try simp [hc])
          | simp (disch := first | (with_reducible assumption) | (simp; done) | omega | (simp; omega)) [hsd, m1, m2])
        exact hN (w - 1) _ _ (by omega) ⟨j + 1, by omega, rfl, hst (by unfold matchO; simp [m2]), by simp⟩
    · repeat' (first
        | refine awp_seqK fun K' hpK => ?_
        | refine awp_block ?_
        | refine awp_condG fun A' B' hpA hpB => ?_
        | refine useK (by with_reducible assumption) ?_
        | refine useP (by with_reducible assumption) ?_
        | refine ED_cons (fun _ => ?_) ?_
        | (refine stable_mk ?_; simp (disch := first | (with_reducible assumption) | (simp; done) | omega | (simp; omega)) [hsd, m1]; done)
        | (refine stable_no ?_; simp (disch := first | (with_reducible assumption) | (simp; done) | omega | (simp; omega)) [hsd, m1]; done)
        | (with_reducible refine And.intro ?_ ?_)
        | (with_reducible intro hc)
        | (with_reducible refine GDsplit (fun hc => ?_) (fun hc => ?_) <;> try simp [hc])
        | (with_reducible refine GDsplitN (fun hc => ?_) (fun hc => ?_) <;> try simp [hc])
        | (with_reducible refine GDsplitNB (fun hc => ?_) (fun hc => ?_) <;> try simp [hc])
        | (with_reducible refine GDsplitB (fun hc => ?_) (fun hc => ?_) <;> try simp [hc])
        | (with_reducible refine GKsplit (fun hc => ?_) (fun hc => ?_) <;> try simp [hc])
        | (with_reducible refine GKsplitN (fun hc => ?_) (fun hc => ?_) <;> try simp [hc])
        | (with_reducible refine GKsplitNB (fun hc => ?_) (fun hc => ?_) <;> try simp [hc])
        | (with_reducible refine GKsplitB (fun hc => ?_) (fun hc => ?_) <;> try simp [hc])
        | simp (disch := first | (with_reducible assumption) | (simp; done) | omega | (simp; omega)) [hsd, m1])
      exact hN (w - 1) _ _ (by omega) ⟨j + 1, by omega, rfl, hst (by unfold matchO; simp [m1]), by simp⟩
  · have hfd : L.find? (fun q => matchO sw life ep s q.2) = none := find_no fun i hi => hno i hi (by omega)
    have hdp : doneP L sq sw life ep s = (L, sq, 0, false) := by unfold doneP; rw [hfd]
    repeat' (first
      | refine awp_seqK fun K' hpK => ?_
      | refine awp_block ?_
      | refine awp_condG fun A' B' hpA hpB => ?_
      | refine useK (by with_reducible assumption) ?_
      | refine useP (by with_reducible assumption) ?_
      | refine ED_cons (fun _ => ?_) ?_
      | (refine stable_mk ?_; simp (disch := first | (with_reducible assumption) | (simp; done) | omega | (simp; omega)) [hjl]; done)
      | (refine stable_no ?_; simp (disch := first | (with_reducible assumption) | (simp; done) | omega | (simp; omega)) [hjl]; done)
      | (with_reducible refine And.intro ?_ ?_)
      | (with_reducible intro hc)
      | (with_reducible refine GDsplit (fun hc => ?_) (fun hc => ?_) <;> try simp [hc])
      | (with_reducible refine GDsplitN (fun hc => ?_) (fun hc => ?_) <;> try simp [hc])
      | (with_reducible refine GDsplitNB (fun hc => ?_) (fun hc => ?_) <;> try simp [hc])
      | (with_reducible refine GDsplitB (fun hc => ?_) (fun hc => ?_) <;> try simp [hc])
      | (with_reducible refine GKsplit (fun hc => ?_) (fun hc => ?_) <;> try simp [hc])
      | (with_reducible refine GKsplitN (fun hc => ?_) (fun hc => ?_) <;> try simp [hc])
      | (with_reducible refine GKsplitNB (fun hc => ?_) (fun hc => ?_) <;> try simp [hc])
      | (with_reducible refine GKsplitB (fun hc => ?_) (fun hc => ?_) <;> try simp [hc])
      | simp (disch := first | (with_reducible assumption) | (simp; done) | omega | (simp; omega)) [hjl])
    exact ends_two (by simp <;> exact ⟨rfl, rfl⟩) (by simp) (by simp) (hpost _ _ (by rw [hdp]; exact ⟨⟨sb, h', rfl, hpb', hs⟩, rfl⟩))
theorem delL_head {p : Int × On} {r : List (Int × On)} (h : Srt (p :: r)) : delL (p :: r) p.1 = r := by
  unfold delL
  rw [List.filter_cons, if_neg (by simp), List.filter_eq_self]
  intro q hq
  have := (Srt.cons.1 h).1 q hq
  rw [KO_int] at this
  have := of_decide_eq_true this
  simp; omega
set_option maxHeartbeats 4000000 in
theorem clear_c {pb : Nat} {G : Hp} {L : List (Int × On)} {rt sq : Int} (hP : TH pb G L rt sq) (hl : L.length ≤ 1000) : ACalls Try.prog 19 [.ptr pb 0] G fun r G' => TH pb G' [] rt sq ∧ ∃ s, r = ofS cKO s ∧ LL s = L.map Prod.fst := by
  have wc := waiting_c hP hl
  have h1L : 1 ≤ LIM := by simp [LIM]
  refine ACalls.hide fun post hpost => ?_
  refine F19_in (by simp) (by simp) fun hbd => ?_
  repeat' (first
    | refine awp_seqK fun K' hpK => ?_
    | refine awp_block ?_
    | refine awp_condG fun A' B' hpA hpB => ?_
    | refine useK (by with_reducible assumption) ?_
    | refine useP (by with_reducible assumption) ?_
    | refine ED_cons (fun _ => ?_) ?_
    | (refine stable_mk ?_; simp (disch := first | (with_reducible assumption) | (simp; done) | omega | (simp; omega)); done)
    | (refine stable_no ?_; simp (disch := first | (with_reducible assumption) | (simp; done) | omega | (simp; omega)); done)
    | (with_reducible refine And.intro ?_ ?_)
    | (with_reducible intro hc)
    | (with_reducible refine GDsplit (fun hc => ?_) (fun hc => ?_) <;> try simp [hc])
    | (with_reducible refine GDsplitN (fun hc => ?_) (fun hc => ?_) <;> try simp [hc])
    | (with_reducible refine GDsplitNB (fun hc => ?_) (fun hc => ?_) <;> try simp [hc])
    | (with_reducible refine GDsplitB (fun hc => ?_) (fun hc => ?_) <;> try simp [hc])
    | (with_reducible refine GKsplit (fun hc => ?_) (fun hc => ?_) <;> try simp [hc])
    | (with_reducible refine GKsplitN (fun hc => ?_) (fun hc => ?_) <;> try simp [hc])
    | (with_reducible refine GKsplitNB (fun hc => ?_) (fun hc => ?_) <;> try simp [hc])
    | (with_reducible refine GKsplitB (fun hc => ?_) (fun hc => ?_) <;> try simp [hc])
    | (refine CallK.use (wc) ?_; rintro r G' _ _ ⟨rfl, ks, rfl, hks⟩)
    | simp (disch := first | (with_reducible assumption) | (simp; done) | omega | (simp; omega)))
  have hkl : (LL ks).length = L.length := by rw [hks, List.length_map]
  rw [hkl]
  refine awp_loop' (fun w T G' => ∃ (j : Nat), j + w = L.length ∧ TH pb G' (L.drop j) rt sq ∧ T = ofL [(0, .ptr pb 0), (3, ofS cKO ks), (8, ofS cKO ks), (9, .int .i64 L.length), (10, .int .i64 j)]) L.length ⟨0, by omega, hP, by simp⟩ ?_
  rintro w T G' ⟨j, hj, hPj, rfl⟩ N hN
  by_cases hjl : j < L.length
  · have hjk : j < (LL ks).length := by omega
    obtain ⟨q, hq⟩ : ∃ q, q = L[j] := ⟨_, rfl⟩
    have hkq : (LL ks)[j] = q.1 := by rw [hq]; simp only [hks, List.getElem_map]
    have hdr : L.drop j = q :: L.drop (j + 1) := by rw [hq]; exact List.drop_eq_getElem_cons hjl
    rw [hdr] at hPj
    obtain ⟨sb, h, rfl, hpb, hs⟩ := hPj
    have hlm : (q :: L.drop (j + 1)).length ≤ 1000 := by rw [← hdr, List.length_drop]; omega
    have dc : ACalls Try.prog 29 [.ptr sb 0, .sl 1 [.int .u32 q.1]] h fun r h' => SHO sb h' (delL (q :: L.drop (j + 1)) q.1) 1024 ∧ r = .int .i64 (delsNO (q :: L.drop (j + 1)) [q.1]) := delO_c (s := some [q.1]) hs (by omega) (by simp [LL])
    rw [delL_head hs.2] at dc
    repeat' (first
      | refine awp_seqK fun K' hpK => ?_
      | refine awp_block ?_
      | refine awp_condG fun A' B' hpA hpB => ?_
      | refine useK (by with_reducible assumption) ?_
      | refine useP (by with_reducible assumption) ?_
      | refine ED_cons (fun _ => ?_) ?_
      | (refine stable_mk ?_; simp (disch := first | (with_reducible assumption) | (simp; done) | omega | (simp; omega)) [hjl, hjk, ofS_idx (f := cKO), cKO, hkq, PO, h1L]; done)
      | (refine stable_no ?_; simp (disch := first | (with_reducible assumption) | (simp; done) | omega | (simp; omega)) [hjl, hjk, ofS_idx (f := cKO), cKO, hkq, PO, h1L]; done)
      | (with_reducible refine And.intro ?_ ?_)
      | (with_reducible intro hc)
      | (with_reducible refine GDsplit (fun hc => ?_) (fun hc => ?_) <;> try simp [hc])
      | (with_reducible refine GDsplitN (fun hc => ?_) (fun hc => ?_) <;> try simp [hc])
      | (with_reducible refine GDsplitNB (fun hc => ?_) (fun hc => ?_) <;> try simp [hc])
      | (with_reducible refine GDsplitB (fun hc => ?_) (fun hc => ?_) <;> try simp [hc])
      | (with_reducible refine GKsplit (fun hc => ?_) (fun hc => ?_) <;> try simp [hc])
      | (with_reducible refine GKsplitN (fun hc => ?_) (fun hc => ?_) <;> try simp [hc])
      | (with_reducible refine GKsplitNB (fun hc => ?_) (fun hc => ?_) <;> try simp [hc])
      | (with_reducible refine GKsplitB (fun hc => ?_) (fun hc => ?_) <;> try simp [hc])
      | simp (disch := first | (with_reducible assumption) | (simp; done) | omega | (simp; omega)) [hjl, hjk, ofS_idx (f := cKO), cKO, hkq, PO, h1L])
    refine CallK.use (dc.frame1 (o := PO sb rt sq) hpb) ?_
    rintro r G3 _ _ ⟨h3, hpb3, rfl, hs3, rfl⟩
    repeat' (first
      | refine awp_seqK fun K' hpK => ?_
      | refine awp_block ?_
      | refine awp_condG fun A' B' hpA hpB => ?_
      | refine useK (by with_reducible assumption) ?_
      | refine useP (by with_reducible assumption) ?_
      | refine ED_cons (fun _ => ?_) ?_
      | (refine stable_mk ?_; simp (disch := first | (with_reducible assumption) | (simp; done) | omega | (simp; omega)); done)
      | (refine stable_no ?_; simp (disch := first | (with_reducible assumption) | (simp; done) | omega | (simp; omega)); done)
      | (with_reducible refine And.intro ?_ ?_)
      | (with_reducible intro hc)
      | (with_reducible refine GDsplit (fun hc => ?_) (fun hc => ?_) <;> try simp [hc])
      | (with_reducible refine GDsplitN (fun hc => ?_) (fun hc => ?_) <;> try simp [hc])
      | (with_reducible refine GDsplitNB (fun hc => ?_) (fun hc => ?_) <;> try simp [hc])
      | (with_reducible refine GDsplitB (fun hc => ?_) (fun hc => ?_) <;> try simp [hc])
      | (with_reducible refine GKsplit (fun hc => ?_) (fun hc => ?_) <;> try simp [hc])
      | (with_reducible refine GKsplitN (fun hc => ?_) (fun hc => ?_) <;> try simp [hc])
      | (with_reducible refine GKsplitNB (fun hc => ?_) (fun hc => ?_) <;> try simp [hc])
      | (with_reducible refine GKsplitB (fun hc => ?_) (fun hc => ?_) <;> try simp [hc])
      | simp (disch := first | (with_reducible assumption) | (simp; done) | omega | (simp; omega)))
    exact hN (w - 1) _ _ (by omega) ⟨j + 1, by omega, ⟨sb, h3, rfl, hpb3, hs3⟩, by simp⟩
  · rw [List.drop_eq_nil_of_le (by omega)] at hPj
    repeat' (first
      | refine awp_seqK fun K' hpK => ?_
      | refine awp_block ?_
      | refine awp_condG fun A' B' hpA hpB => ?_
      | refine useK (by with_reducible assumption) ?_
      | refine useP (by with_reducible assumption) ?_
      | refine ED_cons (fun _ => ?_) ?_
      | (refine stable_mk ?_; simp (disch := first | (with_reducible assumption) | (simp; done) | omega | (simp; omega)) [hjl]; done)
      | (refine stable_no ?_; simp (disch := first | (with_reducible assumption) | (simp; done) | omega | (simp; omega)) [hjl]; done)
      | (with_reducible refine And.intro ?_ ?_)
      | (with_reducible intro hc)
      | (with_reducible refine GDsplit (fun hc => ?_) (fun hc => ?_) <;> try simp [hc])
      | (with_reducible refine GDsplitN (fun hc => ?_) (fun hc => ?_) <;> try simp [hc])
      | (with_reducible refine GDsplitNB (fun hc => ?_) (fun hc => ?_) <;> try simp [hc])
      | (with_reducible refine GDsplitB (fun hc => ?_) (fun hc => ?_) <;> try simp [hc])
      | (with_reducible refine GKsplit (fun hc => ?_) (fun hc => ?_) <;> try simp [hc])
      | (with_reducible refine GKsplitN (fun hc => ?_) (fun hc => ?_) <;> try simp [hc])
      | (with_reducible refine GKsplitNB (fun hc => ?_) (fun hc => ?_) <;> try simp [hc])
      | (with_reducible refine GKsplitB (fun hc => ?_) (fun hc => ?_) <;> try simp [hc])
      | simp (disch := first | (with_reducible assumption) | (simp; done) | omega | (simp; omega)) [hjl])
    exact ends_one (by simp <;> rfl) (by simp) (hpost _ _ ⟨hPj, ks, rfl, hks⟩)
end Go.Proofs.Ytgideonigiokbaa
