import Derived.Test.YtgideonigiokbaaD5K
set_option linter.unusedSimpArgs false
set_option linter.unusedVariables false
namespace Go.Proofs.Ytgideonigiokbaa
open Go Go.Al
set_option maxRecDepth 20000
attribute [local irreducible] awp aops aopsD eop pv ACalls CallK AppK AEnds ti

theorem setL_mid {A B : List (Int × On)} {k : Int} {v v' : On} (h : Srt (A ++ (k, v) :: B)) : setL (A ++ (k, v) :: B) k v' = A ++ (k, v') :: B := by
  induction A with
  | nil =>
    show setL ((k, v) :: B) k v' = (k, v') :: B
    unfold setL
    rw [if_neg (by rw [KO_int]; simp), if_pos rfl]
  | cons p r ih =>
    have hS := Srt.cons.1 (show Srt (p :: (r ++ (k, v) :: B)) from h)
    have h1 := hS.1 (k, v) (by simp)
    show setL (p :: (r ++ (k, v) :: B)) k v' = p :: (r ++ (k, v') :: B)
    unfold setL
    rw [if_pos h1, ih hS.2]
def dueO (now rt : Int) (v : On) : Bool := !(v.said && decide (IntKind.i64.wrap (now - v.when) < rt))
def sayO (now : Int) (v : On) : On := { v with said := true, when := now }
def updN (now rt : Int) (q : Int × On) : Int × On := if dueO now rt q.2 then (q.1, sayO now q.2) else q
/-- the hop that is now is there -/
def okAt (v : On) : Prop := 0 ≤ v.at_ ∧ v.at_ < (LL v.path).length ∧ (LL v.path).length ≤ 1000
def nowM (v : On) : Ms := v.msg v.at_.toNat
theorem waiting_c {pb : Nat} {G : Hp} {L : List (Int × On)} {rt sq : Int} (hP : TH pb G L rt sq) (hl : L.length ≤ 1000) : ACalls Try.prog 11 [.ptr pb 0] G fun r G' => G' = G ∧ ∃ s, r = ofS cKO s ∧ LL s = L.map Prod.fst := by
  obtain ⟨sb, h, rfl, hpb, hs⟩ := hP
  refine ACalls.hide fun post hpost => ?_
  refine F11_in (by simp) (by simp) fun hbd => ?_
  repeat' (first
    | refine awp_seqK fun K' hpK => ?_
    | refine awp_block ?_
    | refine awp_condG fun A' B' hpA hpB => ?_
    | refine useK (by with_reducible assumption) ?_
    | refine useP (by with_reducible assumption) ?_
    | refine ED_cons (fun _ => ?_) ?_
    | (refine stable_mk ?_; simp (disch := first | (with_reducible assumption) | (simp; done) | omega | (simp; omega)) [PO]; done)
    | (refine stable_no ?_; simp (disch := first | (with_reducible assumption) | (simp; done) | omega | (simp; omega)) [PO]; done)
    | (with_reducible refine And.intro ?_ ?_)
    | (with_reducible intro hc)
    | (with_reducible refine GDsplit (fun hc => ?_) (fun hc => ?_) <;> try simp [hc])
    | (with_reducible refine GDsplitN (fun hc => ?_) (fun hc => ?_) <;> try simp [hc])
    | (with_reducible refine GDsplitNB (fun hc => ?_) (fun hc => ?_) <;> try simp [hc])
    | (with_reducible refine GDsplitB (fun hc => ?_) (fun hc => ?_) <;> try simp [hc])
    | (with_reducible refine GKsplit (fun hc => ?_) (fun hc => ?_) <;> try simp [hc])
    | (with_reducible refine GKsplitN (fun hc => ?_) (fun hc => ?_) <;> try simp [hc])
    | (with_reducible refine GKsplitNB (fun hc => ?_) (fun hc => ?_) <;> try simp [hc])
    | (with_reducible refine GKsplitB (fun hc => ?_) (fun hc => ?_) <;> try simp [hc])
    | (refine CallK.use ((keysO_c hs (by omega)).frame1 (o := PO sb rt sq) hpb) ?_; rintro r G' _ _ ⟨h', _, rfl, rfl, s, rfl, hss⟩)
    | simp (disch := first | (with_reducible assumption) | (simp; done) | omega | (simp; omega)) [PO])
  exact ends_one (by simp <;> rfl) (by simp) (hpost _ _ ⟨rfl, s, rfl, hss⟩)
theorem nowM_c {v : On} {G : Hp} (hv : okAt v) : ACalls Try.prog 28 [v.av, .int .i64 v.at_] G fun r G' => G' = G ∧ r = (nowM v).av := by
  obtain ⟨k, hk⟩ : ∃ k : Nat, v.at_ = (k : Int) := ⟨v.at_.toNat, by have := hv.1; omega⟩
  have h2 := hv.2.1
  have := msg_c (v := v) (k := k) (G := G) (by omega) hv.2.2
  unfold nowM
  rw [hk]; exact this
set_option maxHeartbeats 8000000 in
theorem next_c {pb : Nat} {G : Hp} {L : List (Int × On)} {rt sq now : Int} (hP : TH pb G L rt sq) (hl : L.length ≤ 1000) (hok : ∀ q ∈ L, okAt q.2) : ACalls Try.prog 13 [.ptr pb 0, .int .i64 now] G fun r G' => TH pb G' (L.map (updN now rt)) rt sq ∧ ∃ s, r = ofS cMs s ∧ LL s = (L.filter fun q => dueO now rt q.2).map fun q => nowM q.2 := by
  obtain ⟨sb, h, rfl, hpb, hs⟩ := hP
  refine ACalls.hide fun post hpost => ?_
  refine F13_in (by simp) (by simp) fun hbd => ?_
  repeat' (first
    | refine awp_seqK fun K' hpK => ?_
    | refine awp_block ?_
    | refine awp_condG fun A' B' hpA hpB => ?_
    | refine useK (by with_reducible assumption) ?_
    | refine useP (by with_reducible assumption) ?_
    | refine ED_cons (fun _ => ?_) ?_
    | (refine stable_mk ?_; simp (disch := first | (with_reducible assumption) | (simp; done) | omega | (simp; omega)) [PO]; done)
    | (refine stable_no ?_; simp (disch := first | (with_reducible assumption) | (simp; done) | omega | (simp; omega)) [PO]; done)
    | (with_reducible refine And.intro ?_ ?_)
    | (with_reducible intro hc)
    | (with_reducible refine GDsplit (fun hc => ?_) (fun hc => ?_) <;> try simp [hc])
    | (with_reducible refine GDsplitN (fun hc => ?_) (fun hc => ?_) <;> try simp [hc])
    | (with_reducible refine GDsplitNB (fun hc => ?_) (fun hc => ?_) <;> try simp [hc])
    | (with_reducible refine GDsplitB (fun hc => ?_) (fun hc => ?_) <;> try simp [hc])
    | (with_reducible refine GKsplit (fun hc => ?_) (fun hc => ?_) <;> try simp [hc])
    | (with_reducible refine GKsplitN (fun hc => ?_) (fun hc => ?_) <;> try simp [hc])
    | (with_reducible refine GKsplitNB (fun hc => ?_) (fun hc => ?_) <;> try simp [hc])
    | (with_reducible refine GKsplitB (fun hc => ?_) (fun hc => ?_) <;> try simp [hc])
    | (refine CallK.use ((keysO_c hs (by omega)).frame1 (o := PO sb rt sq) hpb) ?_; rintro r G' _ _ ⟨h', hpb', rfl, rfl, ks, rfl, hks⟩)
    | simp (disch := first | (with_reducible assumption) | (simp; done) | omega | (simp; omega)) [PO])
  have hkl : (LL ks).length = L.length := by rw [hks, List.length_map]
  rw [hkl]
  refine awp_loop' (fun w T G' => ∃ (j : Nat) (out : AV) (hh : Hp), j + w = L.length ∧ hh pb = none ∧ SHO sb hh ((L.take j).map (updN now rt) ++ L.drop j) 1024 ∧ Grow cMs 23 (setH hh pb (some (PO sb rt sq))) G' out (((L.take j).filter fun q => dueO now rt q.2).map fun q => nowM q.2) ∧ T = ofL [(0, .ptr pb 0), (1, .int .i64 now), (5, out), (16, ofS cKO ks), (17, .int .i64 L.length), (18, .int .i64 j)]) L.length ⟨0, .nils, _, by omega, hpb', by simpa using hs, Grow.nil _ _, by simp⟩ ?_
  rintro w T G' ⟨j, out, hh, hj, hpb1, hs1, hg, rfl⟩ N hN
  have hov := hg.plain
  by_cases hjl : j < L.length
  · have hjk : j < (LL ks).length := by omega
    obtain ⟨q, hq⟩ : ∃ q, q = L[j] := ⟨_, rfl⟩
    have hkq : (LL ks)[j] = q.1 := by rw [hq]; simp only [hks, List.getElem_map]
    have hoq := hok q (by rw [hq]; exact List.getElem_mem _)
    have hdr : L.drop j = q :: L.drop (j + 1) := by rw [hq]; exact List.drop_eq_getElem_cons hjl
    have htk := take_succ_get L j hjl
    rw [← hq] at htk
    rw [hdr] at hs1
    have hgq : getL ((L.take j).map (updN now rt) ++ q :: L.drop (j + 1)) q.1 = some q.2 := mem_getL hs1.2 (by simp)
    have hlm : ((L.take j).map (updN now rt) ++ q :: L.drop (j + 1)).length = L.length := by simp; omega
    have gc := getO_c (k := q.1) hs1 (by rw [hlm]; omega)
    rw [hgq] at gc
    simp only [Option.getD_some, Option.isSome_some] at gc
    have hbase := hg.base (setH_same hh pb (some (PO sb rt sq)))
    simp only [PO] at hbase
    repeat' (first
      | refine awp_seqK fun K' hpK => ?_
      | refine awp_block ?_
      | refine awp_condG fun A' B' hpA hpB => ?_
      | refine useK (by with_reducible assumption) ?_
      | refine useP (by with_reducible assumption) ?_
      | refine ED_cons (fun _ => ?_) ?_
      | (refine stable_mk ?_; simp (disch := first | (with_reducible assumption) | (simp; done) | omega | (simp; omega)) [hjl, hjk, ofS_idx (f := cKO), cKO, hkq, hbase, hov]; done)
      | (refine stable_no ?_; simp (disch := first | (with_reducible assumption) | (simp; done) | omega | (simp; omega)) [hjl, hjk, ofS_idx (f := cKO), cKO, hkq, hbase, hov]; done)
      | (with_reducible refine And.intro ?_ ?_)
      | (with_reducible intro hc)
      | (with_reducible refine GDsplit (fun hc => ?_) (fun hc => ?_) <;> try simp [hc])
      | (with_reducible refine GDsplitN (fun hc => ?_) (fun hc => ?_) <;> try simp [hc])
      | (with_reducible refine GDsplitNB (fun hc => ?_) (fun hc => ?_) <;> try simp [hc])
      | (with_reducible refine GDsplitB (fun hc => ?_) (fun hc => ?_) <;> try simp [hc])
      | (with_reducible refine GKsplit (fun hc => ?_) (fun hc => ?_) <;> try simp [hc])
      | (with_reducible refine GKsplitN (fun hc => ?_) (fun hc => ?_) <;> try simp [hc])
      | (with_reducible refine GKsplitNB (fun hc => ?_) (fun hc => ?_) <;> try simp [hc])
      | (with_reducible refine GKsplitB (fun hc => ?_) (fun hc => ?_) <;> try simp [hc])
      | simp (disch := first | (with_reducible assumption) | (simp; done) | omega | (simp; omega)) [hjl, hjk, ofS_idx (f := cKO), cKO, hkq, hbase, hov])
    refine CallK.grow hg (gc.frame1 (o := PO sb rt sq) hpb1) ?_
    rintro r H2 G2 hg2 _ _ ⟨h2, _, rfl, rfl, rfl⟩
    have hbase2 := hg2.base (setH_same h2 pb (some (PO sb rt sq)))
    simp only [PO] at hbase2
    have hlf : (((L.take j).filter fun q => dueO now rt q.2).map fun q => nowM q.2).length ≤ 1000 := by
      rw [List.length_map]; exact Nat.le_trans (List.length_filter_le _ _) (by rw [List.length_take]; omega)
    cases hsd : q.2.said with
    | false =>
      have hdue : dueO now rt q.2 = true := by unfold dueO; simp [hsd]
      have e1 : (L.take (j + 1)).filter (fun q => dueO now rt q.2) = (L.take j).filter (fun q => dueO now rt q.2) ++ [q] := by rw [htk, List.filter_append]; simp [hdue]
      have e2 : (L.take (j + 1)).map (updN now rt) = (L.take j).map (updN now rt) ++ [(q.1, sayO now q.2)] := by rw [htk, List.map_append]; simp [updN, hdue]
      repeat' (first
        | refine awp_seqK fun K' hpK => ?_
        | refine awp_block ?_
        | refine awp_condG fun A' B' hpA hpB => ?_
        | refine useK (by with_reducible assumption) ?_
        | refine useP (by with_reducible assumption) ?_
        | refine ED_cons (fun _ => ?_) ?_
        | (refine stable_mk ?_; simp (disch := first | (with_reducible assumption) | (simp; done) | omega | (simp; omega)) [hsd, hbase2, hov]; done)
        | (refine stable_no ?_; simp (disch := first | (with_reducible assumption) | (simp; done) | omega | (simp; omega)) [hsd, hbase2, hov]; done)
        | (with_reducible refine And.intro ?_ ?_)
        | (with_reducible intro hc)
        | (with_reducible refine GDsplit (fun hc => ?_) (fun hc => ?_) <;> try simp [hc])
        | (with_reducible refine GDsplitN (fun hc => ?_) (fun hc => ?_) <;> try simp [hc])
        | (with_reducible refine GDsplitNB (fun hc => ?_) (fun hc => ?_) <;> try simp [hc])
        | (with_reducible refine GDsplitB (fun hc => ?_) (fun hc => ?_) <;> try simp [hc])
        | (with_reducible refine GKsplit (fun hc => ?_) (fun hc => ?_) <;> try simp [hc])
        | (with_reducible refine GKsplitN (fun hc => ?_) (fun hc => ?_) <;> try simp [hc])
        | (with_reducible refine GKsplitNB (fun hc => ?_) (fun hc => ?_) <;> try simp [hc])
        | (with_reducible refine GKsplitB (fun hc => ?_) (fun hc => ?_) <;> try simp [hc])
        | simp (disch := first | (with_reducible assumption) | (simp; done) | omega | (simp; omega)) [hsd, hbase2, hov])
      have hroom : setRO ((L.take j).map (updN now rt) ++ q :: L.drop (j + 1)) 1024 q.1 = true := by unfold setRO; rw [hasL_get, hgq]; rfl
      have sc := setO_E (k := q.1) (v := sayO now q.2) hs1 (by rw [hlm]; omega) (if_pos hroom) (if_pos hroom)
      rw [setL_mid hs1.2] at sc
      simp only [sayO] at sc
      refine CallK.grow hg2 (sc.frame1 (o := PO sb rt sq) hpb1) ?_
      rintro r H3 G3 hg3 _ _ ⟨h3, hpb3, rfl, hs3, rfl⟩
      have mc := fun G => nowM_c (v := sayO now q.2) (G := G) hoq
      simp only [On.av, Ms.av, sayO] at mc
      repeat' (first
        | refine awp_seqK fun K' hpK => ?_
        | refine awp_block ?_
        | refine awp_condG fun A' B' hpA hpB => ?_
        | refine useK (by with_reducible assumption) ?_
        | refine useP (by with_reducible assumption) ?_
        | refine ED_cons (fun _ => ?_) ?_
        | (refine stable_mk ?_; simp (disch := first | (with_reducible assumption) | (simp; done) | omega | (simp; omega)) [hov]; done)
        | (refine stable_no ?_; simp (disch := first | (with_reducible assumption) | (simp; done) | omega | (simp; omega)) [hov]; done)
        | (with_reducible refine And.intro ?_ ?_)
        | (with_reducible intro hc)
        | (with_reducible refine GDsplit (fun hc => ?_) (fun hc => ?_) <;> try simp [hc])
        | (with_reducible refine GDsplitN (fun hc => ?_) (fun hc => ?_) <;> try simp [hc])
        | (with_reducible refine GDsplitNB (fun hc => ?_) (fun hc => ?_) <;> try simp [hc])
        | (with_reducible refine GDsplitB (fun hc => ?_) (fun hc => ?_) <;> try simp [hc])
        | (with_reducible refine GKsplit (fun hc => ?_) (fun hc => ?_) <;> try simp [hc])
        | (with_reducible refine GKsplitN (fun hc => ?_) (fun hc => ?_) <;> try simp [hc])
        | (with_reducible refine GKsplitNB (fun hc => ?_) (fun hc => ?_) <;> try simp [hc])
        | (with_reducible refine GKsplitB (fun hc => ?_) (fun hc => ?_) <;> try simp [hc])
        | (refine CallK.use (mc _) ?_; rintro r G' _ _ ⟨rfl, rfl⟩)
        | simp (disch := first | (with_reducible assumption) | (simp; done) | omega | (simp; omega)) [hov])
      refine hg3.app1 (x := nowM q.2) rfl (by simp [cMs]) (by simp [LIM]; simp at hlf; omega) (fun v2 G4 hg4 => ?_)
      have hv2 := hg4.plain
      repeat' (first
        | refine awp_seqK fun K' hpK => ?_
        | refine awp_block ?_
        | refine awp_condG fun A' B' hpA hpB => ?_
        | refine useK (by with_reducible assumption) ?_
        | refine useP (by with_reducible assumption) ?_
        | refine ED_cons (fun _ => ?_) ?_
        | (refine stable_mk ?_; simp (disch := first | (with_reducible assumption) | (simp; done) | omega | (simp; omega)) [hv2]; done)
        | (refine stable_no ?_; simp (disch := first | (with_reducible assumption) | (simp; done) | omega | (simp; omega)) [hv2]; done)
        | (with_reducible refine And.intro ?_ ?_)
        | (with_reducible intro hc)
        | (with_reducible refine GDsplit (fun hc => ?_) (fun hc => ?_) <;> try simp [hc])
        | (with_reducible refine GDsplitN (fun hc => ?_) (fun hc => ?_) <;> try simp [hc])
        | (with_reducible refine GDsplitNB (fun hc => ?_) (fun hc => ?_) <;> try simp [hc])
        | (with_reducible refine GDsplitB (fun hc => ?_) (fun hc => ?_) <;> try simp [hc])
        | (with_reducible refine GKsplit (fun hc => ?_) (fun hc => ?_) <;> try simp [hc])
        | (with_reducible refine GKsplitN (fun hc => ?_) (fun hc => ?_) <;> try simp [hc])
        | (with_reducible refine GKsplitNB (fun hc => ?_) (fun hc => ?_) <;> try simp [hc])
        | (with_reducible refine GKsplitB (fun hc => ?_) (fun hc => ?_) <;> try simp [hc])
        | simp (disch := first | (with_reducible assumption) | (simp; done) | omega | (simp; omega)) [hv2])
      refine hN (w - 1) _ _ (by omega) ⟨j + 1, v2, h3, by omega, hpb3, ?_, ?_, by simp⟩
      · rw [e2, List.append_assoc]; exact hs3
      · rw [e1, List.map_append]; exact hg4
    | true =>
      by_cases hlt : IntKind.i64.wrap (now - q.2.when) < rt
      · have hdue : dueO now rt q.2 = false := by unfold dueO; simp [hsd, hlt]
        have e1 : (L.take (j + 1)).filter (fun q => dueO now rt q.2) = (L.take j).filter (fun q => dueO now rt q.2) := by rw [htk, List.filter_append]; simp [hdue]
        have e2 : (L.take (j + 1)).map (updN now rt) = (L.take j).map (updN now rt) ++ [q] := by rw [htk, List.map_append]; simp [updN, hdue]
        repeat' (first
          | refine awp_seqK fun K' hpK => ?_
          | refine awp_block ?_
          | refine awp_condG fun A' B' hpA hpB => ?_
          | refine useK (by with_reducible assumption) ?_
          | refine useP (by with_reducible assumption) ?_
          | refine ED_cons (fun _ => ?_) ?_
          | (refine stable_mk ?_; simp (disch := first | (with_reducible assumption) | (simp; done) | omega | (simp; omega)) [hsd, hlt, hbase2, hov]; done)
          | (refine stable_no ?_; simp (disch := first | (with_reducible assumption) | (simp; done) | omega | (simp; omega)) [hsd, hlt, hbase2, hov]; done)
          | (with_reducible refine And.intro ?_ ?_)
          | (with_reducible intro hc)
          | (with_reducible refine GDsplit (fun hc => ?_) (fun hc => ?_) <;> try simp [hc])
          | (with_reducible refine GDsplitN (fun hc => ?_) (fun hc => ?_) <;> try simp [hc])
          | (with_reducible refine GDsplitNB (fun hc => ?_) (fun hc => ?_) <;> try simp [hc])
          | (with_reducible refine GDsplitB (fun hc => ?_) (fun hc => ?_) <;> try simp [hc])
          | (with_reducible refine GKsplit (fun hc => ?_) (fun hc => ?_) <;> try simp [hc])
          | (with_reducible refine GKsplitN (fun hc => ?_) (fun hc => ?_) <;> try simp [hc])
          | (with_reducible refine GKsplitNB (fun hc => ?_) (fun hc => ?_) <;> try simp [hc])
          | (with_reducible refine GKsplitB (fun hc => ?_) (fun hc => ?_) <;> try simp [hc])
          | simp (disch := first | (with_reducible assumption) | (simp; done) | omega | (simp; omega)) [hsd, hlt, hbase2, hov])
        refine hN (w - 1) _ _ (by omega) ⟨j + 1, out, h2, by omega, hpb1, ?_, ?_, by simp⟩
        · rw [e2, List.append_assoc]; exact hs1
        · rw [e1]; exact hg2
      · have hdue : dueO now rt q.2 = true := by unfold dueO; simp [hsd, hlt]
        have e1 : (L.take (j + 1)).filter (fun q => dueO now rt q.2) = (L.take j).filter (fun q => dueO now rt q.2) ++ [q] := by rw [htk, List.filter_append]; simp [hdue]
        have e2 : (L.take (j + 1)).map (updN now rt) = (L.take j).map (updN now rt) ++ [(q.1, sayO now q.2)] := by rw [htk, List.map_append]; simp [updN, hdue]
        repeat' (first
          | refine awp_seqK fun K' hpK => ?_
          | refine awp_block ?_
          | refine awp_condG fun A' B' hpA hpB => ?_
          | refine useK (by with_reducible assumption) ?_
          | refine useP (by with_reducible assumption) ?_
          | refine ED_cons (fun _ => ?_) ?_
          | (refine stable_mk ?_; simp (disch := first | (with_reducible assumption) | (simp; done) | omega | (simp; omega)) [hsd, hlt, hbase2, hov]; done)
          | (refine stable_no ?_; simp (disch := first | (with_reducible assumption) | (simp; done) | omega | (simp; omega)) [hsd, hlt, hbase2, hov]; done)
          | (with_reducible refine And.intro ?_ ?_)
          | (with_reducible intro hc)
          | (with_reducible refine GDsplit (fun hc => ?_) (fun hc => ?_) <;> try simp [hc])
          | (with_reducible refine GDsplitN (fun hc => ?_) (fun hc => ?_) <;> try simp [hc])
          | (with_reducible refine GDsplitNB (fun hc => ?_) (fun hc => ?_) <;> try simp [hc])
          | (with_reducible refine GDsplitB (fun hc => ?_) (fun hc => ?_) <;> try simp [hc])
          | (with_reducible refine GKsplit (fun hc => ?_) (fun hc => ?_) <;> try simp [hc])
          | (with_reducible refine GKsplitN (fun hc => ?_) (fun hc => ?_) <;> try simp [hc])
          | (with_reducible refine GKsplitNB (fun hc => ?_) (fun hc => ?_) <;> try simp [hc])
          | (with_reducible refine GKsplitB (fun hc => ?_) (fun hc => ?_) <;> try simp [hc])
          | simp (disch := first | (with_reducible assumption) | (simp; done) | omega | (simp; omega)) [hsd, hlt, hbase2, hov])
        have hroom : setRO ((L.take j).map (updN now rt) ++ q :: L.drop (j + 1)) 1024 q.1 = true := by unfold setRO; rw [hasL_get, hgq]; rfl
        have sc := setO_E (k := q.1) (v := sayO now q.2) hs1 (by rw [hlm]; omega) (if_pos hroom) (if_pos hroom)
        rw [setL_mid hs1.2] at sc
        simp only [sayO] at sc
        refine CallK.grow hg2 (sc.frame1 (o := PO sb rt sq) hpb1) ?_
        rintro r H3 G3 hg3 _ _ ⟨h3, hpb3, rfl, hs3, rfl⟩
        have mc := fun G => nowM_c (v := sayO now q.2) (G := G) hoq
        simp only [On.av, Ms.av, sayO] at mc
        repeat' (first
          | refine awp_seqK fun K' hpK => ?_
          | refine awp_block ?_
          | refine awp_condG fun A' B' hpA hpB => ?_
          | refine useK (by with_reducible assumption) ?_
          | refine useP (by with_reducible assumption) ?_
          | refine ED_cons (fun _ => ?_) ?_
          | (refine stable_mk ?_; simp (disch := first | (with_reducible assumption) | (simp; done) | omega | (simp; omega)) [hov]; done)
          | (refine stable_no ?_; simp (disch := first | (with_reducible assumption) | (simp; done) | omega | (simp; omega)) [hov]; done)
          | (with_reducible refine And.intro ?_ ?_)
          | (with_reducible intro hc)
          | (with_reducible refine GDsplit (fun hc => ?_) (fun hc => ?_) <;> try simp [hc])
          | (with_reducible refine GDsplitN (fun hc => ?_) (fun hc => ?_) <;> try simp [hc])
          | (with_reducible refine GDsplitNB (fun hc => ?_) (fun hc => ?_) <;> try simp [hc])
          | (with_reducible refine GDsplitB (fun hc => ?_) (fun hc => ?_) <;> try simp [hc])
          | (with_reducible refine GKsplit (fun hc => ?_) (fun hc => ?_) <;> try simp [hc])
          | (with_reducible refine GKsplitN (fun hc => ?_) (fun hc => ?_) <;> try simp [hc])
          | (with_reducible refine GKsplitNB (fun hc => ?_) (fun hc => ?_) <;> try simp [hc])
          | (with_reducible refine GKsplitB (fun hc => ?_) (fun hc => ?_) <;> try simp [hc])
          | (refine CallK.use (mc _) ?_; rintro r G' _ _ ⟨rfl, rfl⟩)
          | simp (disch := first | (with_reducible assumption) | (simp; done) | omega | (simp; omega)) [hov])
        refine hg3.app1 (x := nowM q.2) rfl (by simp [cMs]) (by simp [LIM]; simp at hlf; omega) (fun v2 G4 hg4 => ?_)
        have hv2 := hg4.plain
        repeat' (first
          | refine awp_seqK fun K' hpK => ?_
          | refine awp_block ?_
          | refine awp_condG fun A' B' hpA hpB => ?_
          | refine useK (by with_reducible assumption) ?_
          | refine useP (by with_reducible assumption) ?_
          | refine ED_cons (fun _ => ?_) ?_
          | (refine stable_mk ?_; simp (disch := first | (with_reducible assumption) | (simp; done) | omega | (simp; omega)) [hv2]; done)
          | (refine stable_no ?_; simp (disch := first | (with_reducible assumption) | (simp; done) | omega | (simp; omega)) [hv2]; done)
          | (with_reducible refine And.intro ?_ ?_)
          | (with_reducible intro hc)
          | (with_reducible refine GDsplit (fun hc => ?_) (fun hc => ?_) <;> try simp [hc])
          | (with_reducible refine GDsplitN (fun hc => ?_) (fun hc => ?_) <;> try simp [hc])
          | (with_reducible refine GDsplitNB (fun hc => ?_) (fun hc => ?_) <;> try simp [hc])
          | (with_reducible refine GDsplitB (fun hc => ?_) (fun hc => ?_) <;> try simp [hc])
          | (with_reducible refine GKsplit (fun hc => ?_) (fun hc => ?_) <;> try simp [hc])
          | (with_reducible refine GKsplitN (fun hc => ?_) (fun hc => ?_) <;> try simp [hc])
          | (with_reducible refine GKsplitNB (fun hc => ?_) (fun hc => ?_) <;> try simp [hc])
          | (with_reducible refine GKsplitB (fun hc => ?_) (fun hc => ?_) <;> try simp [hc])
          | simp (disch := first | (with_reducible assumption) | (simp; done) | omega | (simp; omega)) [hv2])
        refine hN (w - 1) _ _ (by omega) ⟨j + 1, v2, h3, by omega, hpb3, ?_, ?_, by simp⟩
        · rw [e2, List.append_assoc]; exact hs3
        · rw [e1, List.map_append]; exact hg4
  · rw [List.take_of_length_le (by omega), List.drop_eq_nil_of_le (by omega), List.append_nil] at hs1
    rw [List.take_of_length_le (by omega)] at hg
    repeat' (first
      | refine awp_seqK fun K' hpK => ?_
      | refine awp_block ?_
      | refine awp_condG fun A' B' hpA hpB => ?_
      | refine useK (by with_reducible assumption) ?_
      | refine useP (by with_reducible assumption) ?_
      | refine ED_cons (fun _ => ?_) ?_
      | (refine stable_mk ?_; simp (disch := first | (with_reducible assumption) | (simp; done) | omega | (simp; omega)) [hjl, hov]; done)
      | (refine stable_no ?_; simp (disch := first | (with_reducible assumption) | (simp; done) | omega | (simp; omega)) [hjl, hov]; done)
      | (with_reducible refine And.intro ?_ ?_)
      | (with_reducible intro hc)
      | (with_reducible refine GDsplit (fun hc => ?_) (fun hc => ?_) <;> try simp [hc])
      | (with_reducible refine GDsplitN (fun hc => ?_) (fun hc => ?_) <;> try simp [hc])
      | (with_reducible refine GDsplitNB (fun hc => ?_) (fun hc => ?_) <;> try simp [hc])
      | (with_reducible refine GDsplitB (fun hc => ?_) (fun hc => ?_) <;> try simp [hc])
      | (with_reducible refine GKsplit (fun hc => ?_) (fun hc => ?_) <;> try simp [hc])
      | (with_reducible refine GKsplitN (fun hc => ?_) (fun hc => ?_) <;> try simp [hc])
      | (with_reducible refine GKsplitNB (fun hc => ?_) (fun hc => ?_) <;> try simp [hc])
      | (with_reducible refine GKsplitB (fun hc => ?_) (fun hc => ?_) <;> try simp [hc])
      | simp (disch := first | (with_reducible assumption) | (simp; done) | omega | (simp; omega)) [hjl, hov])
    obtain ⟨s, hs2, hz, hsub⟩ := hg.frz (by simp)
    exact ends_fr1 (by simp <;> rfl) hov hsub hz (hpost _ _ ⟨⟨sb, hh, rfl, hpb1, hs1⟩, s, rfl, hs2⟩)
end Go.Proofs.Ytgideonigiokbaa
