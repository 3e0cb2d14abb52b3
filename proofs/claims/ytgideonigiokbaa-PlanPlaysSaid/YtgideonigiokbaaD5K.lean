import Derived.Test.YtgideonigiokbaaD4K
set_option linter.unusedSimpArgs false
set_option linter.unusedVariables false
namespace Go.Proofs.Ytgideonigiokbaa
open Go Go.Al
set_option maxRecDepth 20000
attribute [local irreducible] awp aops aopsD eop pv ACalls CallK AppK AEnds ti

@[simp] theorem cHo_scal (h : Ho) : (cHo h).all AV.scal = true := by simp [cHo]
theorem clone_c {s : Option (List Ho)} {G : Hp} (hl : (LL s).length ≤ 1000) : ACalls Try.prog 21 [ofS cHo s] G fun r G' => G' = G ∧ ∃ s', r = ofS cHo s' ∧ LL s' = LL s := by
  cases s with
  | none =>
    show ACalls Try.prog 21 [.nils] G _
    refine ACalls.hide fun post hpost => ?_
    refine F21_in (by simp) (by simp) fun hbd => ?_
    repeat' (first
      | refine awp_seqK fun K' hpK => ?_
      | refine awp_block ?_
      | refine awp_condG fun A' B' hpA hpB => ?_
      | refine useK (by with_reducible assumption) ?_
      | refine useP (by with_reducible assumption) ?_
      | refine ED_cons (fun _ => ?_) ?_
      | (refine stable_mk ?_; simp (disch := first | (with_reducible assumption) | (simp; done) | omega | (simp; omega)); done)
      | (refine stable_no ?_; simp (disch := first | (with_reducible assumption) | (simp; done) | omega | (simp; omega)); done)
      | (with_reducible refine And.intro ?_ ?_)
      | (with_reducible intro hc)
      | (with_reducible refine GDsplit (fun hc => ?_) (fun hc => ?_) <;> try simp [hc])
      | (with_reducible refine GDsplitN (fun hc => ?_) (fun hc => ?_) <;> try simp [hc])
      | (with_reducible refine GDsplitNB (fun hc => ?_) (fun hc => ?_) <;> try simp [hc])
      | (with_reducible refine GDsplitB (fun hc => ?_) (fun hc => ?_) <;> try simp [hc])
      | (with_reducible refine GKsplit (fun hc => ?_) (fun hc => ?_) <;> try simp [hc])
      | (with_reducible refine GKsplitN (fun hc => ?_) (fun hc => ?_) <;> try simp [hc])
      | (with_reducible refine GKsplitNB (fun hc => ?_) (fun hc => ?_) <;> try simp [hc])
      | (with_reducible refine GKsplitB (fun hc => ?_) (fun hc => ?_) <;> try simp [hc])
      | simp (disch := first | (with_reducible assumption) | (simp; done) | omega | (simp; omega)))
    exact ends_one (by simp <;> rfl) (by simp) (hpost _ _ ⟨rfl, none, rfl, rfl⟩)
  | some l =>
    have hll : l.length ≤ 1000 := hl
    show ACalls Try.prog 21 [.sl l.length (l.flatMap cHo)] G _
    refine ACalls.hide fun post hpost => ?_
    refine F21_in (by simp) (by simp) fun hbd => ?_
    repeat' (first
      | refine awp_seqK fun K' hpK => ?_
      | refine awp_block ?_
      | refine awp_condG fun A' B' hpA hpB => ?_
      | refine useK (by with_reducible assumption) ?_
      | refine useP (by with_reducible assumption) ?_
      | refine ED_cons (fun _ => ?_) ?_
      | (refine stable_mk ?_; simp (disch := first | (with_reducible assumption) | (simp; done) | omega | (simp; omega)); done)
      | (refine stable_no ?_; simp (disch := first | (with_reducible assumption) | (simp; done) | omega | (simp; omega)); done)
      | (with_reducible refine And.intro ?_ ?_)
      | (with_reducible intro hc)
      | (with_reducible refine GDsplit (fun hc => ?_) (fun hc => ?_) <;> try simp [hc])
      | (with_reducible refine GDsplitN (fun hc => ?_) (fun hc => ?_) <;> try simp [hc])
      | (with_reducible refine GDsplitNB (fun hc => ?_) (fun hc => ?_) <;> try simp [hc])
      | (with_reducible refine GDsplitB (fun hc => ?_) (fun hc => ?_) <;> try simp [hc])
      | (with_reducible refine GKsplit (fun hc => ?_) (fun hc => ?_) <;> try simp [hc])
      | (with_reducible refine GKsplitN (fun hc => ?_) (fun hc => ?_) <;> try simp [hc])
      | (with_reducible refine GKsplitNB (fun hc => ?_) (fun hc => ?_) <;> try simp [hc])
      | (with_reducible refine GKsplitB (fun hc => ?_) (fun hc => ?_) <;> try simp [hc])
      | simp (disch := first | (with_reducible assumption) | (simp; done) | omega | (simp; omega)))
    intro c hc
    refine ⟨0, ?_⟩
    repeat' (first
      | refine awp_seqK fun K' hpK => ?_
      | refine awp_block ?_
      | refine awp_condG fun A' B' hpA hpB => ?_
      | refine useK (by with_reducible assumption) ?_
      | refine useP (by with_reducible assumption) ?_
      | refine ED_cons (fun _ => ?_) ?_
      | (refine stable_mk ?_; simp (disch := first | (with_reducible assumption) | (simp; done) | omega | (simp; omega)); done)
      | (refine stable_no ?_; simp (disch := first | (with_reducible assumption) | (simp; done) | omega | (simp; omega)); done)
      | (with_reducible refine And.intro ?_ ?_)
      | (with_reducible intro hc)
      | (with_reducible refine GDsplit (fun hc => ?_) (fun hc => ?_) <;> try simp [hc])
      | (with_reducible refine GDsplitN (fun hc => ?_) (fun hc => ?_) <;> try simp [hc])
      | (with_reducible refine GDsplitNB (fun hc => ?_) (fun hc => ?_) <;> try simp [hc])
      | (with_reducible refine GDsplitB (fun hc => ?_) (fun hc => ?_) <;> try simp [hc])
      | (with_reducible refine GKsplit (fun hc => ?_) (fun hc => ?_) <;> try simp [hc])
      | (with_reducible refine GKsplitN (fun hc => ?_) (fun hc => ?_) <;> try simp [hc])
      | (with_reducible refine GKsplitNB (fun hc => ?_) (fun hc => ?_) <;> try simp [hc])
      | (with_reducible refine GKsplitB (fun hc => ?_) (fun hc => ?_) <;> try simp [hc])
      | simp (disch := first | (with_reducible assumption) | (simp; done) | omega | (simp; omega)))
    have hsc : (l.flatMap cHo).all AV.scal = true := by
      rw [List.all_flatMap]; simp
    refine Grow.app (f := cHo) (xs := l) (Grow.fresh hc) (by simp only [srcCells]; rw [if_pos (flat_len (by simp) l)]) hsc (by simp [LIM]; omega) (fun v G2 hg2 => ?_)
    have hv2 := Grow.plain hg2
    repeat' (first
      | refine awp_seqK fun K' hpK => ?_
      | refine awp_block ?_
      | refine awp_condG fun A' B' hpA hpB => ?_
      | refine useK (by with_reducible assumption) ?_
      | refine useP (by with_reducible assumption) ?_
      | refine ED_cons (fun _ => ?_) ?_
      | (refine stable_mk ?_; simp (disch := first | (with_reducible assumption) | (simp; done) | omega | (simp; omega)) [hv2]; done)
      | (refine stable_no ?_; simp (disch := first | (with_reducible assumption) | (simp; done) | omega | (simp; omega)) [hv2]; done)
      | (with_reducible refine And.intro ?_ ?_)
      | (with_reducible intro hc)
      | (with_reducible refine GDsplit (fun hc => ?_) (fun hc => ?_) <;> try simp [hc])
      | (with_reducible refine GDsplitN (fun hc => ?_) (fun hc => ?_) <;> try simp [hc])
      | (with_reducible refine GDsplitNB (fun hc => ?_) (fun hc => ?_) <;> try simp [hc])
      | (with_reducible refine GDsplitB (fun hc => ?_) (fun hc => ?_) <;> try simp [hc])
      | (with_reducible refine GKsplit (fun hc => ?_) (fun hc => ?_) <;> try simp [hc])
      | (with_reducible refine GKsplitN (fun hc => ?_) (fun hc => ?_) <;> try simp [hc])
      | (with_reducible refine GKsplitNB (fun hc => ?_) (fun hc => ?_) <;> try simp [hc])
      | (with_reducible refine GKsplitB (fun hc => ?_) (fun hc => ?_) <;> try simp [hc])
      | simp (disch := first | (with_reducible assumption) | (simp; done) | omega | (simp; omega)) [hv2])
    obtain ⟨s', hs2, hz, hsub⟩ := hg2.frz (by simp)
    exact ends_fr1 (by simp <;> rfl) hv2 hsub hz (hpost _ _ ⟨rfl, s', rfl, by rw [hs2]; rfl⟩)
def mayO (v : On) : Bool := (List.range (LL v.path).length).all (fun k => mayM (v.msg k)) && decide (0 < (LL v.path).length)
theorem range_all {p : Nat → Bool} {n j : Nat} (hj : j < n) (h : p j = false) : (List.range n).all p = false := by
  rw [List.all_eq_false]; exact ⟨j, List.mem_range.2 hj, by rw [h]; simp⟩
theorem one_may {v : On} {G : Hp} (hl : (LL v.path).length ≤ 1000) : ACalls Try.prog 24 [v.av] G fun r G' => G' = G ∧ r = .bool (mayO v) := by
  have mc := fun G k (hk : k < (LL v.path).length) => msg_c (v := v) (k := k) (G := G) hk hl
  have yc := fun G k => may_c (m := v.msg k) (G := G)
  simp only [On.av, Ms.av] at mc yc
  unfold mayO
  refine ACalls.hide fun post hpost => ?_
  refine F24_in (by simp) (by simp) fun hbd => ?_
  repeat' (first
    | refine awp_seqK fun K' hpK => ?_
    | refine awp_block ?_
    | refine awp_condG fun A' B' hpA hpB => ?_
    | refine useK (by with_reducible assumption) ?_
    | refine useP (by with_reducible assumption) ?_
    | refine ED_cons (fun _ => ?_) ?_
    | (refine stable_mk ?_; simp (disch := first | (with_reducible assumption) | (simp; done) | omega | (simp; omega)) [On.av]; done)
    | (refine stable_no ?_; simp (disch := first | (with_reducible assumption) | (simp; done) | omega | (simp; omega)) [On.av]; done)
    | (with_reducible refine And.intro ?_ ?_)
    | (with_reducible intro hc)
    | (with_reducible refine GDsplit (fun hc => ?_) (fun hc => ?_) <;> try simp [hc])
    | (with_reducible refine GDsplitN (fun hc => ?_) (fun hc => ?_) <;> try simp [hc])
    | (with_reducible refine GDsplitNB (fun hc => ?_) (fun hc => ?_) <;> try simp [hc])
    | (with_reducible refine GDsplitB (fun hc => ?_) (fun hc => ?_) <;> try simp [hc])
    | (with_reducible refine GKsplit (fun hc => ?_) (fun hc => ?_) <;> try simp [hc])
    | (with_reducible refine GKsplitN (fun hc => ?_) (fun hc => ?_) <;> try simp [hc])
    | (with_reducible refine GKsplitNB (fun hc => ?_) (fun hc => ?_) <;> try simp [hc])
    | (with_reducible refine GKsplitB (fun hc => ?_) (fun hc => ?_) <;> try simp [hc])
    | simp (disch := first | (with_reducible assumption) | (simp; done) | omega | (simp; omega)) [On.av])
  refine awp_loop' (fun w T G' => ∃ j : Nat, j + w = (LL v.path).length ∧ G' = G ∧ (∀ i, i < j → mayM (v.msg i) = true) ∧ T = ofL [(1, .box [.int .u32 v.id, .int .u32 v.ep, .int .u64 v.k1, .int .u64 v.k2, .int .u32 v.k3, .int .u32 v.k4, .int .i64 v.k5, .int .i64 v.k6, .int .i64 v.k7, .int .i64 v.f1, .int .i64 v.f2, .int .i64 v.t1, .int .i64 v.t2, .str v.su, .str v.sh, .str v.du, .str v.dh, .int .i64 v.act, .int .i64 v.rule, ofS cHo v.path, .int .u32 v.l0, .int .u32 v.l1, .int .u32 v.l2, .int .u32 v.l3, .int .u32 v.l4, .int .u32 v.l5, .int .u32 v.l6, .int .u32 v.l7, .int .u32 v.l8, .int .i64 v.idle, .int .i64 v.hard, .int .i64 v.at_, .int .u32 v.seq, .bool v.said, .int .i64 v.when]), (7, .int .i64 (LL v.path).length), (8, .int .i64 j)]) (LL v.path).length ⟨0, by omega, rfl, fun i h => absurd h (by omega), by simp⟩ ?_
  rintro w T G' ⟨j, hj, rfl, hd, rfl⟩ N hN
  by_cases hjl : j < (LL v.path).length
  · have yc1 := fun G => yc G j
    cases hm : mayM (v.msg j) with
    | true =>
      rw [hm] at yc1
      repeat' (first
        | refine awp_seqK fun K' hpK => ?_
        | refine awp_block ?_
        | refine awp_condG fun A' B' hpA hpB => ?_
        | refine useK (by with_reducible assumption) ?_
        | refine useP (by with_reducible assumption) ?_
        | refine ED_cons (fun _ => ?_) ?_
        | (refine stable_mk ?_; simp (disch := first | (with_reducible assumption) | (simp; done) | omega | (simp; omega)) [hjl]; done)
        | (refine stable_no ?_; simp (disch := first | (with_reducible assumption) | (simp; done) | omega | (simp; omega)) [hjl]; done)
        | (with_reducible refine And.intro ?_ ?_)
        | (with_reducible intro hc)
        | (with_reducible refine GDsplit (fun hc => ?_) (fun hc => ?_) <;> try simp [hc])
        | (with_reducible refine GDsplitN (fun hc => ?_) (fun hc => ?_) <;> try simp [hc])
        | (with_reducible refine GDsplitNB (fun hc => ?_) (fun hc => ?_) <;> try simp [hc])
        | (with_reducible refine GDsplitB (fun hc => ?_) (fun hc => ?_) <;> try simp [hc])
        | (with_reducible refine GKsplit (fun hc => ?_) (fun hc => ?_) <;> try simp [hc])
        | (with_reducible refine GKsplitN (fun hc => ?_) (fun hc => ?_) <;> try simp [hc])
        | (with_reducible refine GKsplitNB (fun hc => ?_) (fun hc => ?_) <;> try simp [hc])
        | (with_reducible refine GKsplitB (fun hc => ?_) (fun hc => ?_) <;> try simp [hc])
        | (refine CallK.use (mc _ _ hjl) ?_; rintro r G' _ _ ⟨rfl, rfl⟩)
        | (refine CallK.use (yc1 _) ?_; rintro r G' _ _ ⟨rfl, rfl⟩)
        | simp (disch := first | (with_reducible assumption) | (simp; done) | omega | (simp; omega)) [hjl])
      refine hN (w - 1) _ _ (by omega) ⟨j + 1, by omega, rfl, fun i h => ?_, by simp⟩
      by_cases e : i < j
      · exact hd i e
      · have : i = j := by omega
        rw [this]; exact hm
    | false =>
      rw [hm] at yc1
      repeat' (first
        | refine awp_seqK fun K' hpK => ?_
        | refine awp_block ?_
        | refine awp_condG fun A' B' hpA hpB => ?_
        | refine useK (by with_reducible assumption) ?_
        | refine useP (by with_reducible assumption) ?_
        | refine ED_cons (fun _ => ?_) ?_
        | (refine stable_mk ?_; simp (disch := first | (with_reducible assumption) | (simp; done) | omega | (simp; omega)) [hjl]; done)
        | (refine stable_no ?_; simp (disch := first | (with_reducible assumption) | (simp; done) | omega | (simp; omega)) [hjl]; done)
        | (with_reducible refine And.intro ?_ ?_)
        | (with_reducible intro hc)
        | (with_reducible refine GDsplit (fun hc => ?_) (fun hc => ?_) <;> try simp [hc])
        | (with_reducible refine GDsplitN (fun hc => ?_) (fun hc => ?_) <;> try simp [hc])
        | (with_reducible refine GDsplitNB (fun hc => ?_) (fun hc => ?_) <;> try simp [hc])
        | (with_reducible refine GDsplitB (fun hc => ?_) (fun hc => ?_) <;> try simp [hc])
        | (with_reducible refine GKsplit (fun hc => ?_) (fun hc => ?_) <;> try simp [hc])
        | (with_reducible refine GKsplitN (fun hc => ?_) (fun hc => ?_) <;> try simp [hc])
        | (with_reducible refine GKsplitNB (fun hc => ?_) (fun hc => ?_) <;> try simp [hc])
        | (with_reducible refine GKsplitB (fun hc => ?_) (fun hc => ?_) <;> try simp [hc])
        | (refine CallK.use (mc _ _ hjl) ?_; rintro r G' _ _ ⟨rfl, rfl⟩)
        | (refine CallK.use (yc1 _) ?_; rintro r G' _ _ ⟨rfl, rfl⟩)
        | simp (disch := first | (with_reducible assumption) | (simp; done) | omega | (simp; omega)) [hjl])
      exact ends_one (by simp <;> rfl) (by simp) (hpost _ _ ⟨rfl, by rw [range_all hjl hm]; rfl⟩)
  · have ha : (List.range (LL v.path).length).all (fun k => mayM (v.msg k)) = true := by
      rw [List.all_eq_true]; intro k hk; exact hd k (by have := List.mem_range.1 hk; omega)
    repeat' (first
      | refine awp_seqK fun K' hpK => ?_
      | refine awp_block ?_
      | refine awp_condG fun A' B' hpA hpB => ?_
      | refine useK (by with_reducible assumption) ?_
      | refine useP (by with_reducible assumption) ?_
      | refine ED_cons (fun _ => ?_) ?_
      | (refine stable_mk ?_; simp (disch := first | (with_reducible assumption) | (simp; done) | omega | (simp; omega)) [hjl]; done)
      | (refine stable_no ?_; simp (disch := first | (with_reducible assumption) | (simp; done) | omega | (simp; omega)) [hjl]; done)
      | (with_reducible refine And.intro ?_ ?_)
      | (with_reducible intro hc)
      | (with_reducible refine GDsplit (fun hc => ?_) (fun hc => ?_) <;> try simp [hc])
      | (with_reducible refine GDsplitN (fun hc => ?_) (fun hc => ?_) <;> try simp [hc])
      | (with_reducible refine GDsplitNB (fun hc => ?_) (fun hc => ?_) <;> try simp [hc])
      | (with_reducible refine GDsplitB (fun hc => ?_) (fun hc => ?_) <;> try simp [hc])
      | (with_reducible refine GKsplit (fun hc => ?_) (fun hc => ?_) <;> try simp [hc])
      | (with_reducible refine GKsplitN (fun hc => ?_) (fun hc => ?_) <;> try simp [hc])
      | (with_reducible refine GKsplitNB (fun hc => ?_) (fun hc => ?_) <;> try simp [hc])
      | (with_reducible refine GKsplitB (fun hc => ?_) (fun hc => ?_) <;> try simp [hc])
      | simp (disch := first | (with_reducible assumption) | (simp; done) | omega | (simp; omega)) [hjl])
    exact ends_one (by simp <;> rfl) (by simp) (hpost _ _ ⟨rfl, by rw [ha]; simp⟩)
def PO (sb : Nat) (rt sq : Int) : Nat × List AV := (0, [.ptr sb 0, .int .i64 rt, .int .u32 sq])
def TH (pb : Nat) (G : Hp) (L : List (Int × On)) (rt sq : Int) : Prop := ∃ sb h, G = setH h pb (some (PO sb rt sq)) ∧ h pb = none ∧ SHO sb h L 1024
def clR (r : Int) : Int := if r < 1 then 1 else if 65535 < r then 65535 else r
theorem new_c {r0 : Int} : ACalls Try.prog 8 [.int .i64 r0] emptyH fun r G' => ∃ pb, r = .ptr pb 0 ∧ TH pb G' [] (clR r0) 0 := by
  have hcl : (if 65535 < (if r0 < 1 then 1 else r0) then 65535 else (if r0 < 1 then (1 : Int) else r0)) = clR r0 := by
    unfold clR; repeat (split <;> try omega)
  refine ACalls.hide fun post hpost => ?_
  refine F8_in (by simp) (by simp) fun hbd => ?_
  repeat' (first
    | refine awp_seqK fun K' hpK => ?_
    | refine awp_block ?_
    | refine awp_condG fun A' B' hpA hpB => ?_
    | refine useK (by with_reducible assumption) ?_
    | refine useP (by with_reducible assumption) ?_
    | refine ED_cons (fun _ => ?_) ?_
    | (refine stable_mk ?_; simp (disch := first | (with_reducible assumption) | (simp; done) | omega | (simp; omega)); done)
    | (refine stable_no ?_; simp (disch := first | (with_reducible assumption) | (simp; done) | omega | (simp; omega)); done)
    | (with_reducible refine And.intro ?_ ?_)
    | (with_reducible intro hc)
    | (with_reducible refine GDsplit (fun hc => ?_) (fun hc => ?_) <;> try simp [hc])
    | (with_reducible refine GDsplitN (fun hc => ?_) (fun hc => ?_) <;> try simp [hc])
    | (with_reducible refine GDsplitNB (fun hc => ?_) (fun hc => ?_) <;> try simp [hc])
    | (with_reducible refine GDsplitB (fun hc => ?_) (fun hc => ?_) <;> try simp [hc])
    | (with_reducible refine GKsplit (fun hc => ?_) (fun hc => ?_) <;> try simp [hc])
    | (with_reducible refine GKsplitN (fun hc => ?_) (fun hc => ?_) <;> try simp [hc])
    | (with_reducible refine GKsplitNB (fun hc => ?_) (fun hc => ?_) <;> try simp [hc])
    | (with_reducible refine GKsplitB (fun hc => ?_) (fun hc => ?_) <;> try simp [hc])
    | (refine CallK.use (newO_E (n := 1024) (m := 1024) rfl) ?_; rintro r G' _ _ ⟨sb, rfl, hs⟩)
    | simp (disch := first | (with_reducible assumption) | (simp; done) | omega | (simp; omega)))
  rw [hcl]
  intro pb hpb
  refine ⟨0, ?_⟩
  repeat' (first
    | refine awp_seqK fun K' hpK => ?_
    | refine awp_block ?_
    | refine awp_condG fun A' B' hpA hpB => ?_
    | refine useK (by with_reducible assumption) ?_
    | refine useP (by with_reducible assumption) ?_
    | refine ED_cons (fun _ => ?_) ?_
    | (refine stable_mk ?_; simp (disch := first | (with_reducible assumption) | (simp; done) | omega | (simp; omega)); done)
    | (refine stable_no ?_; simp (disch := first | (with_reducible assumption) | (simp; done) | omega | (simp; omega)); done)
    | (with_reducible refine And.intro ?_ ?_)
    | (with_reducible intro hc)
    | (with_reducible refine GDsplit (fun hc => ?_) (fun hc => ?_) <;> try simp [hc])
    | (with_reducible refine GDsplitN (fun hc => ?_) (fun hc => ?_) <;> try simp [hc])
    | (with_reducible refine GDsplitNB (fun hc => ?_) (fun hc => ?_) <;> try simp [hc])
    | (with_reducible refine GDsplitB (fun hc => ?_) (fun hc => ?_) <;> try simp [hc])
    | (with_reducible refine GKsplit (fun hc => ?_) (fun hc => ?_) <;> try simp [hc])
    | (with_reducible refine GKsplitN (fun hc => ?_) (fun hc => ?_) <;> try simp [hc])
    | (with_reducible refine GKsplitNB (fun hc => ?_) (fun hc => ?_) <;> try simp [hc])
    | (with_reducible refine GKsplitB (fun hc => ?_) (fun hc => ?_) <;> try simp [hc])
    | simp (disch := first | (with_reducible assumption) | (simp; done) | omega | (simp; omega)))
  exact ends_one (by simp <;> rfl) (by simp) (hpost _ _ ⟨pb, rfl, sb, _, rfl, hpb, hs⟩)
@[simp] def On.fl (v : On) : AV := .agg [.int .u32 v.id, .int .u32 v.ep, .int .u64 v.k1, .int .u64 v.k2, .int .u32 v.k3, .int .u32 v.k4, .int .i64 v.k5, .int .i64 v.k6, .int .i64 v.k7, .int .i64 v.f1, .int .i64 v.f2, .int .i64 v.t1, .int .i64 v.t2, .str v.su, .str v.sh, .str v.du, .str v.dh, .int .i64 v.act, .int .i64 v.rule, ofS cHo v.path]
@[simp] def On.lv (v : On) : AV := .agg [.int .u32 v.l0, .int .u32 v.l1, .int .u32 v.l2, .int .u32 v.l3, .int .u32 v.l4, .int .u32 v.l5, .int .u32 v.l6, .int .u32 v.l7, .int .u32 v.l8]
def xO (v : On) (s : Option (List Ho)) (sq : Int) : On := { v with path := s, at_ := (LL v.path).length - 1, seq := sq + 1, said := false, when := 0 }
def startP (L : List (Int × On)) (sq : Int) (x : On) : List (Int × On) × Int × Int :=
  if hasL L x.id then (L, sq, 3) else if mayO x then (setL L x.id x, sq + 1, 0) else (L, sq, 1)
set_option maxHeartbeats 4000000 in
theorem start_c {pb : Nat} {G : Hp} {L : List (Int × On)} {rt sq : Int} {v : On} (hP : TH pb G L rt sq) (hl : L.length ≤ 1000) (h0 : 0 ≤ sq) (h1 : sq ≤ 1000000) (hpl : (LL v.path).length ≤ 1000) : ACalls Try.prog 9 [.ptr pb 0, v.fl, v.lv, .int .i64 v.idle, .int .i64 v.hard] G fun r G' => ∃ s, LL s = LL v.path ∧ TH pb G' (startP L sq (xO v s sq)).1 rt (startP L sq (xO v s sq)).2.1 ∧ r = .int .i64 (startP L sq (xO v s sq)).2.2 := by
  have hP0 := hP
  obtain ⟨sb, h, rfl, hpb, hs⟩ := hP
  have w1 : IntKind.u32.wrap (sq + 1) = sq + 1 := by rw [IntKind.wrap_u32]; omega
  have gc := getO_c (k := v.id) hs (by omega)
  have lc := lenO_c hs
  refine ACalls.hide fun post hpost => ?_
  refine F9_in (by simp) (by simp) fun hbd => ?_
  repeat' (first
    | refine awp_seqK fun K' hpK => ?_
    | refine awp_block ?_
    | refine awp_condG fun A' B' hpA hpB => ?_
    | refine useK (by with_reducible assumption) ?_
    | refine useP (by with_reducible assumption) ?_
    | refine ED_cons (fun _ => ?_) ?_
    | (refine stable_mk ?_; simp (disch := first | (with_reducible assumption) | (simp; done) | omega | (simp; omega)) [PO, On.fl, On.lv]; done)
    | (refine stable_no ?_; simp (disch := first | (with_reducible assumption) | (simp; done) | omega | (simp; omega)) [PO, On.fl, On.lv]; done)
    | (with_reducible refine And.intro ?_ ?_)
    | (with_reducible intro hc)
    | (with_reducible refine GDsplit (fun hc => ?_) (fun hc => ?_) <;> try simp [hc])
    | (with_reducible refine GDsplitN (fun hc => ?_) (fun hc => ?_) <;> try simp [hc])
    | (with_reducible refine GDsplitNB (fun hc => ?_) (fun hc => ?_) <;> try simp [hc])
    | (with_reducible refine GDsplitB (fun hc => ?_) (fun hc => ?_) <;> try simp [hc])
    | (with_reducible refine GKsplit (fun hc => ?_) (fun hc => ?_) <;> try simp [hc])
    | (with_reducible refine GKsplitN (fun hc => ?_) (fun hc => ?_) <;> try simp [hc])
    | (with_reducible refine GKsplitNB (fun hc => ?_) (fun hc => ?_) <;> try simp [hc])
    | (with_reducible refine GKsplitB (fun hc => ?_) (fun hc => ?_) <;> try simp [hc])
    | simp (disch := first | (with_reducible assumption) | (simp; done) | omega | (simp; omega)) [PO, On.fl, On.lv])
  refine CallK.use (clone_c (s := v.path) hpl) ?_
  rintro r G2 _ _ ⟨rfl, s, rfl, hse⟩
  have hw2 : IntKind.i64.wrap ((LL v.path).length - 1) = (LL v.path).length - 1 := by rw [IntKind.wrap_i64]; omega
  have hxid : (xO v s sq).id = v.id := rfl
  repeat' (first
    | refine awp_seqK fun K' hpK => ?_
    | refine awp_block ?_
    | refine awp_condG fun A' B' hpA hpB => ?_
    | refine useK (by with_reducible assumption) ?_
    | refine useP (by with_reducible assumption) ?_
    | refine ED_cons (fun _ => ?_) ?_
    | (refine stable_mk ?_; simp (disch := first | (with_reducible assumption) | (simp; done) | omega | (simp; omega)) [hse, w1, hw2, PO]; done)
    | (refine stable_no ?_; simp (disch := first | (with_reducible assumption) | (simp; done) | omega | (simp; omega)) [hse, w1, hw2, PO]; done)
    | (with_reducible refine And.intro ?_ ?_)
    | (with_reducible intro hc)
    | (with_reducible refine GDsplit (fun hc => ?_) (fun hc => ?_) <;> try simp [hc])
    | (with_reducible refine GDsplitN (fun hc => ?_) (fun hc => ?_) <;> try simp [hc])
    | (with_reducible refine GDsplitNB (fun hc => ?_) (fun hc => ?_) <;> try simp [hc])
    | (with_reducible refine GDsplitB (fun hc => ?_) (fun hc => ?_) <;> try simp [hc])
    | (with_reducible refine GKsplit (fun hc => ?_) (fun hc => ?_) <;> try simp [hc])
    | (with_reducible refine GKsplitN (fun hc => ?_) (fun hc => ?_) <;> try simp [hc])
    | (with_reducible refine GKsplitNB (fun hc => ?_) (fun hc => ?_) <;> try simp [hc])
    | (with_reducible refine GKsplitB (fun hc => ?_) (fun hc => ?_) <;> try simp [hc])
    | simp (disch := first | (with_reducible assumption) | (simp; done) | omega | (simp; omega)) [hse, w1, hw2, PO])
  refine CallK.use (gc.frame1 (o := PO sb rt sq) hpb) ?_
  rintro r G3 _ _ ⟨h2, _, rfl, rfl, rfl⟩
  cases hh : hasL L v.id with
  | true =>
    have hso : (getL L v.id).isSome = true := by rw [← hasL_get]; exact hh
    have e : startP L sq (xO v s sq) = (L, sq, 3) := by unfold startP; rw [hxid, hh]; rfl
    rw [hso]
    repeat' (first
      | refine awp_seqK fun K' hpK => ?_
      | refine awp_block ?_
      | refine awp_condG fun A' B' hpA hpB => ?_
      | refine useK (by with_reducible assumption) ?_
      | refine useP (by with_reducible assumption) ?_
      | refine ED_cons (fun _ => ?_) ?_
      | (refine stable_mk ?_; simp (disch := first | (with_reducible assumption) | (simp; done) | omega | (simp; omega)); done)
      | (refine stable_no ?_; simp (disch := first | (with_reducible assumption) | (simp; done) | omega | (simp; omega)); done)
      | (with_reducible refine And.intro ?_ ?_)
      | (with_reducible intro hc)
      | (with_reducible refine GDsplit (fun hc => ?_) (fun hc => ?_) <;> try simp [hc])
      | (with_reducible refine GDsplitN (fun hc => ?_) (fun hc => ?_) <;> try simp [hc])
      | (with_reducible refine GDsplitNB (fun hc => ?_) (fun hc => ?_) <;> try simp [hc])
      | (with_reducible refine GDsplitB (fun hc => ?_) (fun hc => ?_) <;> try simp [hc])
      | (with_reducible refine GKsplit (fun hc => ?_) (fun hc => ?_) <;> try simp [hc])
      | (with_reducible refine GKsplitN (fun hc => ?_) (fun hc => ?_) <;> try simp [hc])
      | (with_reducible refine GKsplitNB (fun hc => ?_) (fun hc => ?_) <;> try simp [hc])
      | (with_reducible refine GKsplitB (fun hc => ?_) (fun hc => ?_) <;> try simp [hc])
      | simp (disch := first | (with_reducible assumption) | (simp; done) | omega | (simp; omega)))
    exact ends_one (by simp <;> rfl) (by simp) (hpost _ _ ⟨s, hse, by rw [e]; exact hP0, by rw [e]⟩)
  | false =>
    have hso : (getL L v.id).isSome = false := by rw [← hasL_get]; exact hh
    have hlt : ¬ (1024 : Int) ≤ L.length := by omega
    rw [hso]
    repeat' (first
      | refine awp_seqK fun K' hpK => ?_
      | refine awp_block ?_
      | refine awp_condG fun A' B' hpA hpB => ?_
      | refine useK (by with_reducible assumption) ?_
      | refine useP (by with_reducible assumption) ?_
      | refine ED_cons (fun _ => ?_) ?_
      | (refine stable_mk ?_; simp (disch := first | (with_reducible assumption) | (simp; done) | omega | (simp; omega)) [PO]; done)
      | (refine stable_no ?_; simp (disch := first | (with_reducible assumption) | (simp; done) | omega | (simp; omega)) [PO]; done)
      | (with_reducible refine And.intro ?_ ?_)
      | (with_reducible intro hc)
      | (with_reducible refine GDsplit (fun hc => ?_) (fun hc => ?_) <;> try simp [hc])
      | (with_reducible refine GDsplitN (fun hc => ?_) (fun hc => ?_) <;> try simp [hc])
      | (with_reducible refine GDsplitNB (fun hc => ?_) (fun hc => ?_) <;> try simp [hc])
      | (with_reducible refine GDsplitB (fun hc => ?_) (fun hc => ?_) <;> try simp [hc])
      | (with_reducible refine GKsplit (fun hc => ?_) (fun hc => ?_) <;> try simp [hc])
      | (with_reducible refine GKsplitN (fun hc => ?_) (fun hc => ?_) <;> try simp [hc])
      | (with_reducible refine GKsplitNB (fun hc => ?_) (fun hc => ?_) <;> try simp [hc])
      | (with_reducible refine GKsplitB (fun hc => ?_) (fun hc => ?_) <;> try simp [hc])
      | simp (disch := first | (with_reducible assumption) | (simp; done) | omega | (simp; omega)) [PO])
    refine CallK.use (lc.frame1 (o := PO sb rt sq) hpb) ?_
    rintro r G4 _ _ ⟨h3, _, rfl, rfl, rfl⟩
    have mc := fun G => one_may (v := xO v s sq) (G := G) (by show (LL s).length ≤ 1000; rw [hse]; exact hpl)
    simp only [On.av, xO] at mc
    cases hm : mayO (xO v s sq) with
    | false =>
      have hm' := hm
      simp only [xO] at hm'
      rw [hm'] at mc
      have e : startP L sq (xO v s sq) = (L, sq, 1) := by unfold startP; rw [hxid, hh, hm]; rfl
      repeat' (first
        | refine awp_seqK fun K' hpK => ?_
        | refine awp_block ?_
        | refine awp_condG fun A' B' hpA hpB => ?_
        | refine useK (by with_reducible assumption) ?_
        | refine useP (by with_reducible assumption) ?_
        | refine ED_cons (fun _ => ?_) ?_
        | (refine stable_mk ?_; simp (disch := first | (with_reducible assumption) | (simp; done) | omega | (simp; omega)) [hlt]; done)
        | (refine stable_no ?_; simp (disch := first | (with_reducible assumption) | (simp; done) | omega | (simp; omega)) [hlt]; done)
        | (with_reducible refine And.intro ?_ ?_)
        | (with_reducible intro hc)
        | (with_reducible refine GDsplit (fun hc => ?_) (fun hc => ?_) <;> try simp [hc])
        | (with_reducible refine GDsplitN (fun hc => ?_) (fun hc => ?_) <;> try simp [hc])
        | (with_reducible refine GDsplitNB (fun hc => ?_) (fun hc => ?_) <;> try simp [hc])
        | (with_reducible refine GDsplitB (fun hc => ?_) (fun hc => ?_) <;> try simp [hc])
        | (with_reducible refine GKsplit (fun hc => ?_) (fun hc => ?_) <;> try simp [hc])
        | (with_reducible refine GKsplitN (fun hc => ?_) (fun hc => ?_) <;> try simp [hc])
        | (with_reducible refine GKsplitNB (fun hc => ?_) (fun hc => ?_) <;> try simp [hc])
        | (with_reducible refine GKsplitB (fun hc => ?_) (fun hc => ?_) <;> try simp [hc])
        | (refine CallK.use (mc _) ?_; rintro r G' _ _ ⟨rfl, rfl⟩)
        | simp (disch := first | (with_reducible assumption) | (simp; done) | omega | (simp; omega)) [hlt])
      exact ends_one (by simp <;> rfl) (by simp) (hpost _ _ ⟨s, hse, by rw [e]; exact hP0, by rw [e]⟩)
    | true =>
      have hm' := hm
      simp only [xO] at hm'
      rw [hm'] at mc
      have e : startP L sq (xO v s sq) = (setL L v.id (xO v s sq), sq + 1, 0) := by unfold startP; rw [hxid, hh, hm]; rfl
      have hroom : setRO L 1024 v.id = true := by unfold setRO; rw [decide_eq_true (by omega)]; simp
      have sc := setO_E (k := v.id) (v := xO v s sq) hs (by omega) (if_pos hroom) (if_pos hroom)
      simp only [xO] at sc
      repeat' (first
        | refine awp_seqK fun K' hpK => ?_
        | refine awp_block ?_
        | refine awp_condG fun A' B' hpA hpB => ?_
        | refine useK (by with_reducible assumption) ?_
        | refine useP (by with_reducible assumption) ?_
        | refine ED_cons (fun _ => ?_) ?_
        | (refine stable_mk ?_; simp (disch := first | (with_reducible assumption) | (simp; done) | omega | (simp; omega)) [hlt, PO, w1, setH_setH]; done)
        | (refine stable_no ?_; simp (disch := first | (with_reducible assumption) | (simp; done) | omega | (simp; omega)) [hlt, PO, w1, setH_setH]; done)
        | (with_reducible refine And.intro ?_ ?_)
        | (with_reducible intro hc)
        | (with_reducible refine GDsplit (fun hc => ?_) (fun hc => ?_) <;> try simp [hc])
        | (with_reducible refine GDsplitN (fun hc => ?_) (fun hc => ?_) <;> try simp [hc])
        | (with_reducible refine GDsplitNB (fun hc => ?_) (fun hc => ?_) <;> try simp [hc])
        | (with_reducible refine GDsplitB (fun hc => ?_) (fun hc => ?_) <;> try simp [hc])
        | (with_reducible refine GKsplit (fun hc => ?_) (fun hc => ?_) <;> try simp [hc])
        | (with_reducible refine GKsplitN (fun hc => ?_) (fun hc => ?_) <;> try simp [hc])
        | (with_reducible refine GKsplitNB (fun hc => ?_) (fun hc => ?_) <;> try simp [hc])
        | (with_reducible refine GKsplitB (fun hc => ?_) (fun hc => ?_) <;> try simp [hc])
        | (refine CallK.use (mc _) ?_; rintro r G' _ _ ⟨rfl, rfl⟩)
        | simp (disch := first | (with_reducible assumption) | (simp; done) | omega | (simp; omega)) [hlt, PO, w1, setH_setH])
      have sc2 := sc.frame1 (o := PO sb rt (sq + 1)) hpb
      simp only [PO] at sc2
      refine CallK.use sc2 ?_
      rintro r G5 _ _ ⟨h4, h4b, rfl, hs4, rfl⟩
      repeat' (first
        | refine awp_seqK fun K' hpK => ?_
        | refine awp_block ?_
        | refine awp_condG fun A' B' hpA hpB => ?_
        | refine useK (by with_reducible assumption) ?_
        | refine useP (by with_reducible assumption) ?_
        | refine ED_cons (fun _ => ?_) ?_
        | (refine stable_mk ?_; simp (disch := first | (with_reducible assumption) | (simp; done) | omega | (simp; omega)); done)
        | (refine stable_no ?_; simp (disch := first | (with_reducible assumption) | (simp; done) | omega | (simp; omega)); done)
        | (with_reducible refine And.intro ?_ ?_)
        | (with_reducible intro hc)
        | (with_reducible refine GDsplit (fun hc => ?_) (fun hc => ?_) <;> try simp [hc])
        | (with_reducible refine GDsplitN (fun hc => ?_) (fun hc => ?_) <;> try simp [hc])
        | (with_reducible refine GDsplitNB (fun hc => ?_) (fun hc => ?_) <;> try simp [hc])
        | (with_reducible refine GDsplitB (fun hc => ?_) (fun hc => ?_) <;> try simp [hc])
        | (with_reducible refine GKsplit (fun hc => ?_) (fun hc => ?_) <;> try simp [hc])
        | (with_reducible refine GKsplitN (fun hc => ?_) (fun hc => ?_) <;> try simp [hc])
        | (with_reducible refine GKsplitNB (fun hc => ?_) (fun hc => ?_) <;> try simp [hc])
        | (with_reducible refine GKsplitB (fun hc => ?_) (fun hc => ?_) <;> try simp [hc])
        | simp (disch := first | (with_reducible assumption) | (simp; done) | omega | (simp; omega)))
      exact ends_one (by simp <;> rfl) (by simp) (hpost _ _ ⟨s, hse, by rw [e]; exact ⟨sb, h4, rfl, h4b, hs4⟩, by rw [e]⟩)
end Go.Proofs.Ytgideonigiokbaa
