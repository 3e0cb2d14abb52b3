import Derived.Test.YtgideonigiokbaaD8K
set_option linter.unusedSimpArgs false
set_option linter.unusedVariables false
namespace Go.Proofs.Ytgideonigiokbaa
open Go Go.Al
set_option maxRecDepth 20000
attribute [local irreducible] awp aops aopsD eop pv ACalls CallK AppK AEnds ti

theorem start_nil {v : On} {G : Hp} : ACalls Try.prog 9 [.nil, v.fl, v.lv, .int .i64 v.idle, .int .i64 v.hard] G fun r G' => G' = G ∧ r = .int .i64 11 := by
  refine ACalls.hide fun post hpost => ?_
  refine F9_in (by simp) (by simp) fun hbd => ?_
  repeat' (first
    | refine awp_seqK fun K' hpK => ?_
    | refine awp_block ?_
    | refine awp_condG fun A' B' hpA hpB => ?_
    | refine useK (by with_reducible assumption) ?_
    | refine useP (by with_reducible assumption) ?_
    | refine ED_cons (fun _ => ?_) ?_
    | (refine stable_mk ?_; simp (disch := first | (with_reducible assumption) | (simp; done) | omega | (simp; omega)) [On.fl, On.lv]; done)
    | (refine stable_no ?_; simp (disch := first | (with_reducible assumption) | (simp; done) | omega | (simp; omega)) [On.fl, On.lv]; done)
    | (with_reducible refine And.intro ?_ ?_)
    | (with_reducible intro hc)
    | (with_reducible refine GDsplit (fun hc => ?_) (fun hc => ?_) <;> try simp [hc])
    | (with_reducible refine GDsplitN (fun hc => ?_) (fun hc => ?_) <;> try simp [hc])
    | (with_reducible refine GDsplitNB (fun hc => ?_) (fun hc => ?_) <;> try simp [hc])
    | (with_reducible refine GDsplitB (fun hc => ?_) (fun hc => ?_) <;> try simp [hc])
    | (with_reducible refine GKsplit (fun hc => ?_) (fun hc => ?_) <;> try simp [hc])
    | (with_reducible refine GKsplitN (fun hc => ?_) (fun hc => ?_) <;> try simp [hc])
    | (with_reducible refine GKsplitNB (fun hc => ?_) (fun hc => ?_) <;> try simp [hc])
    | (with_reducible refine GKsplitB (fun hc => ?_) (fun hc => ?_) <;> try simp [hc])
    | simp (disch := first | (with_reducible assumption) | (simp; done) | omega | (simp; omega)) [On.fl, On.lv])
  exact ends_one (by simp <;> rfl) (by simp) (hpost _ _ ⟨rfl, rfl⟩)
theorem next_nil {n : Int} {G : Hp} : ACalls Try.prog 13 [.nil, .int .i64 n] G fun r G' => G' = G ∧ r = .nils := by
  refine ACalls.hide fun post hpost => ?_
  refine F13_in (by simp) (by simp) fun hbd => ?_
  repeat' (first
    | refine awp_seqK fun K' hpK => ?_
    | refine awp_block ?_
    | refine awp_condG fun A' B' hpA hpB => ?_
    | refine useK (by with_reducible assumption) ?_
    | refine useP (by with_reducible assumption) ?_
    | refine ED_cons (fun _ => ?_) ?_
    | (refine stable_mk ?_; simp (disch := first | (with_reducible assumption) | (simp; done) | omega | (simp; omega)); done)
    | (refine stable_no ?_; simp (disch := first | (with_reducible assumption) | (simp; done) | omega | (simp; omega)); done)
    | (with_reducible refine And.intro ?_ ?_)
    | (with_reducible intro hc)
    | (with_reducible refine GDsplit (fun hc => ?_) (fun hc => ?_) <;> try simp [hc])
    | (with_reducible refine GDsplitN (fun hc => ?_) (fun hc => ?_) <;> try simp [hc])
    | (with_reducible refine GDsplitNB (fun hc => ?_) (fun hc => ?_) <;> try simp [hc])
    | (with_reducible refine GDsplitB (fun hc => ?_) (fun hc => ?_) <;> try simp [hc])
    | (with_reducible refine GKsplit (fun hc => ?_) (fun hc => ?_) <;> try simp [hc])
    | (with_reducible refine GKsplitN (fun hc => ?_) (fun hc => ?_) <;> try simp [hc])
    | (with_reducible refine GKsplitNB (fun hc => ?_) (fun hc => ?_) <;> try simp [hc])
    | (with_reducible refine GKsplitB (fun hc => ?_) (fun hc => ?_) <;> try simp [hc])
    | simp (disch := first | (with_reducible assumption) | (simp; done) | omega | (simp; omega)))
  exact ends_one (by simp <;> rfl) (by simp) (hpost _ _ ⟨rfl, rfl⟩)
theorem done_nil {a b c d : Int} {G : Hp} : ACalls Try.prog 14 [.nil, .int .i64 a, .int .u32 b, .int .u32 c, .int .u32 d] G fun r G' => G' = G ∧ r = .tup [.int .u32 0, .bool false] := by
  refine ACalls.hide fun post hpost => ?_
  refine F14_in (by simp) (by simp) fun hbd => ?_
  repeat' (first
    | refine awp_seqK fun K' hpK => ?_
    | refine awp_block ?_
    | refine awp_condG fun A' B' hpA hpB => ?_
    | refine useK (by with_reducible assumption) ?_
    | refine useP (by with_reducible assumption) ?_
    | refine ED_cons (fun _ => ?_) ?_
    | (refine stable_mk ?_; simp (disch := first | (with_reducible assumption) | (simp; done) | omega | (simp; omega)); done)
    | (refine stable_no ?_; simp (disch := first | (with_reducible assumption) | (simp; done) | omega | (simp; omega)); done)
    | (with_reducible refine And.intro ?_ ?_)
    | (with_reducible intro hc)
    | (with_reducible refine GDsplit (fun hc => ?_) (fun hc => ?_) <;> try simp [hc])
    | (with_reducible refine GDsplitN (fun hc => ?_) (fun hc => ?_) <;> try simp [hc])
    | (with_reducible refine GDsplitNB (fun hc => ?_) (fun hc => ?_) <;> try simp [hc])
    | (with_reducible refine GDsplitB (fun hc => ?_) (fun hc => ?_) <;> try simp [hc])
    | (with_reducible refine GKsplit (fun hc => ?_) (fun hc => ?_) <;> try simp [hc])
    | (with_reducible refine GKsplitN (fun hc => ?_) (fun hc => ?_) <;> try simp [hc])
    | (with_reducible refine GKsplitNB (fun hc => ?_) (fun hc => ?_) <;> try simp [hc])
    | (with_reducible refine GKsplitB (fun hc => ?_) (fun hc => ?_) <;> try simp [hc])
    | simp (disch := first | (with_reducible assumption) | (simp; done) | omega | (simp; omega)))
  exact ends_two (by simp <;> exact ⟨rfl, rfl⟩) (by simp) (by simp) (hpost _ _ ⟨rfl, rfl⟩)
theorem waiting_nil {G : Hp} : ACalls Try.prog 11 [.nil] G fun r G' => G' = G ∧ r = .nils := by
  refine ACalls.hide fun post hpost => ?_
  refine F11_in (by simp) (by simp) fun hbd => ?_
  repeat' (first
    | refine awp_seqK fun K' hpK => ?_
    | refine awp_block ?_
    | refine awp_condG fun A' B' hpA hpB => ?_
    | refine useK (by with_reducible assumption) ?_
    | refine useP (by with_reducible assumption) ?_
    | refine ED_cons (fun _ => ?_) ?_
    | (refine stable_mk ?_; simp (disch := first | (with_reducible assumption) | (simp; done) | omega | (simp; omega)); done)
    | (refine stable_no ?_; simp (disch := first | (with_reducible assumption) | (simp; done) | omega | (simp; omega)); done)
    | (with_reducible refine And.intro ?_ ?_)
    | (with_reducible intro hc)
    | (with_reducible refine GDsplit (fun hc => ?_) (fun hc => ?_) <;> try simp [hc])
    | (with_reducible refine GDsplitN (fun hc => ?_) (fun hc => ?_) <;> try simp [hc])
    | (with_reducible refine GDsplitNB (fun hc => ?_) (fun hc => ?_) <;> try simp [hc])
    | (with_reducible refine GDsplitB (fun hc => ?_) (fun hc => ?_) <;> try simp [hc])
    | (with_reducible refine GKsplit (fun hc => ?_) (fun hc => ?_) <;> try simp [hc])
    | (with_reducible refine GKsplitN (fun hc => ?_) (fun hc => ?_) <;> try simp [hc])
    | (with_reducible refine GKsplitNB (fun hc => ?_) (fun hc => ?_) <;> try simp [hc])
    | (with_reducible refine GKsplitB (fun hc => ?_) (fun hc => ?_) <;> try simp [hc])
    | simp (disch := first | (with_reducible assumption) | (simp; done) | omega | (simp; omega)))
  exact ends_one (by simp <;> rfl) (by simp) (hpost _ _ ⟨rfl, rfl⟩)
theorem clear_nil {G : Hp} : ACalls Try.prog 19 [.nil] G fun r G' => G' = G ∧ r = .nils := by
  refine ACalls.hide fun post hpost => ?_
  refine F19_in (by simp) (by simp) fun hbd => ?_
  repeat' (first
    | refine awp_seqK fun K' hpK => ?_
    | refine awp_block ?_
    | refine awp_condG fun A' B' hpA hpB => ?_
    | refine useK (by with_reducible assumption) ?_
    | refine useP (by with_reducible assumption) ?_
    | refine ED_cons (fun _ => ?_) ?_
    | (refine stable_mk ?_; simp (disch := first | (with_reducible assumption) | (simp; done) | omega | (simp; omega)); done)
    | (refine stable_no ?_; simp (disch := first | (with_reducible assumption) | (simp; done) | omega | (simp; omega)); done)
    | (with_reducible refine And.intro ?_ ?_)
    | (with_reducible intro hc)
    | (with_reducible refine GDsplit (fun hc => ?_) (fun hc => ?_) <;> try simp [hc])
    | (with_reducible refine GDsplitN (fun hc => ?_) (fun hc => ?_) <;> try simp [hc])
    | (with_reducible refine GDsplitNB (fun hc => ?_) (fun hc => ?_) <;> try simp [hc])
    | (with_reducible refine GDsplitB (fun hc => ?_) (fun hc => ?_) <;> try simp [hc])
    | (with_reducible refine GKsplit (fun hc => ?_) (fun hc => ?_) <;> try simp [hc])
    | (with_reducible refine GKsplitN (fun hc => ?_) (fun hc => ?_) <;> try simp [hc])
    | (with_reducible refine GKsplitNB (fun hc => ?_) (fun hc => ?_) <;> try simp [hc])
    | (with_reducible refine GKsplitB (fun hc => ?_) (fun hc => ?_) <;> try simp [hc])
    | (refine CallK.use (waiting_nil (G := _)) ?_; rintro r G' _ _ ⟨rfl, rfl⟩)
    | simp (disch := first | (with_reducible assumption) | (simp; done) | omega | (simp; omega)))
  refine awp_loop' (fun w T G1 => G1 = G' ∧ T = ofL [(0, .nil), (3, .nils), (8, .nils), (9, .int .i64 0), (10, .int .i64 0)]) 0 ⟨rfl, by simp⟩ ?_
  rintro w T G1 ⟨rfl, rfl⟩ N hN
  repeat' (first
    | refine awp_seqK fun K' hpK => ?_
    | refine awp_block ?_
    | refine awp_condG fun A' B' hpA hpB => ?_
    | refine useK (by with_reducible assumption) ?_
    | refine useP (by with_reducible assumption) ?_
    | refine ED_cons (fun _ => ?_) ?_
    | (refine stable_mk ?_; simp (disch := first | (with_reducible assumption) | (simp; done) | omega | (simp; omega)); done)
    | (refine stable_no ?_; simp (disch := first | (with_reducible assumption) | (simp; done) | omega | (simp; omega)); done)
    | (with_reducible refine And.intro ?_ ?_)
    | (with_reducible intro hc)
    | (with_reducible refine GDsplit (fun hc => ?_) (fun hc => ?_) <;> try simp [hc])
    | (with_reducible refine GDsplitN (fun hc => ?_) (fun hc => ?_) <;> try simp [hc])
    | (with_reducible refine GDsplitNB (fun hc => ?_) (fun hc => ?_) <;> try simp [hc])
    | (with_reducible refine GDsplitB (fun hc => ?_) (fun hc => ?_) <;> try simp [hc])
    | (with_reducible refine GKsplit (fun hc => ?_) (fun hc => ?_) <;> try simp [hc])
    | (with_reducible refine GKsplitN (fun hc => ?_) (fun hc => ?_) <;> try simp [hc])
    | (with_reducible refine GKsplitNB (fun hc => ?_) (fun hc => ?_) <;> try simp [hc])
    | (with_reducible refine GKsplitB (fun hc => ?_) (fun hc => ?_) <;> try simp [hc])
    | simp (disch := first | (with_reducible assumption) | (simp; done) | omega | (simp; omega)))
  exact ends_one (by simp <;> rfl) (by simp) (hpost _ _ ⟨rfl, rfl⟩)
def z9 (v : On) : On := { v with l0 := 0, l1 := 0, l2 := 0, l3 := 0, l4 := 0, l5 := 0, l6 := 0, l7 := 0, l8 := 0, idle := 1, hard := 1 }
set_option maxHeartbeats 1000000 in
theorem planNil_c {v : On} {sq : Int} (hl : (LL v.path).length ≤ 140737488355328) : ACalls Try.prog 6 [v.fl, .int .u32 sq] emptyH fun r G' => G' = emptyH ∧ r = .bool true := by
  have cc := fun G => cut_c (v := v) (G := G) hl
  have oc := fun G => ours_c (v := cutO v) (G := G)
  have sn := fun G => start_nil (v := z9 (cutO v)) (G := G)
  have dn := fun G a b c d => done_nil (a := a) (b := b) (c := c) (d := d) (G := G)
  have nn := fun G n => next_nil (n := n) (G := G)
  simp only [On.fl, On.lv, cutO, z9] at cc oc sn
  refine ACalls.hide fun post hpost => ?_
  refine F6_in (by simp) (by simp) fun hbd => ?_
  repeat' (first
    | refine awp_seqK fun K' hpK => ?_
    | refine awp_block ?_
    | refine awp_condG fun A' B' hpA hpB => ?_
    | refine useK (by with_reducible assumption) ?_
    | refine useP (by with_reducible assumption) ?_
    | refine ED_cons (fun _ => ?_) ?_
    | (refine stable_mk ?_; simp (disch := first | (with_reducible assumption) | (simp; done) | omega | (simp; omega)) [On.fl]; done)
    | (refine stable_no ?_; simp (disch := first | (with_reducible assumption) | (simp; done) | omega | (simp; omega)) [On.fl]; done)
    | (with_reducible refine And.intro ?_ ?_)
    | (with_reducible intro hc)
    | (with_reducible refine GDsplit (fun hc => ?_) (fun hc => ?_) <;> try simp [hc])
    | (with_reducible refine GDsplitN (fun hc => ?_) (fun hc => ?_) <;> try simp [hc])
    | (with_reducible refine GDsplitNB (fun hc => ?_) (fun hc => ?_) <;> try simp [hc])
    | (with_reducible refine GDsplitB (fun hc => ?_) (fun hc => ?_) <;> try simp [hc])
    | (with_reducible refine GKsplit (fun hc => ?_) (fun hc => ?_) <;> try simp [hc])
    | (with_reducible refine GKsplitN (fun hc => ?_) (fun hc => ?_) <;> try simp [hc])
    | (with_reducible refine GKsplitNB (fun hc => ?_) (fun hc => ?_) <;> try simp [hc])
    | (with_reducible refine GKsplitB (fun hc => ?_) (fun hc => ?_) <;> try simp [hc])
    | (refine CallK.use (cc _) ?_; rintro r G' _ _ ⟨rfl, rfl⟩)
    | (refine CallK.use (dn _ _ _ _ _) ?_; rintro r G' _ _ ⟨rfl, rfl⟩)
    | (refine CallK.use (oc _) ?_; rintro r G' _ _ ⟨rfl, rfl⟩)
    | (refine CallK.use (sn _) ?_; rintro r G' _ _ ⟨rfl, rfl⟩)
    | (refine CallK.use (nn _ _) ?_; rintro r G' _ _ ⟨rfl, rfl⟩)
    | (refine CallK.use (clear_nil (G := _)) ?_; rintro r G' _ _ ⟨rfl, rfl⟩)
    | (refine CallK.use (waiting_nil (G := _)) ?_; rintro r G' _ _ ⟨rfl, rfl⟩)
    | (refine CallK.use (awake_c _) ?_; rintro r G' _ _ ⟨rfl, rfl⟩)
    | simp (disch := first | (with_reducible assumption) | (simp; done) | omega | (simp; omega)) [On.fl])
  exact ends_drop (by simp <;> rfl) (by simp) (hpost _ _ ⟨rfl, rfl⟩)
abbrev HT := Int × Int × Int × Unit
def toHo (x : HT) : Ho := ⟨x.1, x.2.1, x.2.2.1⟩
theorem ofS_ho (s : Option (List HT)) : ofS cHo (s.map fun l => l.map toHo) = ofS (fun x : HT => [AV.int .i64 x.1, .int .i64 x.2.1, .int .i64 x.2.2.1]) s := by
  cases s with
  | none => rfl
  | some l => simp only [Option.map_some, ofS, List.length_map, List.flatMap_map]; rfl
theorem LL_ho (s : Option (List HT)) : (LL (s.map fun l => l.map toHo)).length = (LL s).length := by
  cases s <;> simp [LL]
abbrev FT := Int × Int × (Int × Int × Int × Int × Int × Int × Int × Unit) × (Int × Int × Unit) × (Int × Int × Unit) × (ByteArray × ByteArray × Unit) × (ByteArray × ByteArray × Unit) × Int × Int × Option (List HT) × Unit
def toOn (x : FT) : On := ⟨x.1, x.2.1, x.2.2.1.1, x.2.2.1.2.1, x.2.2.1.2.2.1, x.2.2.1.2.2.2.1, x.2.2.1.2.2.2.2.1, x.2.2.1.2.2.2.2.2.1, x.2.2.1.2.2.2.2.2.2.1, x.2.2.2.1.1, x.2.2.2.1.2.1, x.2.2.2.2.1.1, x.2.2.2.2.1.2.1, x.2.2.2.2.2.1.1, x.2.2.2.2.2.1.2.1, x.2.2.2.2.2.2.1.1, x.2.2.2.2.2.2.1.2.1, x.2.2.2.2.2.2.2.1, x.2.2.2.2.2.2.2.2.1, x.2.2.2.2.2.2.2.2.2.1.map fun l => l.map toHo, 0, 0, 0, 0, 0, 0, 0, 0, 0, 0, 0, 0, 0, false, 0⟩
theorem fl_av (z : (TD.two (.int .u32) (.two (.int .u32) (.two (.two (.int .u64) (.two (.int .u64) (.two (.int .u32) (.two (.int .u32) (.two (.int .i64) (.two (.int .i64) (.two (.int .i64) .unit))))))) (.two (.two (.int .i64) (.two (.int .i64) .unit)) (.two (.two (.int .i64) (.two (.int .i64) .unit)) (.two (.two .str (.two .str .unit)) (.two (.two .str (.two .str .unit)) (.two (.int .i64) (.two (.int .i64) (.two (.slc (.two (.int .i64) (.two (.int .i64) (.two (.int .i64) .unit)))) .unit)))))))))).T) : (TD.two (.int .u32) (.two (.int .u32) (.two (.two (.int .u64) (.two (.int .u64) (.two (.int .u32) (.two (.int .u32) (.two (.int .i64) (.two (.int .i64) (.two (.int .i64) .unit))))))) (.two (.two (.int .i64) (.two (.int .i64) .unit)) (.two (.two (.int .i64) (.two (.int .i64) .unit)) (.two (.two .str (.two .str .unit)) (.two (.two .str (.two .str .unit)) (.two (.int .i64) (.two (.int .i64) (.two (.slc (.two (.int .i64) (.two (.int .i64) (.two (.int .i64) .unit)))) .unit)))))))))).av z = (toOn z).fl := by
  show AV.agg _ = AV.agg _
  simp only [toOn, ofS_ho]
  rfl
theorem planNil_law (z0 : (TD.two (.int .u32) (.two (.int .u32) (.two (.two (.int .u64) (.two (.int .u64) (.two (.int .u32) (.two (.int .u32) (.two (.int .i64) (.two (.int .i64) (.two (.int .i64) .unit))))))) (.two (.two (.int .i64) (.two (.int .i64) .unit)) (.two (.two (.int .i64) (.two (.int .i64) .unit)) (.two (.two .str (.two .str .unit)) (.two (.two .str (.two .str .unit)) (.two (.int .i64) (.two (.int .i64) (.two (.slc (.two (.int .i64) (.two (.int .i64) (.two (.int .i64) .unit)))) .unit)))))))))).T) (z1 : (TD.int .u32).T) (o0 : (TD.two (.int .u32) (.two (.int .u32) (.two (.two (.int .u64) (.two (.int .u64) (.two (.int .u32) (.two (.int .u32) (.two (.int .i64) (.two (.int .i64) (.two (.int .i64) .unit))))))) (.two (.two (.int .i64) (.two (.int .i64) .unit)) (.two (.two (.int .i64) (.two (.int .i64) .unit)) (.two (.two .str (.two .str .unit)) (.two (.two .str (.two .str .unit)) (.two (.int .i64) (.two (.int .i64) (.two (.slc (.two (.int .i64) (.two (.int .i64) (.two (.int .i64) .unit)))) .unit)))))))))).ok z0) (o1 : (TD.int .u32).ok z1) :
    ACalls Try.prog 6 [(TD.two (.int .u32) (.two (.int .u32) (.two (.two (.int .u64) (.two (.int .u64) (.two (.int .u32) (.two (.int .u32) (.two (.int .i64) (.two (.int .i64) (.two (.int .i64) .unit))))))) (.two (.two (.int .i64) (.two (.int .i64) .unit)) (.two (.two (.int .i64) (.two (.int .i64) .unit)) (.two (.two .str (.two .str .unit)) (.two (.two .str (.two .str .unit)) (.two (.int .i64) (.two (.int .i64) (.two (.slc (.two (.int .i64) (.two (.int .i64) (.two (.int .i64) .unit)))) .unit)))))))))).av z0, (TD.int .u32).av z1] emptyH fun r G' => G' = emptyH ∧ r = .bool true := by
  rw [fl_av]
  refine planNil_c (v := toOn z0) (sq := z1) ?_
  show (LL (Option.map _ _)).length ≤ _
  rw [LL_ho]
  exact o0.2.2.2.2.2.2.2.2.2.1.1
end Go.Proofs.Ytgideonigiokbaa
