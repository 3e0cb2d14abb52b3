import Derived.Test.YtfllkpdhkeiofaaD4K
set_option linter.unusedSimpArgs false
set_option linter.unusedVariables false
namespace Go.Proofs.Ytfllkpdhkeiofaa
open Go Go.Al
set_option maxRecDepth 20000
attribute [local irreducible] awp aops aopsD eop pv ACalls CallK AppK AEnds ti

theorem fI3 {a b c : Int} : AV.sl 3 [.int .i64 a, .int .i64 b, .int .i64 c] = ofS cI (some [a, b, c]) := nrfl rfl
theorem fI2 {a b : Int} : AV.sl 2 [.int .i64 a, .int .i64 b] = ofS cI (some [a, b]) := nrfl rfl
theorem pnewE {n : Int} {m : Int} (hm : clampP n = m) : ACalls Try.prog 7 [.int .i64 n] emptyH fun r G' => ∃ pb, r = .ptr pb 0 ∧ PipeH pb G' ⟨[], m, 0, 0, 0, 0⟩ := by subst hm; exact pnew_c
theorem psendE {pb : Nat} {G : Hp} {x y : PS} {n : Int} {s : Option (List Int)} (hp : PipeH pb G x) (hx : x.ok (LL s).length) (hs : (LL s).length ≤ 1000000) (hy : x.send (LL s) = y) (hn : (x.sent (LL s) : Int) = n) :
    ACalls Try.prog 8 [.ptr pb 0, ofS cI s] G fun r G' => PipeH pb G' y ∧ r = .int .i64 n := by subst hy; subst hn; exact psend_c hp hx hs
theorem ptwiceE {pb : Nat} {G : Hp} {x y : PS} {i : Int} {b : Bool} (hp : PipeH pb G x) (hx : x.ok 1) (hy : x.twice i = y) (hb : (x.room && (atL x.L i).isSome) = b) :
    ACalls Try.prog 11 [.ptr pb 0, .int .i64 i] G fun r G' => PipeH pb G' y ∧ r = .bool b := by subst hy; subst hb; exact ptwice_c hp hx
theorem ploseE {pb : Nat} {G : Hp} {x y : PS} {n : Int} {s : Option (List Int)} (hp : PipeH pb G x) (hx : x.ok (LL s).length) (hs : (LL s).length ≤ 1000000) (hy : x.lose (LL s) = y) (hn : (x.lostN (LL s) : Int) = n) :
    ACalls Try.prog 12 [.ptr pb 0, ofS cI s] G fun r G' => PipeH pb G' y ∧ r = .int .i64 n := by subst hy; subst hn; exact plose_c hp hx hs
theorem ptakeE {pb : Nat} {G : Hp} {x y : PS} {i v : Int} {b : Bool} (hp : PipeH pb G x) (hx : x.ok 1) (hy : x.take i = y) (hv : (atL x.L i).getD 0 = v) (hb : (atL x.L i).isSome = b) :
    ACalls Try.prog 9 [.ptr pb 0, .int .i64 i] G fun r G' => PipeH pb G' y ∧ r = .tup [.int .i64 v, .bool b] := by subst hy; subst hv; subst hb; exact ptake_c hp hx

set_option maxHeartbeats 1000000 in
theorem awake_0 : ACalls Try.prog 15 [] emptyH fun r G' => G' = emptyH ∧ r = .bool true := by
  refine ACalls.hide fun post hpost => ?_
  refine F15_in (by simp) (by simp) fun hbd => ?_
  repeat' (first
    | refine awp_seqK fun K' hpK => ?_
    | refine awp_block ?_
    | refine awp_condG fun A' B' hpA hpB => ?_
    | refine useK (by with_reducible assumption) ?_
    | refine useP (by with_reducible assumption) ?_
    | refine ED_cons (fun _ => ?_) ?_
    | (refine stable_mk ?_; simp (disch := first | (with_reducible assumption) | (simp; done) | omega | (simp; omega)) [fI1, fI3]; done)
    | (refine stable_no ?_; simp (disch := first | (with_reducible assumption) | (simp; done) | omega | (simp; omega)) [fI1, fI3]; done)
    | (with_reducible refine And.intro ?_ ?_)
    | (with_reducible intro hc)
    | (with_reducible refine GDsplit (fun hc => ?_) (fun hc => ?_) <;> try simp [hc])
    | (with_reducible refine GDsplitN (fun hc => ?_) (fun hc => ?_) <;> try simp [hc])
    | (with_reducible refine GDsplitNB (fun hc => ?_) (fun hc => ?_) <;> try simp [hc])
    | (with_reducible refine GDsplitB (fun hc => ?_) (fun hc => ?_) <;> try simp [hc])
    | (with_reducible refine GKsplit (fun hc => ?_) (fun hc => ?_) <;> try simp [hc])
    | (with_reducible refine GKsplitN (fun hc => ?_) (fun hc => ?_) <;> try simp [hc])
    | (with_reducible refine GKsplitNB (fun hc => ?_) (fun hc => ?_) <;> try simp [hc])
    | (with_reducible refine GKsplitB (fun hc => ?_) (fun hc => ?_) <;> try simp [hc])
    | (refine CallK.use (pnewE (m := 2) rfl) ?_; rintro r G' _ _ ⟨pb, rfl, hp⟩)
    | (refine CallK.use (psendE (s := some [5, 6, 7]) (y := ⟨[5, 6], 2, 3, 0, 0, 1⟩) (n := 2) hp (by simp [PS.ok, LL]) (by simp [LL]) (by decide) (by decide)) ?_; rintro r G' _ _ ⟨hp, rfl⟩)
    | (refine CallK.use (ptwiceE (y := ⟨[5, 6], 2, 3, 0, 0, 1⟩) (b := false) hp (by simp [PS.ok]) (by decide) (by decide)) ?_; rintro r G' _ _ ⟨hp, rfl⟩)
    | (refine CallK.use (ploseE (s := some [0]) (y := ⟨[6], 2, 3, 0, 0, 2⟩) (n := 1) hp (by simp [PS.ok, LL]) (by simp [LL]) (by decide) (by decide)) ?_; rintro r G' _ _ ⟨hp, rfl⟩)
    | (refine CallK.use (ptakeE (y := ⟨[], 2, 3, 1, 0, 2⟩) (v := 6) (b := true) hp (by simp [PS.ok]) (by decide) (by decide) (by decide)) ?_; rintro r G' _ _ ⟨hp, rfl⟩)
    | (refine CallK.use (pcounts_c hp) ?_; rintro r G' _ _ ⟨rfl, rfl⟩)
    | exact ends_drop (by simp <;> rfl) (by simp) (hpost _ _ ⟨rfl, rfl⟩)
    | simp (disch := first | (with_reducible assumption) | (simp; done) | omega | (simp; omega)) [fI1, fI3])
theorem awake_c (G : Hp) : ACalls Try.prog 15 [] G fun r G' => G' = G ∧ r = .bool true := awake_0.pure G
end Go.Proofs.Ytfllkpdhkeiofaa
