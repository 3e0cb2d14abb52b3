import Derived.Test.YteifakkknhfdpaaD2K
import Derived.Test.YteifakkknhfdpaaD3K
set_option linter.unusedSimpArgs false
set_option linter.unusedVariables false
namespace Go.Proofs.Yteifakkknhfdpaa
open Go Go.Al
set_option maxRecDepth 20000
attribute [local irreducible] awp aops aopsD eop pv ACalls CallK AppK AEnds ti

theorem fI1 {a : Int} : AV.sl 1 [.int .i64 a] = ofS cI (some [a]) := nrfl rfl
theorem fI2 {a b : Int} : AV.sl 2 [.int .i64 a, .int .i64 b] = ofS cI (some [a, b]) := nrfl rfl
theorem newringE {n m : Int} (hm : maxR n = m) : ACalls Try.prog 15 [.int .i64 n] emptyH fun r h' => ∃ rb, r = .ptr rb 0 ∧ RingH rb h' [] m := by subst hm; exact newring_c
theorem putE {rb : Nat} {h : Hp} {l m : List Int} {mx : Int} {b : Bool} {s : Option (List Int)} (hr : RingH rb h l mx) (hl : l.length ≤ 1000000) (hs : (LL s).length ≤ 1000000) (hm : -9223372036854775808 + 1000000 ≤ mx) (hm2 : mx ≤ 9223372036854775807) (e1 : (if (LL s).length ≤ mx - l.length then l ++ LL s else l) = m) (e2 : decide (((LL s).length : Int) ≤ mx - l.length) = b) :
    ACalls Try.prog 24 [.ptr rb 0, ofS cI s] h fun r h' => RingH rb h' m mx ∧ r = .bool b := by subst e1; subst e2; exact put_c hr hl hs hm hm2
theorem pushE {rb : Nat} {h : Hp} {l m : List Int} {mx v w : Int} {b : Bool} (hr : RingH rb h l mx) (hl : l.length ≤ 1000000) (e1 : pushL l mx v = m) (e2 : pushV l mx v = w) (e3 : pushB l mx = b) : ACalls Try.prog 19 [.ptr rb 0, .int .i64 v] h fun r h' => RingH rb h' m mx ∧ r = .tup [.int .i64 w, .bool b] := by subst e1; subst e2; subst e3; exact push_c hr hl
theorem rcutE {rb : Nat} {h : Hp} {l m : List Int} {mx i v : Int} {b : Bool} (hr : RingH rb h l mx) (hl : l.length ≤ 1000000) (e1 : cutAt l i = m) (e2 : (atL l i).getD 0 = v) (e3 : (atL l i).isSome = b) : ACalls Try.prog 21 [.ptr rb 0, .int .i64 i] h fun r h' => RingH rb h' m mx ∧ r = .tup [.int .i64 v, .bool b] := by subst e1; subst e2; subst e3; exact rcut_c hr hl

set_option maxHeartbeats 1000000 in
theorem awake_0 : ACalls Try.prog 11 [] emptyH fun r G' => G' = emptyH ∧ r = .bool true := by
  refine ACalls.hide fun post hpost => ?_
  refine F11_in (by simp) (by simp) fun hbd => ?_
  repeat' (first
    | refine awp_seqK fun K' hpK => ?_
    | refine awp_block ?_
    | refine awp_condG fun A' B' hpA hpB => ?_
    | refine useK (by with_reducible assumption) ?_
    | refine useP (by with_reducible assumption) ?_
    | refine ED_cons (fun _ => ?_) ?_
    | (refine stable_mk ?_; simp (disch := first | (with_reducible assumption) | (simp; done) | omega | (simp; omega)) [fI2, LIM]; done)
    | (refine stable_no ?_; simp (disch := first | (with_reducible assumption) | (simp; done) | omega | (simp; omega)) [fI2, LIM]; done)
    | (with_reducible refine And.intro ?_ ?_)
    | (with_reducible intro hc)
    | (with_reducible refine GDsplit (fun hc => ?_) (fun hc => ?_) <;> try simp [hc])
    | (with_reducible refine GDsplitN (fun hc => ?_) (fun hc => ?_) <;> try simp [hc])
    | (with_reducible refine GDsplitNB (fun hc => ?_) (fun hc => ?_) <;> try simp [hc])
    | (with_reducible refine GDsplitB (fun hc => ?_) (fun hc => ?_) <;> try simp [hc])
    | (with_reducible refine GKsplit (fun hc => ?_) (fun hc => ?_) <;> try simp [hc])
    | (with_reducible refine GKsplitN (fun hc => ?_) (fun hc => ?_) <;> try simp [hc])
    | (with_reducible refine GKsplitNB (fun hc => ?_) (fun hc => ?_) <;> try simp [hc])
    | (with_reducible refine GKsplitB (fun hc => ?_) (fun hc => ?_) <;> try simp [hc])
    | (refine CallK.use (newringE (m := 2) rfl) ?_; rintro r G' _ _ ⟨rb, rfl, hr⟩)
    | (refine CallK.use (putE (s := some [1, 2]) (m := [1, 2]) (b := true) hr (by simp) (by simp) (by omega) (by omega) (by decide) (by decide)) ?_; rintro r G' _ _ ⟨hr, rfl⟩)
    | (refine CallK.use (pushE (m := [2, 3]) (w := 1) (b := true) hr (by simp) (by decide) (by decide) (by decide)) ?_; rintro r G' _ _ ⟨hr, rfl⟩)
    | (refine CallK.use (rcutE (m := [3]) (v := 2) (b := true) hr (by simp) (by decide) (by decide) (by decide)) ?_; rintro r G' _ _ ⟨hr, rfl⟩)
    | simp (disch := first | (with_reducible assumption) | (simp; done) | omega | (simp; omega)) [fI2, LIM])
  refine CallK.new (newS_E (m := 9) rfl) ?_
  rintro r h' hdis _ _ ⟨sb, rfl, hs⟩
  repeat' (first
    | refine awp_seqK fun K' hpK => ?_
    | refine awp_block ?_
    | refine awp_condG fun A' B' hpA hpB => ?_
    | refine useK (by with_reducible assumption) ?_
    | refine useP (by with_reducible assumption) ?_
    | refine ED_cons (fun _ => ?_) ?_
    | (refine stable_mk ?_; simp (disch := first | (with_reducible assumption) | (simp; done) | omega | (simp; omega)) [LIM]; done)
    | (refine stable_no ?_; simp (disch := first | (with_reducible assumption) | (simp; done) | omega | (simp; omega)) [LIM]; done)
    | (with_reducible refine And.intro ?_ ?_)
    | (with_reducible intro hc)
    | (with_reducible refine GDsplit (fun hc => ?_) (fun hc => ?_) <;> try simp [hc])
    | (with_reducible refine GDsplitN (fun hc => ?_) (fun hc => ?_) <;> try simp [hc])
    | (with_reducible refine GDsplitNB (fun hc => ?_) (fun hc => ?_) <;> try simp [hc])
    | (with_reducible refine GDsplitB (fun hc => ?_) (fun hc => ?_) <;> try simp [hc])
    | (with_reducible refine GKsplit (fun hc => ?_) (fun hc => ?_) <;> try simp [hc])
    | (with_reducible refine GKsplitN (fun hc => ?_) (fun hc => ?_) <;> try simp [hc])
    | (with_reducible refine GKsplitNB (fun hc => ?_) (fun hc => ?_) <;> try simp [hc])
    | (with_reducible refine GKsplitB (fun hc => ?_) (fun hc => ?_) <;> try simp [hc])
    | (refine CallK.fr (setS_E (M := [(5, ⟨#[97]⟩)]) (e := 0) hs (by simp) (by decide) (by decide)) hdis ?_; rintro r h' hdis _ _ ⟨hs1, rfl⟩)
    | (refine CallK.fr (setS_E (M := [(3, ⟨#[98]⟩), (5, ⟨#[97]⟩)]) (e := 0) hs1 (by simp) (by decide) (by decide)) hdis ?_; rintro r h' hdis _ _ ⟨hs2, rfl⟩)
    | simp (disch := first | (with_reducible assumption) | (simp; done) | omega | (simp; omega)) [LIM])
  refine CallK.fr (nextS_c hs2 (by simp)) hdis ?_
  rintro r h' hdis _ _ ⟨rfl, rfl⟩
  rw [show nextL ([(3, ⟨#[98]⟩), (5, ⟨#[97]⟩)] : List (Int × ByteArray)) 3 = some (5, ⟨#[97]⟩) by decide]
  repeat' (first
    | refine awp_seqK fun K' hpK => ?_
    | refine awp_block ?_
    | refine awp_condG fun A' B' hpA hpB => ?_
    | refine useK (by with_reducible assumption) ?_
    | refine useP (by with_reducible assumption) ?_
    | refine ED_cons (fun _ => ?_) ?_
    | (refine stable_mk ?_; simp (disch := first | (with_reducible assumption) | (simp; done) | omega | (simp; omega)) [LIM]; done)
    | (refine stable_no ?_; simp (disch := first | (with_reducible assumption) | (simp; done) | omega | (simp; omega)) [LIM]; done)
    | (with_reducible refine And.intro ?_ ?_)
    | (with_reducible intro hc)
    | (with_reducible refine GDsplit (fun hc => ?_) (fun hc => ?_) <;> try simp [hc])
    | (with_reducible refine GDsplitN (fun hc => ?_) (fun hc => ?_) <;> try simp [hc])
    | (with_reducible refine GDsplitNB (fun hc => ?_) (fun hc => ?_) <;> try simp [hc])
    | (with_reducible refine GDsplitB (fun hc => ?_) (fun hc => ?_) <;> try simp [hc])
    | (with_reducible refine GKsplit (fun hc => ?_) (fun hc => ?_) <;> try simp [hc])
    | (with_reducible refine GKsplitN (fun hc => ?_) (fun hc => ?_) <;> try simp [hc])
    | (with_reducible refine GKsplitNB (fun hc => ?_) (fun hc => ?_) <;> try simp [hc])
    | (with_reducible refine GKsplitB (fun hc => ?_) (fun hc => ?_) <;> try simp [hc])
    | simp (disch := first | (with_reducible assumption) | (simp; done) | omega | (simp; omega)) [LIM])
  refine CallK.fr (keysS_c hs2 (by simp)) hdis ?_
  rintro r h' hdis _ _ ⟨rfl, sk, rfl, hsk⟩
  have hsl : (LL sk).length = 2 := by rw [hsk]; rfl
  have hs0 : (LL sk)[0] = 3 := by simp only [hsk]; rfl
  repeat' (first
    | refine awp_seqK fun K' hpK => ?_
    | refine awp_block ?_
    | refine awp_condG fun A' B' hpA hpB => ?_
    | refine useK (by with_reducible assumption) ?_
    | refine useP (by with_reducible assumption) ?_
    | refine ED_cons (fun _ => ?_) ?_
    | (refine stable_mk ?_; simp (disch := first | (with_reducible assumption) | (simp; done) | omega | (simp; omega)) [LIM, hsl, hs0, ofS_idx (f := cKS), cKS]; done)
    | (refine stable_no ?_; simp (disch := first | (with_reducible assumption) | (simp; done) | omega | (simp; omega)) [LIM, hsl, hs0, ofS_idx (f := cKS), cKS]; done)
    | (with_reducible refine And.intro ?_ ?_)
    | (with_reducible intro hc)
    | (with_reducible refine GDsplit (fun hc => ?_) (fun hc => ?_) <;> try simp [hc])
    | (with_reducible refine GDsplitN (fun hc => ?_) (fun hc => ?_) <;> try simp [hc])
    | (with_reducible refine GDsplitNB (fun hc => ?_) (fun hc => ?_) <;> try simp [hc])
    | (with_reducible refine GDsplitB (fun hc => ?_) (fun hc => ?_) <;> try simp [hc])
    | (with_reducible refine GKsplit (fun hc => ?_) (fun hc => ?_) <;> try simp [hc])
    | (with_reducible refine GKsplitN (fun hc => ?_) (fun hc => ?_) <;> try simp [hc])
    | (with_reducible refine GKsplitNB (fun hc => ?_) (fun hc => ?_) <;> try simp [hc])
    | (with_reducible refine GKsplitB (fun hc => ?_) (fun hc => ?_) <;> try simp [hc])
    | simp (disch := first | (with_reducible assumption) | (simp; done) | omega | (simp; omega)) [LIM, hsl, hs0, ofS_idx (f := cKS), cKS])
  exact ends_drop (by simp <;> rfl) (by simp) (hpost _ _ ⟨rfl, rfl⟩)
theorem awake_c (G : Hp) : ACalls Try.prog 11 [] G fun r G' => G' = G ∧ r = .bool true := awake_0.pure G
end Go.Proofs.Yteifakkknhfdpaa
