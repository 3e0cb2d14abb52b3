import Derived.Test.YtmomphnkngbgjaaD31K
import Derived.Test.YtmomphnkngbgjaaD32K
import Derived.Test.YtmomphnkngbgjaaD33K
set_option linter.unusedSimpArgs false
set_option linter.unusedVariables false
namespace Go.Proofs.Ytmomphnkngbgjaa
open Go Go.Al
set_option maxRecDepth 20000
attribute [local irreducible] awp aops aopsD eop pv ACalls CallK AppK AEnds ti

set_option maxHeartbeats 2000000 in
theorem step_c {pb : Nat} {G : Hp} {L : List (Int × Bd)} {t : Option (List Bd)} {kd sw port n : Int} {b : Bd} {nm : ByteArray} (hP : TH pb G L) (hj : JB L) (hl : L.length ≤ 60) (ht : LL t = L.map Prod.snd) : ACalls Try.prog 9 [.ptr pb 0, ofS cVB t, opA kd b sw port nm n] G fun r G' => ∃ t', r = .tup [ofS cVB t', .bool true] ∧ TH pb G' (stepL kd b sw port nm n L) ∧ LL t' = (stepL kd b sw port nm n L).map Prod.snd := by
  by_cases k0 : kd = 0
  · subst k0; exact step_0 hP hj hl ht
  by_cases k1 : kd = 1
  · subst k1; exact step_1 hP hj hl ht
  by_cases k2 : kd = 2
  · subst k2; exact step_2 hP hj hl ht
  by_cases k3 : kd = 3
  · subst k3; exact step_3 hP hj hl ht
  by_cases k4 : kd = 4
  · subst k4; exact step_4 hP hj hl ht
  by_cases k5 : kd = 5
  · subst k5; exact step_5 hP hj hl ht
  by_cases k6 : kd = 6
  · subst k6; exact step_6 hP hj hl ht
  by_cases k7 : kd = 7
  · subst k7; exact step_7 hP hj hl ht
  by_cases k8 : kd = 8
  · subst k8; exact step_8 hP hj hl ht
  have e : stepL kd b sw port nm n L = L := by simp [stepL, k0, k1, k2, k3, k4, k5, k6, k7, k8]
  rw [e]
  refine ACalls.hide fun post hpost => ?_
  refine F9_in (by simp) (by simp) fun hbd => ?_
  repeat' (first
    | refine awp_seqK fun K' hpK => ?_
    | refine awp_block ?_
    | refine awp_condG fun A' B' hpA hpB => ?_
    | refine useK (by with_reducible assumption) ?_
    | refine useP (by with_reducible assumption) ?_
    | refine ED_cons (fun _ => ?_) ?_
    | (refine stable_mk ?_; simp (disch := first | (with_reducible assumption) | (simp; done) | omega | (simp; omega)) [k0, k1, k2, k3, k4, k5, k6, k7, k8]; done)
    | (refine stable_no ?_; simp (disch := first | (with_reducible assumption) | (simp; done) | omega | (simp; omega)) [k0, k1, k2, k3, k4, k5, k6, k7, k8]; done)
    | (with_reducible refine And.intro ?_ ?_)
    | (with_reducible intro hc)
    | (with_reducible refine GDsplit (fun hc => ?_) (fun hc => ?_) <;> try simp [hc])
    | (with_reducible refine GDsplitN (fun hc => ?_) (fun hc => ?_) <;> try simp [hc])
    | (with_reducible refine GDsplitNB (fun hc => ?_) (fun hc => ?_) <;> try simp [hc])
    | (with_reducible refine GDsplitB (fun hc => ?_) (fun hc => ?_) <;> try simp [hc])
    | (with_reducible refine GKsplit (fun hc => ?_) (fun hc => ?_) <;> try simp [hc])
    | (with_reducible refine GKsplitN (fun hc => ?_) (fun hc => ?_) <;> try simp [hc])
    | (with_reducible refine GKsplitNB (fun hc => ?_) (fun hc => ?_) <;> try simp [hc])
    | (with_reducible refine GKsplitB (fun hc => ?_) (fun hc => ?_) <;> try simp [hc])
    | simp (disch := first | (with_reducible assumption) | (simp; done) | omega | (simp; omega)) [k0, k1, k2, k3, k4, k5, k6, k7, k8])
  exact ends_two (by simp <;> exact ⟨rfl, rfl⟩) (by simp) (by simp) (hpost _ _ ⟨t, rfl, hP, ht⟩)
end Go.Proofs.Ytmomphnkngbgjaa
