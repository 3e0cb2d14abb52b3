import Derived.Test.YtapocekfkbkefaaC1K
import Derived.Test.YtapocekfkbkefaaC2K
import Derived.Test.YtapocekfkbkefaaC3K
import Derived.Test.YtapocekfkbkefaaC4K
import Derived.Test.YtapocekfkbkefaaC5K
import Derived.Test.YtapocekfkbkefaaSLK
import Derived.Test.YtapocekfkbkefaaD2K
set_option linter.unusedSimpArgs false
set_option linter.unusedVariables false
namespace Go.Proofs.Ytapocekfkbkefaa
open Go Go.Al
set_option maxRecDepth 20000
attribute [local irreducible] awp aops aopsD eop pv ACalls CallK AppK AEnds ti

/-- the shelf int, ostiary/view.seen -/
def cSS (p : Int × Sn) : List AV := .int .i64 p.1 :: [.int .i64 p.2.a1, .int .i64 p.2.a2, .int .i64 p.2.b1, .int .i64 p.2.b2, .int .i64 p.2.t]
@[simp] theorem cSS_len (p : Int × Sn) : (cSS p).length = 6 := by simp [cSS]
@[simp] theorem cSS_scal (p : Int × Sn) : (cSS p).all AV.scal = true := by simp [cSS]
def cKS (k : Int) : List AV := [.int .i64 k]
@[simp] theorem cKS_len (k : Int) : (cKS k).length = 1 := by simp [cKS]
def cVS (v : Sn) : List AV := [.int .i64 v.a1, .int .i64 v.a2, .int .i64 v.b1, .int .i64 v.b2, .int .i64 v.t]
@[simp] theorem cVS_len (v : Sn) : (cVS v).length = 5 := by simp [cVS]
def zVS : Sn := ⟨0, 0, 0, 0, 0⟩
def SHBS (sb : Nat) (out : AV) (h : Hp) (L : List (Int × Sn)) (mx : Int) : Prop := Grow cSS 6 (one sb (0, [out, .int .i64 mx])) h out L
def SHS (sb : Nat) (h : Hp) (L : List (Int × Sn)) (mx : Int) : Prop := (∃ out, SHBS sb out h L mx) ∧ Srt L
theorem SHBS.at {sb : Nat} {out : AV} {h : Hp} {L : List (Int × Sn)} {mx : Int} (k : SHBS sb out h L mx) : h sb = some (0, [out, .int .i64 mx]) := Grow.base k (one_same ..)
theorem cSS_k (p : Int × Sn) : (cSS p).drop 1 = cVS p.2 := by simp [cSS, cVS]

theorem newS_c {n : Int} : ACalls Try.prog 21 [.int .i64 n] emptyH fun r h' => ∃ sb, r = .ptr sb 0 ∧ SHS sb h' [] (maxR0 n) := by
  refine ACalls.hide fun post hpost => ?_
  refine F21_in (by simp) (by simp) fun hbd => ?_
  repeat' (first
    | refine awp_seqK fun K' hpK => ?_
    | refine awp_block ?_
    | refine awp_condG fun A' B' hpA hpB => ?_
    | refine useK (by with_reducible assumption) ?_
    | refine useP (by with_reducible assumption) ?_
    | refine ED_cons (fun _ => ?_) ?_
    | (refine stable_mk ?_; simp (disch := first | (with_reducible assumption) | (simp; done) | omega | (simp; omega)); done)
    | (refine stable_no ?_; simp (disch := first | (with_reducible assumption) | (simp; done) | omega | (simp; omega)); done)
    | (with_reducible refine And.intro ?_ ?_)
    | (with_reducible intro hc)
    | (with_reducible refine GDsplit (fun hc => ?_) (fun hc => ?_) <;> try simp [hc])
    | (with_reducible refine GDsplitN (fun hc => ?_) (fun hc => ?_) <;> try simp [hc])
    | (with_reducible refine GDsplitNB (fun hc => ?_) (fun hc => ?_) <;> try simp [hc])
    | (with_reducible refine GDsplitB (fun hc => ?_) (fun hc => ?_) <;> try simp [hc])
    | (with_reducible refine GKsplit (fun hc => ?_) (fun hc => ?_) <;> try simp [hc])
    | (with_reducible refine GKsplitN (fun hc => ?_) (fun hc => ?_) <;> try simp [hc])
    | (with_reducible refine GKsplitNB (fun hc => ?_) (fun hc => ?_) <;> try simp [hc])
    | (with_reducible refine GKsplitB (fun hc => ?_) (fun hc => ?_) <;> try simp [hc])
    | simp (disch := first | (with_reducible assumption) | (simp; done) | omega | (simp; omega)))
  intro sb hsb
  refine ⟨0, ?_⟩
  repeat' (first
    | refine awp_seqK fun K' hpK => ?_
    | refine awp_block ?_
    | refine awp_condG fun A' B' hpA hpB => ?_
    | refine useK (by with_reducible assumption) ?_
    | refine useP (by with_reducible assumption) ?_
    | refine ED_cons (fun _ => ?_) ?_
    | (refine stable_mk ?_; simp (disch := first | (with_reducible assumption) | (simp; done) | omega | (simp; omega)); done)
    | (refine stable_no ?_; simp (disch := first | (with_reducible assumption) | (simp; done) | omega | (simp; omega)); done)
    | (with_reducible refine And.intro ?_ ?_)
    | (with_reducible intro hc)
    | (with_reducible refine GDsplit (fun hc => ?_) (fun hc => ?_) <;> try simp [hc])
    | (with_reducible refine GDsplitN (fun hc => ?_) (fun hc => ?_) <;> try simp [hc])
    | (with_reducible refine GDsplitNB (fun hc => ?_) (fun hc => ?_) <;> try simp [hc])
    | (with_reducible refine GDsplitB (fun hc => ?_) (fun hc => ?_) <;> try simp [hc])
    | (with_reducible refine GKsplit (fun hc => ?_) (fun hc => ?_) <;> try simp [hc])
    | (with_reducible refine GKsplitN (fun hc => ?_) (fun hc => ?_) <;> try simp [hc])
    | (with_reducible refine GKsplitNB (fun hc => ?_) (fun hc => ?_) <;> try simp [hc])
    | (with_reducible refine GKsplitB (fun hc => ?_) (fun hc => ?_) <;> try simp [hc])
    | simp (disch := first | (with_reducible assumption) | (simp; done) | omega | (simp; omega)))
  refine ends_one (by simp <;> rfl) (by simp) (hpost _ _ ⟨sb, rfl, ⟨.nils, ?_⟩, Srt.nil⟩)
  exact Grow.nil _ _

set_option maxHeartbeats 1000000 in
theorem findS_c {sb : Nat} {h : Hp} {L : List (Int × Sn)} {mx : Int} {k : Int} (hs : SHS sb h L mx) (hl : L.length ≤ 1000000) : ACalls Try.prog 49 [.ptr sb 0, .int .i64 k] h fun r h' => h' = h ∧ r = .tup [.int .i64 (posL L k), .bool (hasL L k)] := by
  obtain ⟨⟨out, hg⟩, hS⟩ := hs
  have hat := hg.at
  have hpo := Grow.plain hg
  have hal := fun {t : TypeId} => Grow.len (P := Try.prog) (t := t) hg
  refine ACalls.hide fun post hpost => ?_
  refine F49_in (by simp) (by simp) fun hbd => ?_
  repeat' (first
    | refine awp_seqK fun K' hpK => ?_
    | refine awp_block ?_
    | refine awp_condG fun A' B' hpA hpB => ?_
    | refine useK (by with_reducible assumption) ?_
    | refine useP (by with_reducible assumption) ?_
    | refine ED_cons (fun _ => ?_) ?_
    | (refine stable_mk ?_; simp (disch := first | (with_reducible assumption) | (simp; done) | omega | (simp; omega)) [hat, hpo, hal]; done)
    | (refine stable_no ?_; simp (disch := first | (with_reducible assumption) | (simp; done) | omega | (simp; omega)) [hat, hpo, hal]; done)
    | (with_reducible refine And.intro ?_ ?_)
    | (with_reducible intro hc)
    | (with_reducible refine GDsplit (fun hc => ?_) (fun hc => ?_) <;> try simp [hc])
    | (with_reducible refine GDsplitN (fun hc => ?_) (fun hc => ?_) <;> try simp [hc])
    | (with_reducible refine GDsplitNB (fun hc => ?_) (fun hc => ?_) <;> try simp [hc])
    | (with_reducible refine GDsplitB (fun hc => ?_) (fun hc => ?_) <;> try simp [hc])
    | (with_reducible refine GKsplit (fun hc => ?_) (fun hc => ?_) <;> try simp [hc])
    | (with_reducible refine GKsplitN (fun hc => ?_) (fun hc => ?_) <;> try simp [hc])
    | (with_reducible refine GKsplitNB (fun hc => ?_) (fun hc => ?_) <;> try simp [hc])
    | (with_reducible refine GKsplitB (fun hc => ?_) (fun hc => ?_) <;> try simp [hc])
    | simp (disch := first | (with_reducible assumption) | (simp; done) | omega | (simp; omega)) [hat, hpo, hal])
  refine awp_loop' (fun w T G' => ∃ lo hi : Nat, hi - lo = w ∧ lo ≤ posL L k ∧ posL L k ≤ hi ∧ hi ≤ L.length ∧ G' = h ∧ T = ofL [(0, .ptr sb 0), (1, .int .i64 k), (6, .int .i64 lo), (7, .int .i64 hi)]) L.length ⟨0, L.length, by omega, by omega, posL_le L k, by omega, rfl, by simp⟩ ?_
  rintro w T G' ⟨lo, hi, hw, h1, h2, h3, rfl, rfl⟩ N hN
  by_cases hlt : lo < hi
  · obtain ⟨m, hm, hm1, hm2⟩ : ∃ m : Nat, (lo : Int) + ((hi : Int) - lo).tdiv 2 = m ∧ lo ≤ m ∧ m < hi := ⟨lo + (hi - lo) / 2, by rw [Int.tdiv_eq_ediv_of_nonneg (by omega)]; omega, by omega, by omega⟩
    have hmL : m < L.length := by omega
    obtain ⟨b, τ, hb, rfl, hG⟩ := Grow.ms hg (by intro h; subst h; simp at hmL)
    have hatb : G' b = some (τ, L.flatMap cSS) := by rw [hG, setH_same]
    have hd := flat_at0 (f := cSS) (sz := 6) (by simp) hmL
    have hpl := posL_lt hS (k := k) hmL
    by_cases hmp : m < posL L k
    · have hk : (L[m]).1 < k := by have := hpl; rw [KO_int, decide_eq_true hmp] at this; exact of_decide_eq_true this
      repeat' (first
        | refine awp_seqK fun K' hpK => ?_
        | refine awp_block ?_
        | refine awp_condG fun A' B' hpA hpB => ?_
        | refine useK (by with_reducible assumption) ?_
        | refine useP (by with_reducible assumption) ?_
        | refine ED_cons (fun _ => ?_) ?_
        | (refine stable_mk ?_; simp (disch := first | (with_reducible assumption) | (simp; done) | omega | (simp; omega)) [hlt, hm, hat, hatb, hd, cSS, hk]; done)
        | (refine stable_no ?_; simp (disch := first | (with_reducible assumption) | (simp; done) | omega | (simp; omega)) [hlt, hm, hat, hatb, hd, cSS, hk]; done)
        | (with_reducible refine And.intro ?_ ?_)
        | (with_reducible intro hc)
        | (with_reducible refine GDsplit (fun hc => ?_) (fun hc => ?_) <;> try simp [hc])
        | (with_reducible refine GDsplitN (fun hc => ?_) (fun hc => ?_) <;> try simp [hc])
        | (with_reducible refine GDsplitNB (fun hc => ?_) (fun hc => ?_) <;> try simp [hc])
        | (with_reducible refine GDsplitB (fun hc => ?_) (fun hc => ?_) <;> try simp [hc])
        | (with_reducible refine GKsplit (fun hc => ?_) (fun hc => ?_) <;> try simp [hc])
        | (with_reducible refine GKsplitN (fun hc => ?_) (fun hc => ?_) <;> try simp [hc])
        | (with_reducible refine GKsplitNB (fun hc => ?_) (fun hc => ?_) <;> try simp [hc])
        | (with_reducible refine GKsplitB (fun hc => ?_) (fun hc => ?_) <;> try simp [hc])
        | simp (disch := first | (with_reducible assumption) | (simp; done) | omega | (simp; omega)) [hlt, hm, hat, hatb, hd, cSS, hk])
      exact hN (hi - (m + 1)) _ _ (by omega) ⟨m + 1, hi, rfl, by omega, h2, h3, rfl, by simp⟩
    · have hk : ¬ (L[m]).1 < k := by have := hpl; rw [KO_int, decide_eq_false hmp] at this; exact of_decide_eq_false this
      repeat' (first
        | refine awp_seqK fun K' hpK => ?_
        | refine awp_block ?_
        | refine awp_condG fun A' B' hpA hpB => ?_
        | refine useK (by with_reducible assumption) ?_
        | refine useP (by with_reducible assumption) ?_
        | refine ED_cons (fun _ => ?_) ?_
        | (refine stable_mk ?_; simp (disch := first | (with_reducible assumption) | (simp; done) | omega | (simp; omega)) [hlt, hm, hat, hatb, hd, cSS, hk]; done)
        | (refine stable_no ?_; simp (disch := first | (with_reducible assumption) | (simp; done) | omega | (simp; omega)) [hlt, hm, hat, hatb, hd, cSS, hk]; done)
        | (with_reducible refine And.intro ?_ ?_)
        | (with_reducible intro hc)
        | (with_reducible refine GDsplit (fun hc => ?_) (fun hc => ?_) <;> try simp [hc])
        | (with_reducible refine GDsplitN (fun hc => ?_) (fun hc => ?_) <;> try simp [hc])
        | (with_reducible refine GDsplitNB (fun hc => ?_) (fun hc => ?_) <;> try simp [hc])
        | (with_reducible refine GDsplitB (fun hc => ?_) (fun hc => ?_) <;> try simp [hc])
        | (with_reducible refine GKsplit (fun hc => ?_) (fun hc => ?_) <;> try simp [hc])
        | (with_reducible refine GKsplitN (fun hc => ?_) (fun hc => ?_) <;> try simp [hc])
        | (with_reducible refine GKsplitNB (fun hc => ?_) (fun hc => ?_) <;> try simp [hc])
        | (with_reducible refine GKsplitB (fun hc => ?_) (fun hc => ?_) <;> try simp [hc])
        | simp (disch := first | (with_reducible assumption) | (simp; done) | omega | (simp; omega)) [hlt, hm, hat, hatb, hd, cSS, hk])
      exact hN (m - lo) _ _ (by omega) ⟨lo, m, rfl, h1, by omega, by omega, rfl, by simp⟩
  · have hp : lo = posL L k := by omega
    have hhp := hasL_pos hS k
    by_cases hin : lo < L.length
    · obtain ⟨b, τ, hb, rfl, hG⟩ := Grow.ms hg (by intro h; subst h; simp at hin)
      have hatb : G' b = some (τ, L.flatMap cSS) := by rw [hG, setH_same]
      have hd := flat_at0 (f := cSS) (sz := 6) (by simp) hin
      by_cases hk : (L[lo]).1 = k
      · have hh : hasL L k = true := by rw [hhp, decide_eq_true]; subst hp; exact ⟨hin, hk⟩
        repeat' (first
          | refine awp_seqK fun K' hpK => ?_
          | refine awp_block ?_
          | refine awp_condG fun A' B' hpA hpB => ?_
          | refine useK (by with_reducible assumption) ?_
          | refine useP (by with_reducible assumption) ?_
          | refine ED_cons (fun _ => ?_) ?_
          | (refine stable_mk ?_; simp (disch := first | (with_reducible assumption) | (simp; done) | omega | (simp; omega)) [hlt, hat, hatb, hd, cSS, hk, hin]; done)
          | (refine stable_no ?_; simp (disch := first | (with_reducible assumption) | (simp; done) | omega | (simp; omega)) [hlt, hat, hatb, hd, cSS, hk, hin]; done)
          | (with_reducible refine And.intro ?_ ?_)
          | (with_reducible intro hc)
          | (with_reducible refine GDsplit (fun hc => ?_) (fun hc => ?_) <;> try simp [hc])
          | (with_reducible refine GDsplitN (fun hc => ?_) (fun hc => ?_) <;> try simp [hc])
          | (with_reducible refine GDsplitNB (fun hc => ?_) (fun hc => ?_) <;> try simp [hc])
          | (with_reducible refine GDsplitB (fun hc => ?_) (fun hc => ?_) <;> try simp [hc])
          | (with_reducible refine GKsplit (fun hc => ?_) (fun hc => ?_) <;> try simp [hc])
          | (with_reducible refine GKsplitN (fun hc => ?_) (fun hc => ?_) <;> try simp [hc])
          | (with_reducible refine GKsplitNB (fun hc => ?_) (fun hc => ?_) <;> try simp [hc])
          | (with_reducible refine GKsplitB (fun hc => ?_) (fun hc => ?_) <;> try simp [hc])
          | simp (disch := first | (with_reducible assumption) | (simp; done) | omega | (simp; omega)) [hlt, hat, hatb, hd, cSS, hk, hin])
        exact ends_two (by simp <;> exact ⟨rfl, rfl⟩) (by simp) (by simp) (hpost _ _ ⟨rfl, by rw [hh, hp]⟩)
      · have hh : hasL L k = false := by rw [hhp, decide_eq_false]; subst hp; rintro ⟨_, h⟩; exact hk h
        repeat' (first
          | refine awp_seqK fun K' hpK => ?_
          | refine awp_block ?_
          | refine awp_condG fun A' B' hpA hpB => ?_
          | refine useK (by with_reducible assumption) ?_
          | refine useP (by with_reducible assumption) ?_
          | refine ED_cons (fun _ => ?_) ?_
          | (refine stable_mk ?_; simp (disch := first | (with_reducible assumption) | (simp; done) | omega | (simp; omega)) [hlt, hat, hatb, hd, cSS, hk, hin]; done)
          | (refine stable_no ?_; simp (disch := first | (with_reducible assumption) | (simp; done) | omega | (simp; omega)) [hlt, hat, hatb, hd, cSS, hk, hin]; done)
          | (with_reducible refine And.intro ?_ ?_)
          | (with_reducible intro hc)
          | (with_reducible refine GDsplit (fun hc => ?_) (fun hc => ?_) <;> try simp [hc])
          | (with_reducible refine GDsplitN (fun hc => ?_) (fun hc => ?_) <;> try simp [hc])
          | (with_reducible refine GDsplitNB (fun hc => ?_) (fun hc => ?_) <;> try simp [hc])
          | (with_reducible refine GDsplitB (fun hc => ?_) (fun hc => ?_) <;> try simp [hc])
          | (with_reducible refine GKsplit (fun hc => ?_) (fun hc => ?_) <;> try simp [hc])
          | (with_reducible refine GKsplitN (fun hc => ?_) (fun hc => ?_) <;> try simp [hc])
          | (with_reducible refine GKsplitNB (fun hc => ?_) (fun hc => ?_) <;> try simp [hc])
          | (with_reducible refine GKsplitB (fun hc => ?_) (fun hc => ?_) <;> try simp [hc])
          | simp (disch := first | (with_reducible assumption) | (simp; done) | omega | (simp; omega)) [hlt, hat, hatb, hd, cSS, hk, hin])
        exact ends_two (by simp <;> exact ⟨rfl, rfl⟩) (by simp) (by simp) (hpost _ _ ⟨rfl, by rw [hh, hp]⟩)
    · have hh : hasL L k = false := by rw [hhp, decide_eq_false]; subst hp; rintro ⟨h, _⟩; exact hin h
      repeat' (first
        | refine awp_seqK fun K' hpK => ?_
        | refine awp_block ?_
        | refine awp_condG fun A' B' hpA hpB => ?_
        | refine useK (by with_reducible assumption) ?_
        | refine useP (by with_reducible assumption) ?_
        | refine ED_cons (fun _ => ?_) ?_
        | (refine stable_mk ?_; simp (disch := first | (with_reducible assumption) | (simp; done) | omega | (simp; omega)) [hlt, hat, hpo, hal, hin]; done)
        | (refine stable_no ?_; simp (disch := first | (with_reducible assumption) | (simp; done) | omega | (simp; omega)) [hlt, hat, hpo, hal, hin]; done)
        | (with_reducible refine And.intro ?_ ?_)
        | (with_reducible intro hc)
        | (with_reducible refine GDsplit (fun hc => ?_) (fun hc => ?_) <;> try simp [hc])
        | (with_reducible refine GDsplitN (fun hc => ?_) (fun hc => ?_) <;> try simp [hc])
        | (with_reducible refine GDsplitNB (fun hc => ?_) (fun hc => ?_) <;> try simp [hc])
        | (with_reducible refine GDsplitB (fun hc => ?_) (fun hc => ?_) <;> try simp [hc])
        | (with_reducible refine GKsplit (fun hc => ?_) (fun hc => ?_) <;> try simp [hc])
        | (with_reducible refine GKsplitN (fun hc => ?_) (fun hc => ?_) <;> try simp [hc])
        | (with_reducible refine GKsplitNB (fun hc => ?_) (fun hc => ?_) <;> try simp [hc])
        | (with_reducible refine GKsplitB (fun hc => ?_) (fun hc => ?_) <;> try simp [hc])
        | simp (disch := first | (with_reducible assumption) | (simp; done) | omega | (simp; omega)) [hlt, hat, hpo, hal, hin])
      exact ends_two (by simp <;> exact ⟨rfl, rfl⟩) (by simp) (by simp) (hpost _ _ ⟨rfl, by rw [hh, hp]⟩)

theorem lenS_c {sb : Nat} {h : Hp} {L : List (Int × Sn)} {mx : Int} (hs : SHS sb h L mx) : ACalls Try.prog 47 [.ptr sb 0] h fun r h' => h' = h ∧ r = .int .i64 L.length := by
  obtain ⟨⟨out, hg⟩, hS⟩ := hs
  have hat := hg.at
  have hpo := Grow.plain hg
  have hal := fun {t : TypeId} => Grow.len (P := Try.prog) (t := t) hg
  refine ACalls.hide fun post hpost => ?_
  refine F47_in (by simp) (by simp) fun hbd => ?_
  repeat' (first
    | refine awp_seqK fun K' hpK => ?_
    | refine awp_block ?_
    | refine awp_condG fun A' B' hpA hpB => ?_
    | refine useK (by with_reducible assumption) ?_
    | refine useP (by with_reducible assumption) ?_
    | refine ED_cons (fun _ => ?_) ?_
    | (refine stable_mk ?_; simp (disch := first | (with_reducible assumption) | (simp; done) | omega | (simp; omega)) [hat, hpo, hal]; done)
    | (refine stable_no ?_; simp (disch := first | (with_reducible assumption) | (simp; done) | omega | (simp; omega)) [hat, hpo, hal]; done)
    | (with_reducible refine And.intro ?_ ?_)
    | (with_reducible intro hc)
    | (with_reducible refine GDsplit (fun hc => ?_) (fun hc => ?_) <;> try simp [hc])
    | (with_reducible refine GDsplitN (fun hc => ?_) (fun hc => ?_) <;> try simp [hc])
    | (with_reducible refine GDsplitNB (fun hc => ?_) (fun hc => ?_) <;> try simp [hc])
    | (with_reducible refine GDsplitB (fun hc => ?_) (fun hc => ?_) <;> try simp [hc])
    | (with_reducible refine GKsplit (fun hc => ?_) (fun hc => ?_) <;> try simp [hc])
    | (with_reducible refine GKsplitN (fun hc => ?_) (fun hc => ?_) <;> try simp [hc])
    | (with_reducible refine GKsplitNB (fun hc => ?_) (fun hc => ?_) <;> try simp [hc])
    | (with_reducible refine GKsplitB (fun hc => ?_) (fun hc => ?_) <;> try simp [hc])
    | simp (disch := first | (with_reducible assumption) | (simp; done) | omega | (simp; omega)) [hat, hpo, hal])
  exact ends_one (by simp <;> rfl) (by simp) (hpost _ _ ⟨rfl, rfl⟩)

set_option maxHeartbeats 1000000 in
theorem getS_c {sb : Nat} {h : Hp} {L : List (Int × Sn)} {mx : Int} {k : Int} (hs : SHS sb h L mx) (hl : L.length ≤ 1000000) : ACalls Try.prog 32 [.ptr sb 0, .int .i64 k] h fun r h' => h' = h ∧ r = .tup [(.agg [.int .i64 ((getL L k).getD zVS).a1, .int .i64 ((getL L k).getD zVS).a2, .int .i64 ((getL L k).getD zVS).b1, .int .i64 ((getL L k).getD zVS).b2, .int .i64 ((getL L k).getD zVS).t]), .bool (getL L k).isSome] := by
  have hf := findS_c (k := k) hs hl
  obtain ⟨⟨out, hg⟩, hS⟩ := hs
  have hat := hg.at
  have hpo := Grow.plain hg
  cases hh : hasL L k with
  | true =>
    rw [hh] at hf
    obtain ⟨hin, hk, hge⟩ := getL_pos hS hh
    rw [hge]
    obtain ⟨b, τ, hb, rfl, hG⟩ := Grow.ms hg (by intro h; subst h; simp at hin)
    have hatb : h b = some (τ, L.flatMap cSS) := by rw [hG, setH_same]
    have hd := flat_at1 (f := cSS) (sz := 6) (j := 1) (by simp) hin (by simp)
    refine ACalls.hide fun post hpost => ?_
    refine F32_in (by simp) (by simp) fun hbd => ?_
    repeat' (first
      | refine awp_seqK fun K' hpK => ?_
      | refine awp_block ?_
      | refine awp_condG fun A' B' hpA hpB => ?_
      | refine useK (by with_reducible assumption) ?_
      | refine useP (by with_reducible assumption) ?_
      | refine ED_cons (fun _ => ?_) ?_
      | (refine stable_mk ?_; simp (disch := first | (with_reducible assumption) | (simp; done) | omega | (simp; omega)) [hat, hatb, hd, hin, cSS]; done)
      | (refine stable_no ?_; simp (disch := first | (with_reducible assumption) | (simp; done) | omega | (simp; omega)) [hat, hatb, hd, hin, cSS]; done)
      | (with_reducible refine And.intro ?_ ?_)
      | (with_reducible intro hc)
      | (with_reducible refine GDsplit (fun hc => ?_) (fun hc => ?_) <;> try simp [hc])
      | (with_reducible refine GDsplitN (fun hc => ?_) (fun hc => ?_) <;> try simp [hc])
      | (with_reducible refine GDsplitNB (fun hc => ?_) (fun hc => ?_) <;> try simp [hc])
      | (with_reducible refine GDsplitB (fun hc => ?_) (fun hc => ?_) <;> try simp [hc])
      | (with_reducible refine GKsplit (fun hc => ?_) (fun hc => ?_) <;> try simp [hc])
      | (with_reducible refine GKsplitN (fun hc => ?_) (fun hc => ?_) <;> try simp [hc])
      | (with_reducible refine GKsplitNB (fun hc => ?_) (fun hc => ?_) <;> try simp [hc])
      | (with_reducible refine GKsplitB (fun hc => ?_) (fun hc => ?_) <;> try simp [hc])
      | (refine CallK.use (hf) ?_; rintro r G' _ _ ⟨rfl, rfl⟩)
      | simp (disch := first | (with_reducible assumption) | (simp; done) | omega | (simp; omega)) [hat, hatb, hd, hin, cSS])
    exact ends_two (by simp <;> exact ⟨rfl, rfl⟩) (by simp) (by simp) (hpost _ _ ⟨rfl, by simp⟩)
  | false =>
    rw [hh] at hf
    have hge : getL L k = none := by rw [hasL_get] at hh; simpa using hh
    rw [hge]
    refine ACalls.hide fun post hpost => ?_
    refine F32_in (by simp) (by simp) fun hbd => ?_
    repeat' (first
      | refine awp_seqK fun K' hpK => ?_
      | refine awp_block ?_
      | refine awp_condG fun A' B' hpA hpB => ?_
      | refine useK (by with_reducible assumption) ?_
      | refine useP (by with_reducible assumption) ?_
      | refine ED_cons (fun _ => ?_) ?_
      | (refine stable_mk ?_; simp (disch := first | (with_reducible assumption) | (simp; done) | omega | (simp; omega)); done)
      | (refine stable_no ?_; simp (disch := first | (with_reducible assumption) | (simp; done) | omega | (simp; omega)); done)
      | (with_reducible refine And.intro ?_ ?_)
      | (with_reducible intro hc)
      | (with_reducible refine GDsplit (fun hc => ?_) (fun hc => ?_) <;> try simp [hc])
      | (with_reducible refine GDsplitN (fun hc => ?_) (fun hc => ?_) <;> try simp [hc])
      | (with_reducible refine GDsplitNB (fun hc => ?_) (fun hc => ?_) <;> try simp [hc])
      | (with_reducible refine GDsplitB (fun hc => ?_) (fun hc => ?_) <;> try simp [hc])
      | (with_reducible refine GKsplit (fun hc => ?_) (fun hc => ?_) <;> try simp [hc])
      | (with_reducible refine GKsplitN (fun hc => ?_) (fun hc => ?_) <;> try simp [hc])
      | (with_reducible refine GKsplitNB (fun hc => ?_) (fun hc => ?_) <;> try simp [hc])
      | (with_reducible refine GKsplitB (fun hc => ?_) (fun hc => ?_) <;> try simp [hc])
      | (refine CallK.use (hf) ?_; rintro r G' _ _ ⟨rfl, rfl⟩)
      | simp (disch := first | (with_reducible assumption) | (simp; done) | omega | (simp; omega)))
    exact ends_two (by simp <;> exact ⟨rfl, rfl⟩) (by simp) (by simp) (hpost _ _ ⟨rfl, by simp [zVS]⟩)

theorem insS_c {out : AV} {G0 G : Hp} {l : List (Int × Sn)} (hg : Grow cSS 6 G0 G out l) {i : Nat} (x : Int × Sn) (hi : i ≤ l.length) (hl : l.length ≤ 1000000) :
    ACalls Try.prog 50 [out, .int .i64 i, .sl 1 (cSS x)] G fun r G' => Grow cSS 6 G0 G' r (l.take i ++ x :: l.drop i) :=
  insG (ρ := ren79) slK79 ins50_f ovl50_f (by simp) (by simp) (by omega) hg x hi (by simp [LIM]; omega) (by simp [LIM]; omega)
def setRS (L : List (Int × Sn)) (mx : Int) (k : Int) : Bool := hasL L k || decide ((L.length : Int) < mx)
set_option maxHeartbeats 1000000 in
theorem setS_c {sb : Nat} {h : Hp} {L : List (Int × Sn)} {mx : Int} {k : Int} {v : Sn} (hs : SHS sb h L mx) (hl : L.length ≤ 1000000) : ACalls Try.prog 34 [.ptr sb 0, .int .i64 k, (.agg [.int .i64 v.a1, .int .i64 v.a2, .int .i64 v.b1, .int .i64 v.b2, .int .i64 v.t])] h fun r h' => SHS sb h' (if setRS L mx k then setL L k v else L) mx ∧ r = .int .i64 (if setRS L mx k then 0 else 4) := by
  have hf := findS_c (k := k) hs hl
  have hs0 := hs
  obtain ⟨⟨out, hg⟩, hS⟩ := hs
  have hat := hg.at
  have hpo := Grow.plain hg
  have hal := fun {t : TypeId} => Grow.len (P := Try.prog) (t := t) hg
  have hpl := posL_le L k
  have hSs := hS.set k v
  cases hh : hasL L k with
  | true =>
    rw [hh] at hf
    have e : setRS L mx k = true := by unfold setRS; rw [hh]; rfl
    rw [e]
    obtain ⟨hin, hk, hge⟩ := getL_pos hS hh
    have hset := setL_has (v := v) hS hh
    rw [hset] at hSs
    obtain ⟨b, τ, hb, rfl, hG⟩ := Grow.ms hg (by intro h; subst h; simp at hin)
    have hatb : h b = some (τ, L.flatMap cSS) := by rw [hG, setH_same]
    have hlen : (L.flatMap cSS).length = L.length * 6 := flat_len (by simp) L
    have hle : posL L k * 6 + 6 ≤ L.length * 6 := by omega
    have hsp : splice (L.flatMap cSS) (posL L k * 6 + 1) [.int .i64 v.a1, .int .i64 v.a2, .int .i64 v.b1, .int .i64 v.b2, .int .i64 v.t] = (L.set (posL L k) (k, v)).flatMap cSS := flat_splice (by simp) hin (by simp) (by simp [cSS, hk])
    have hfit : posL L k * 6 + 1 + ([.int .i64 v.a1, .int .i64 v.a2, .int .i64 v.b1, .int .i64 v.b2, .int .i64 v.t] : List AV).length ≤ (L.flatMap cSS).length := by rw [hlen]; simp; omega
    subst hG
    refine ACalls.hide fun post hpost => ?_
    refine F34_in (by simp) (by simp) fun hbd => ?_
    repeat' (first
      | refine awp_seqK fun K' hpK => ?_
      | refine awp_block ?_
      | refine awp_condG fun A' B' hpA hpB => ?_
      | refine useK (by with_reducible assumption) ?_
      | refine useP (by with_reducible assumption) ?_
      | refine ED_cons (fun _ => ?_) ?_
      | (refine stable_mk ?_; simp (disch := first | (with_reducible assumption) | (simp; done) | omega | (simp; omega)) [hat, hatb, hin, hlen, hle, hsp, setH_setH]; done)
      | (refine stable_no ?_; simp (disch := first | (with_reducible assumption) | (simp; done) | omega | (simp; omega)) [hat, hatb, hin, hlen, hle, hsp, setH_setH]; done)
      | (with_reducible refine And.intro ?_ ?_)
      | (with_reducible intro hc; try (exfalso; omega))
      | (with_reducible refine GDsplit (fun hc => ?_) (fun hc => ?_) <;> try simp [hc])
      | (with_reducible refine GDsplitN (fun hc => ?_) (fun hc => ?_) <;> try simp [hc])
      | (with_reducible refine GDsplitNB (fun hc => ?_) (fun hc => ?_) <;> try simp [hc])
      | (with_reducible refine GDsplitB (fun hc => ?_) (fun hc => ?_) <;> try simp [hc])
      | (with_reducible refine GKsplit (fun hc => ?_) (fun hc => ?_) <;> try simp [hc])
      | (with_reducible refine GKsplitN (fun hc => ?_) (fun hc => ?_) <;> try simp [hc])
      | (with_reducible refine GKsplitNB (fun hc => ?_) (fun hc => ?_) <;> try simp [hc])
      | (with_reducible refine GKsplitB (fun hc => ?_) (fun hc => ?_) <;> try simp [hc])
      | (refine CallK.use (hf) ?_; rintro r G' _ _ ⟨rfl, rfl⟩)
      | simp (disch := first | (with_reducible assumption) | (simp; done) | omega | (simp; omega)) [hat, hatb, hin, hlen, hle, hsp, setH_setH])
    refine ends_one (by simp <;> rfl) (by simp) (hpost _ _ ⟨⟨⟨.ms b 0 L.length 6, .inr ⟨b, τ, hb, by simp [hset], by simp only [if_true, hset, ← hsp]; simp [splice]⟩⟩, by simpa [hset] using hSs⟩, by simp⟩)
  | false =>
    rw [hh] at hf
    by_cases hr : (L.length : Int) < mx
    · have e : setRS L mx k = true := by unfold setRS; rw [hh, decide_eq_true hr]; rfl
      rw [e]
      have hset := setL_new (v := v) hS hh
      have hins := insS_c hg (k, v) hpl hl
      rw [← hset] at hins
      simp only [cSS] at hins
      refine ACalls.hide fun post hpost => ?_
      refine F34_in (by simp) (by simp) fun hbd => ?_
      repeat' (first
        | refine awp_seqK fun K' hpK => ?_
        | refine awp_block ?_
        | refine awp_condG fun A' B' hpA hpB => ?_
        | refine useK (by with_reducible assumption) ?_
        | refine useP (by with_reducible assumption) ?_
        | refine ED_cons (fun _ => ?_) ?_
        | (refine stable_mk ?_; simp (disch := first | (with_reducible assumption) | (simp; done) | omega | (simp; omega)) [hat, hpo, hal, hr]; done)
        | (refine stable_no ?_; simp (disch := first | (with_reducible assumption) | (simp; done) | omega | (simp; omega)) [hat, hpo, hal, hr]; done)
        | (with_reducible refine And.intro ?_ ?_)
        | (with_reducible intro hc; try (exfalso; omega))
        | (with_reducible refine GDsplit (fun hc => ?_) (fun hc => ?_) <;> try simp [hc])
        | (with_reducible refine GDsplitN (fun hc => ?_) (fun hc => ?_) <;> try simp [hc])
        | (with_reducible refine GDsplitNB (fun hc => ?_) (fun hc => ?_) <;> try simp [hc])
        | (with_reducible refine GDsplitB (fun hc => ?_) (fun hc => ?_) <;> try simp [hc])
        | (with_reducible refine GKsplit (fun hc => ?_) (fun hc => ?_) <;> try simp [hc])
        | (with_reducible refine GKsplitN (fun hc => ?_) (fun hc => ?_) <;> try simp [hc])
        | (with_reducible refine GKsplitNB (fun hc => ?_) (fun hc => ?_) <;> try simp [hc])
        | (with_reducible refine GKsplitB (fun hc => ?_) (fun hc => ?_) <;> try simp [hc])
        | (refine CallK.use (hf) ?_; rintro r G' _ _ ⟨rfl, rfl⟩)
        | simp (disch := first | (with_reducible assumption) | (simp; done) | omega | (simp; omega)) [hat, hpo, hal, hr])
      refine CallK.use hins ?_
      rintro r2 G2 _ _ hg2
      have hat2 := Grow.base hg2 (one_same ..)
      have hv2 := Grow.plain hg2
      have hk2 := Grow.known hg2
      have hs2 := Grow.scal hg2
      have hc2 := Grow.cells hg2
      obtain ⟨h', hs', hg3⟩ := Grow.cut (Grow.set hg2 (one_same ..) (o' := (0, [r2, .int .i64 mx]))) (b := sb) (o := (0, [r2, .int .i64 mx])) (o' := (0, [r2, .int .i64 mx])) (setH_same ..)
      rw [setH_setH] at hs'
      repeat' (first
        | refine awp_seqK fun K' hpK => ?_
        | refine awp_block ?_
        | refine awp_condG fun A' B' hpA hpB => ?_
        | refine useK (by with_reducible assumption) ?_
        | refine useP (by with_reducible assumption) ?_
        | refine ED_cons (fun _ => ?_) ?_
        | (refine stable_mk ?_; simp (disch := first | (with_reducible assumption) | (simp; done) | omega | (simp; omega)) [hv2, hk2, hs2, hc2, hat2]; done)
        | (refine stable_no ?_; simp (disch := first | (with_reducible assumption) | (simp; done) | omega | (simp; omega)) [hv2, hk2, hs2, hc2, hat2]; done)
        | (with_reducible refine And.intro ?_ ?_)
        | (with_reducible intro hc)
        | (with_reducible refine GDsplit (fun hc => ?_) (fun hc => ?_) <;> try simp [hc])
        | (with_reducible refine GDsplitN (fun hc => ?_) (fun hc => ?_) <;> try simp [hc])
        | (with_reducible refine GDsplitNB (fun hc => ?_) (fun hc => ?_) <;> try simp [hc])
        | (with_reducible refine GDsplitB (fun hc => ?_) (fun hc => ?_) <;> try simp [hc])
        | (with_reducible refine GKsplit (fun hc => ?_) (fun hc => ?_) <;> try simp [hc])
        | (with_reducible refine GKsplitN (fun hc => ?_) (fun hc => ?_) <;> try simp [hc])
        | (with_reducible refine GKsplitNB (fun hc => ?_) (fun hc => ?_) <;> try simp [hc])
        | (with_reducible refine GKsplitB (fun hc => ?_) (fun hc => ?_) <;> try simp [hc])
        | simp (disch := first | (with_reducible assumption) | (simp; done) | omega | (simp; omega)) [hv2, hk2, hs2, hc2, hat2])
      exact ends_one_sub (by simp <;> rfl) (by simp) hs' (hpost _ _ ⟨⟨⟨r2, hg3⟩, hSs⟩, rfl⟩)
    · have e : setRS L mx k = false := by unfold setRS; rw [hh, decide_eq_false hr]; rfl
      rw [e]
      refine ACalls.hide fun post hpost => ?_
      refine F34_in (by simp) (by simp) fun hbd => ?_
      repeat' (first
        | refine awp_seqK fun K' hpK => ?_
        | refine awp_block ?_
        | refine awp_condG fun A' B' hpA hpB => ?_
        | refine useK (by with_reducible assumption) ?_
        | refine useP (by with_reducible assumption) ?_
        | refine ED_cons (fun _ => ?_) ?_
        | (refine stable_mk ?_; simp (disch := first | (with_reducible assumption) | (simp; done) | omega | (simp; omega)) [hat, hpo, hal, hr]; done)
        | (refine stable_no ?_; simp (disch := first | (with_reducible assumption) | (simp; done) | omega | (simp; omega)) [hat, hpo, hal, hr]; done)
        | (with_reducible refine And.intro ?_ ?_)
        | (with_reducible intro hc; try (exfalso; omega))
        | (with_reducible refine GDsplit (fun hc => ?_) (fun hc => ?_) <;> try simp [hc])
        | (with_reducible refine GDsplitN (fun hc => ?_) (fun hc => ?_) <;> try simp [hc])
        | (with_reducible refine GDsplitNB (fun hc => ?_) (fun hc => ?_) <;> try simp [hc])
        | (with_reducible refine GDsplitB (fun hc => ?_) (fun hc => ?_) <;> try simp [hc])
        | (with_reducible refine GKsplit (fun hc => ?_) (fun hc => ?_) <;> try simp [hc])
        | (with_reducible refine GKsplitN (fun hc => ?_) (fun hc => ?_) <;> try simp [hc])
        | (with_reducible refine GKsplitNB (fun hc => ?_) (fun hc => ?_) <;> try simp [hc])
        | (with_reducible refine GKsplitB (fun hc => ?_) (fun hc => ?_) <;> try simp [hc])
        | (refine CallK.use (hf) ?_; rintro r G' _ _ ⟨rfl, rfl⟩)
        | simp (disch := first | (with_reducible assumption) | (simp; done) | omega | (simp; omega)) [hat, hpo, hal, hr])
      exact ends_one (by simp <;> rfl) (by simp) (hpost _ _ ⟨hs0, rfl⟩)

theorem newS_E {n m : Int} (hm : maxR0 n = m) : ACalls Try.prog 21 [.int .i64 n] emptyH fun r h' => ∃ sb, r = .ptr sb 0 ∧ SHS sb h' [] m := by subst hm; exact newS_c
theorem setS_E {sb : Nat} {h : Hp} {L M : List (Int × Sn)} {mx e : Int} {k : Int} {v : Sn} (hs : SHS sb h L mx) (hl : L.length ≤ 1000000) (hM : (if setRS L mx k then setL L k v else L) = M) (he : (if setRS L mx k then 0 else 4) = e) : ACalls Try.prog 34 [.ptr sb 0, .int .i64 k, (.agg [.int .i64 v.a1, .int .i64 v.a2, .int .i64 v.b1, .int .i64 v.b2, .int .i64 v.t])] h fun r h' => SHS sb h' M mx ∧ r = .int .i64 e := by subst hM; subst he; exact setS_c hs hl

set_option maxHeartbeats 1000000 in
theorem valsSG {sb : Nat} {h : Hp} {L : List (Int × Sn)} {mx : Int} (hs : SHS sb h L mx) (hl : L.length ≤ 1000000) : ACalls Try.prog 27 [.ptr sb 0] h fun r h' => Grow cVS 5 h h' r (L.map Prod.snd) := by
  have hle := lenS_c hs
  obtain ⟨⟨out, hg⟩, hS⟩ := hs
  have hat := hg.at
  have hpo := Grow.plain hg
  refine ACalls.hide fun post hpost => ?_
  refine F27_in (by simp) (by simp) fun hbd => ?_
  repeat' (first
    | refine awp_seqK fun K' hpK => ?_
    | refine awp_block ?_
    | refine awp_condG fun A' B' hpA hpB => ?_
    | refine useK (by with_reducible assumption) ?_
    | refine useP (by with_reducible assumption) ?_
    | refine ED_cons (fun _ => ?_) ?_
    | (refine stable_mk ?_; simp (disch := first | (with_reducible assumption) | (simp; done) | omega | (simp; omega)); done)
    | (refine stable_no ?_; simp (disch := first | (with_reducible assumption) | (simp; done) | omega | (simp; omega)); done)
    | (with_reducible refine And.intro ?_ ?_)
    | (with_reducible intro hc)
    | (with_reducible refine GDsplit (fun hc => ?_) (fun hc => ?_) <;> try simp [hc])
    | (with_reducible refine GDsplitN (fun hc => ?_) (fun hc => ?_) <;> try simp [hc])
    | (with_reducible refine GDsplitNB (fun hc => ?_) (fun hc => ?_) <;> try simp [hc])
    | (with_reducible refine GDsplitB (fun hc => ?_) (fun hc => ?_) <;> try simp [hc])
    | (with_reducible refine GKsplit (fun hc => ?_) (fun hc => ?_) <;> try simp [hc])
    | (with_reducible refine GKsplitN (fun hc => ?_) (fun hc => ?_) <;> try simp [hc])
    | (with_reducible refine GKsplitNB (fun hc => ?_) (fun hc => ?_) <;> try simp [hc])
    | (with_reducible refine GKsplitB (fun hc => ?_) (fun hc => ?_) <;> try simp [hc])
    | (refine CallK.use (hle) ?_; rintro r G' _ _ ⟨rfl, rfl⟩)
    | simp (disch := first | (with_reducible assumption) | (simp; done) | omega | (simp; omega)))
  refine awp_loop' (fun w T G1 => ∃ (k : Nat) (o : AV), k + w = L.length ∧ Grow cVS 5 G' G1 o ((L.map Prod.snd).take k) ∧ T = ofL [(0, .ptr sb 0), (3, o), (6, .int .i64 L.length), (7, .int .i64 k)]) L.length ⟨0, .nils, by omega, Grow.nil _ _, by simp⟩ ?_
  rintro w T G1 ⟨k, o, hk, hgo, rfl⟩ N hN
  have hoo := hgo.plain
  by_cases hkl : k < L.length
  · obtain ⟨b, τ, hb, rfl, hG⟩ := Grow.ms hg (by intro h; subst h; simp at hkl)
    have hatb : G' b = some (τ, L.flatMap cSS) := by rw [hG, setH_same]
    have hat' := hgo.base hat
    have hatb' := hgo.base hatb
    have hd0 := flat_at0 (f := cSS) (sz := 6) (by simp) hkl
    have hd1 := flat_at1 (f := cSS) (sz := 6) (j := 1) (by simp) hkl (by simp)
    have htk : (L.map Prod.snd).take (k + 1) = (L.map Prod.snd).take k ++ [(L[k]).2] := by rw [take_succ_get _ _ (by simpa using hkl)]; simp
    repeat' (first
      | refine awp_seqK fun K' hpK => ?_
      | refine awp_block ?_
      | refine awp_condG fun A' B' hpA hpB => ?_
      | refine useK (by with_reducible assumption) ?_
      | refine useP (by with_reducible assumption) ?_
      | refine ED_cons (fun _ => ?_) ?_
      | (refine stable_mk ?_; simp (disch := first | (with_reducible assumption) | (simp; done) | omega | (simp; omega)) [hkl, hat', hatb', hd0, hd1, cSS, hoo]; done)
      | (refine stable_no ?_; simp (disch := first | (with_reducible assumption) | (simp; done) | omega | (simp; omega)) [hkl, hat', hatb', hd0, hd1, cSS, hoo]; done)
      | (with_reducible refine And.intro ?_ ?_)
      | (with_reducible intro hc)
      | (with_reducible refine GDsplit (fun hc => ?_) (fun hc => ?_) <;> try simp [hc])
      | (with_reducible refine GDsplitN (fun hc => ?_) (fun hc => ?_) <;> try simp [hc])
      | (with_reducible refine GDsplitNB (fun hc => ?_) (fun hc => ?_) <;> try simp [hc])
      | (with_reducible refine GDsplitB (fun hc => ?_) (fun hc => ?_) <;> try simp [hc])
      | (with_reducible refine GKsplit (fun hc => ?_) (fun hc => ?_) <;> try simp [hc])
      | (with_reducible refine GKsplitN (fun hc => ?_) (fun hc => ?_) <;> try simp [hc])
      | (with_reducible refine GKsplitNB (fun hc => ?_) (fun hc => ?_) <;> try simp [hc])
      | (with_reducible refine GKsplitB (fun hc => ?_) (fun hc => ?_) <;> try simp [hc])
      | simp (disch := first | (with_reducible assumption) | (simp; done) | omega | (simp; omega)) [hkl, hat', hatb', hd0, hd1, cSS, hoo])
    refine hgo.app1 (x := (L[k]).2) (by simp [cVS]) (by simp [cVS]) (by simp [LIM]; omega) (fun v2 G2 hg2 => ?_)
    have hv2 := hg2.plain
    rw [← htk] at hg2
    repeat' (first
      | refine awp_seqK fun K' hpK => ?_
      | refine awp_block ?_
      | refine awp_condG fun A' B' hpA hpB => ?_
      | refine useK (by with_reducible assumption) ?_
      | refine useP (by with_reducible assumption) ?_
      | refine ED_cons (fun _ => ?_) ?_
      | (refine stable_mk ?_; simp (disch := first | (with_reducible assumption) | (simp; done) | omega | (simp; omega)) [hv2]; done)
      | (refine stable_no ?_; simp (disch := first | (with_reducible assumption) | (simp; done) | omega | (simp; omega)) [hv2]; done)
      | (with_reducible refine And.intro ?_ ?_)
      | (with_reducible intro hc)
      | (with_reducible refine GDsplit (fun hc => ?_) (fun hc => ?_) <;> try simp [hc])
      | (with_reducible refine GDsplitN (fun hc => ?_) (fun hc => ?_) <;> try simp [hc])
      | (with_reducible refine GDsplitNB (fun hc => ?_) (fun hc => ?_) <;> try simp [hc])
      | (with_reducible refine GDsplitB (fun hc => ?_) (fun hc => ?_) <;> try simp [hc])
      | (with_reducible refine GKsplit (fun hc => ?_) (fun hc => ?_) <;> try simp [hc])
      | (with_reducible refine GKsplitN (fun hc => ?_) (fun hc => ?_) <;> try simp [hc])
      | (with_reducible refine GKsplitNB (fun hc => ?_) (fun hc => ?_) <;> try simp [hc])
      | (with_reducible refine GKsplitB (fun hc => ?_) (fun hc => ?_) <;> try simp [hc])
      | simp (disch := first | (with_reducible assumption) | (simp; done) | omega | (simp; omega)) [hv2])
    exact hN (w - 1) _ _ (by omega) ⟨k + 1, v2, by omega, hg2, by simp⟩
  · have hke : k = L.length := by omega
    rw [hke, List.take_of_length_le (by simp)] at hgo
    repeat' (first
      | refine awp_seqK fun K' hpK => ?_
      | refine awp_block ?_
      | refine awp_condG fun A' B' hpA hpB => ?_
      | refine useK (by with_reducible assumption) ?_
      | refine useP (by with_reducible assumption) ?_
      | refine ED_cons (fun _ => ?_) ?_
      | (refine stable_mk ?_; simp (disch := first | (with_reducible assumption) | (simp; done) | omega | (simp; omega)) [hkl, hoo]; done)
      | (refine stable_no ?_; simp (disch := first | (with_reducible assumption) | (simp; done) | omega | (simp; omega)) [hkl, hoo]; done)
      | (with_reducible refine And.intro ?_ ?_)
      | (with_reducible intro hc)
      | (with_reducible refine GDsplit (fun hc => ?_) (fun hc => ?_) <;> try simp [hc])
      | (with_reducible refine GDsplitN (fun hc => ?_) (fun hc => ?_) <;> try simp [hc])
      | (with_reducible refine GDsplitNB (fun hc => ?_) (fun hc => ?_) <;> try simp [hc])
      | (with_reducible refine GDsplitB (fun hc => ?_) (fun hc => ?_) <;> try simp [hc])
      | (with_reducible refine GKsplit (fun hc => ?_) (fun hc => ?_) <;> try simp [hc])
      | (with_reducible refine GKsplitN (fun hc => ?_) (fun hc => ?_) <;> try simp [hc])
      | (with_reducible refine GKsplitNB (fun hc => ?_) (fun hc => ?_) <;> try simp [hc])
      | (with_reducible refine GKsplitB (fun hc => ?_) (fun hc => ?_) <;> try simp [hc])
      | simp (disch := first | (with_reducible assumption) | (simp; done) | omega | (simp; omega)) [hkl, hoo])
    exact ends_one (by simp <;> rfl) hoo (hpost _ _ hgo)
theorem valsS_c {sb : Nat} {h : Hp} {L : List (Int × Sn)} {mx : Int} (hs : SHS sb h L mx) (hl : L.length ≤ 1000000) : ACalls Try.prog 27 [.ptr sb 0] h fun r h' => h' = h ∧ ∃ s : Option (List Sn), r = ofS cVS s ∧ LL s = L.map Prod.snd :=
  (valsSG hs hl).grow (by simp)

/- what goes and what stays -/
set_option maxHeartbeats 2000000 in
theorem dropS_c {sb : Nat} {h F : Hp} {L : List (Int × Sn)} {mx : Int} {f : Nat} {caps : List AV} {p : (Int × Sn) → Bool} (hs : SHS sb h L mx) (hl : L.length ≤ 1000000) (hdis : Dis F h) (hcal : callable Try.prog f = true) (hcp : (AV.fn f caps).plain = true)
    (hp : ∀ x ∈ L, ACalls Try.prog f ([.int .i64 x.1, (.agg [.int .i64 x.2.a1, .int .i64 x.2.a2, .int .i64 x.2.b1, .int .i64 x.2.b2, .int .i64 x.2.t])] ++ caps) F fun r G' => G' = F ∧ r = .bool (p x)) :
    ACalls Try.prog 51 [.ptr sb 0, .fn f caps] (uni F h) fun r G' => ∃ h', G' = uni F h' ∧ Dis F h' ∧ SHS sb h' (L.filter fun x => !p x) mx ∧ ∃ s : Option (List Sn), r = ofS cVS s ∧ LL s = (L.filter p).map Prod.snd := by
  have hle := lenS_c hs
  obtain ⟨⟨out, hg⟩, hS⟩ := hs
  have hat := hg.at
  have hpo := Grow.plain hg
  have hFsb : F sb = none := by
    rcases hdis sb with h | h
    · exact h
    · rw [hat] at h; cases h
  have hatF : uni F h sb = some (0, [out, .int .i64 mx]) := by rw [uni_right hFsb]; exact hat
  refine ACalls.hide fun post hpost => ?_
  refine F51_in (by simp) (by simp) fun hbd => ?_
  repeat' (first
    | refine awp_seqK fun K' hpK => ?_
    | refine awp_block ?_
    | refine awp_condG fun A' B' hpA hpB => ?_
    | refine useK (by with_reducible assumption) ?_
    | refine useP (by with_reducible assumption) ?_
    | refine ED_cons (fun _ => ?_) ?_
    | (refine stable_mk ?_; simp (disch := first | (with_reducible assumption) | (simp; done) | omega | (simp; omega)); done)
    | (refine stable_no ?_; simp (disch := first | (with_reducible assumption) | (simp; done) | omega | (simp; omega)); done)
    | (with_reducible refine And.intro ?_ ?_)
    | (with_reducible intro hc)
    | (with_reducible refine GDsplit (fun hc => ?_) (fun hc => ?_) <;> try simp [hc])
    | (with_reducible refine GDsplitN (fun hc => ?_) (fun hc => ?_) <;> try simp [hc])
    | (with_reducible refine GDsplitNB (fun hc => ?_) (fun hc => ?_) <;> try simp [hc])
    | (with_reducible refine GDsplitB (fun hc => ?_) (fun hc => ?_) <;> try simp [hc])
    | (with_reducible refine GKsplit (fun hc => ?_) (fun hc => ?_) <;> try simp [hc])
    | (with_reducible refine GKsplitN (fun hc => ?_) (fun hc => ?_) <;> try simp [hc])
    | (with_reducible refine GKsplitNB (fun hc => ?_) (fun hc => ?_) <;> try simp [hc])
    | (with_reducible refine GKsplitB (fun hc => ?_) (fun hc => ?_) <;> try simp [hc])
    | (refine CallK.fr (hle) hdis ?_; rintro r h' hdis _ _ ⟨rfl, rfl⟩)
    | simp (disch := first | (with_reducible assumption) | (simp; done) | omega | (simp; omega)))
  refine awp_loop' (fun w T G1 => ∃ (k : Nat) (oo kk : AV) (Gm : Hp), k + w = L.length ∧ Grow cSS 6 (uni F h') Gm kk ((L.take k).filter fun x => !p x) ∧ Grow cVS 5 Gm G1 oo (((L.take k).filter p).map Prod.snd) ∧ T = ofL [(0, .ptr sb 0), (1, .fn f caps), (5, oo), (6, kk), (10, .int .i64 L.length), (11, .int .i64 k)]) L.length ⟨0, .nils, .nils, _, by omega, Grow.nil _ _, Grow.nil _ _, by simp⟩ ?_
  rintro w T G1 ⟨k, oo, kk, Gm, hk, hgk, hgo, rfl⟩ N hN
  have hoo := hgo.plain
  have hkk := hgk.plain
  have hat1 := hgo.base (hgk.base hatF)
  by_cases hkl : k < L.length
  · have hln1 : ((L.take k).filter fun x => !p x).length ≤ 1000000 := Nat.le_trans (List.length_filter_le _ _) (by rw [List.length_take]; omega)
    have hln3 : ((L.take k).filter p).length ≤ 1000000 := Nat.le_trans (List.length_filter_le _ _) (by rw [List.length_take]; omega)
    have hln2 : (((L.take k).filter p).map Prod.snd).length ≤ 1000000 := by rw [List.length_map]; exact Nat.le_trans (List.length_filter_le _ _) (by rw [List.length_take]; omega)
    obtain ⟨b, τ, hb, rfl, hG⟩ := Grow.ms hg (by intro h; subst h; simp at hkl)
    have hatb : uni F h' b = some (τ, L.flatMap cSS) := by
      have h1 : h' b = some (τ, L.flatMap cSS) := by rw [hG, setH_same]
      have h2 : F b = none := by
        rcases hdis b with h | h
        · exact h
        · rw [h1] at h; cases h
      rw [uni_right h2]; exact h1
    have hatb1 := hgo.base (hgk.base hatb)
    have hd0 := flat_at0 (f := cSS) (sz := 6) (by simp) hkl
    have htk := take_succ_get L k hkl
    have hpx := (hp L[k] (List.getElem_mem hkl)).ext (((Ext.uni (F := F) (h := h')).grow hgk).grow hgo)
    obtain ⟨x, hx⟩ : ∃ x, x = L[k] := ⟨_, rfl⟩
    rw [← hx] at hd0 htk hpx
    cases hq : p x with
    | true =>
      rw [hq] at hpx
      have e1 : (L.take (k + 1)).filter p = (L.take k).filter p ++ [x] := by rw [htk, List.filter_append]; simp [hq]
      have e2 : ((L.take (k + 1)).filter fun x => !p x) = (L.take k).filter fun x => !p x := by rw [htk, List.filter_append]; simp [hq]
      repeat' (first
        | refine awp_seqK fun K' hpK => ?_
        | refine awp_block ?_
        | refine awp_condG fun A' B' hpA hpB => ?_
        | refine useK (by with_reducible assumption) ?_
        | refine useP (by with_reducible assumption) ?_
        | refine ED_cons (fun _ => ?_) ?_
        | (refine stable_mk ?_; simp (disch := first | (with_reducible assumption) | (simp; done) | omega | (simp; omega)) [hkl, hat1, hatb1, hd0, cSS, hoo, hkk, hcal, ← hx]; done)
        | (refine stable_no ?_; simp (disch := first | (with_reducible assumption) | (simp; done) | omega | (simp; omega)) [hkl, hat1, hatb1, hd0, cSS, hoo, hkk, hcal, ← hx]; done)
        | (with_reducible refine And.intro ?_ ?_)
        | (with_reducible intro hc)
        | (with_reducible refine GDsplit (fun hc => ?_) (fun hc => ?_) <;> try simp [hc])
        | (with_reducible refine GDsplitN (fun hc => ?_) (fun hc => ?_) <;> try simp [hc])
        | (with_reducible refine GDsplitNB (fun hc => ?_) (fun hc => ?_) <;> try simp [hc])
        | (with_reducible refine GDsplitB (fun hc => ?_) (fun hc => ?_) <;> try simp [hc])
        | (with_reducible refine GKsplit (fun hc => ?_) (fun hc => ?_) <;> try simp [hc])
        | (with_reducible refine GKsplitN (fun hc => ?_) (fun hc => ?_) <;> try simp [hc])
        | (with_reducible refine GKsplitNB (fun hc => ?_) (fun hc => ?_) <;> try simp [hc])
        | (with_reducible refine GKsplitB (fun hc => ?_) (fun hc => ?_) <;> try simp [hc])
        | (refine CallK.use (hpx) ?_; rintro r G' _ _ ⟨rfl, rfl⟩)
        | simp (disch := first | (with_reducible assumption) | (simp; done) | omega | (simp; omega)) [hkl, hat1, hatb1, hd0, cSS, hoo, hkk, hcal, ← hx])
      refine hgo.app1 (x := x.2) (by simp [cVS]) (by simp [cVS]) (by simp [LIM]; omega) (fun v2 G2 hg2 => ?_)
      have hv2 := hg2.plain
      repeat' (first
        | refine awp_seqK fun K' hpK => ?_
        | refine awp_block ?_
        | refine awp_condG fun A' B' hpA hpB => ?_
        | refine useK (by with_reducible assumption) ?_
        | refine useP (by with_reducible assumption) ?_
        | refine ED_cons (fun _ => ?_) ?_
        | (refine stable_mk ?_; simp (disch := first | (with_reducible assumption) | (simp; done) | omega | (simp; omega)) [hv2, hkk]; done)
        | (refine stable_no ?_; simp (disch := first | (with_reducible assumption) | (simp; done) | omega | (simp; omega)) [hv2, hkk]; done)
        | (with_reducible refine And.intro ?_ ?_)
        | (with_reducible intro hc)
        | (with_reducible refine GDsplit (fun hc => ?_) (fun hc => ?_) <;> try simp [hc])
        | (with_reducible refine GDsplitN (fun hc => ?_) (fun hc => ?_) <;> try simp [hc])
        | (with_reducible refine GDsplitNB (fun hc => ?_) (fun hc => ?_) <;> try simp [hc])
        | (with_reducible refine GDsplitB (fun hc => ?_) (fun hc => ?_) <;> try simp [hc])
        | (with_reducible refine GKsplit (fun hc => ?_) (fun hc => ?_) <;> try simp [hc])
        | (with_reducible refine GKsplitN (fun hc => ?_) (fun hc => ?_) <;> try simp [hc])
        | (with_reducible refine GKsplitNB (fun hc => ?_) (fun hc => ?_) <;> try simp [hc])
        | (with_reducible refine GKsplitB (fun hc => ?_) (fun hc => ?_) <;> try simp [hc])
        | simp (disch := first | (with_reducible assumption) | (simp; done) | omega | (simp; omega)) [hv2, hkk])
      exact hN (w - 1) _ _ (by omega) ⟨k + 1, v2, kk, Gm, by omega, by rw [e2]; exact hgk, by rw [e1, List.map_append]; exact hg2, by simp⟩
    | false =>
      rw [hq] at hpx
      have e1 : (L.take (k + 1)).filter p = (L.take k).filter p := by rw [htk, List.filter_append]; simp [hq]
      have e2 : ((L.take (k + 1)).filter fun x => !p x) = ((L.take k).filter fun x => !p x) ++ [x] := by rw [htk, List.filter_append]; simp [hq]
      repeat' (first
        | refine awp_seqK fun K' hpK => ?_
        | refine awp_block ?_
        | refine awp_condG fun A' B' hpA hpB => ?_
        | refine useK (by with_reducible assumption) ?_
        | refine useP (by with_reducible assumption) ?_
        | refine ED_cons (fun _ => ?_) ?_
        | (refine stable_mk ?_; simp (disch := first | (with_reducible assumption) | (simp; done) | omega | (simp; omega)) [hkl, hat1, hatb1, hd0, cSS, hoo, hkk, hcal, ← hx]; done)
        | (refine stable_no ?_; simp (disch := first | (with_reducible assumption) | (simp; done) | omega | (simp; omega)) [hkl, hat1, hatb1, hd0, cSS, hoo, hkk, hcal, ← hx]; done)
        | (with_reducible refine And.intro ?_ ?_)
        | (with_reducible intro hc)
        | (with_reducible refine GDsplit (fun hc => ?_) (fun hc => ?_) <;> try simp [hc])
        | (with_reducible refine GDsplitN (fun hc => ?_) (fun hc => ?_) <;> try simp [hc])
        | (with_reducible refine GDsplitNB (fun hc => ?_) (fun hc => ?_) <;> try simp [hc])
        | (with_reducible refine GDsplitB (fun hc => ?_) (fun hc => ?_) <;> try simp [hc])
        | (with_reducible refine GKsplit (fun hc => ?_) (fun hc => ?_) <;> try simp [hc])
        | (with_reducible refine GKsplitN (fun hc => ?_) (fun hc => ?_) <;> try simp [hc])
        | (with_reducible refine GKsplitNB (fun hc => ?_) (fun hc => ?_) <;> try simp [hc])
        | (with_reducible refine GKsplitB (fun hc => ?_) (fun hc => ?_) <;> try simp [hc])
        | (refine CallK.use (hpx) ?_; rintro r G' _ _ ⟨rfl, rfl⟩)
        | simp (disch := first | (with_reducible assumption) | (simp; done) | omega | (simp; omega)) [hkl, hat1, hatb1, hd0, cSS, hoo, hkk, hcal, ← hx])
      obtain ⟨Gn, hgo', hgk'⟩ := hgk.swap hgo
      refine hgk'.app1 (x := x) (by simp [cSS]) (by simp [cSS]) (by simp [LIM]; omega) (fun v2 G2 hg2 => ?_)
      have hv2 := hg2.plain
      obtain ⟨Gq, hgk2, hgo2⟩ := hgo'.swap hg2
      repeat' (first
        | refine awp_seqK fun K' hpK => ?_
        | refine awp_block ?_
        | refine awp_condG fun A' B' hpA hpB => ?_
        | refine useK (by with_reducible assumption) ?_
        | refine useP (by with_reducible assumption) ?_
        | refine ED_cons (fun _ => ?_) ?_
        | (refine stable_mk ?_; simp (disch := first | (with_reducible assumption) | (simp; done) | omega | (simp; omega)) [hv2, hoo]; done)
        | (refine stable_no ?_; simp (disch := first | (with_reducible assumption) | (simp; done) | omega | (simp; omega)) [hv2, hoo]; done)
        | (with_reducible refine And.intro ?_ ?_)
        | (with_reducible intro hc)
        | (with_reducible refine GDsplit (fun hc => ?_) (fun hc => ?_) <;> try simp [hc])
        | (with_reducible refine GDsplitN (fun hc => ?_) (fun hc => ?_) <;> try simp [hc])
        | (with_reducible refine GDsplitNB (fun hc => ?_) (fun hc => ?_) <;> try simp [hc])
        | (with_reducible refine GDsplitB (fun hc => ?_) (fun hc => ?_) <;> try simp [hc])
        | (with_reducible refine GKsplit (fun hc => ?_) (fun hc => ?_) <;> try simp [hc])
        | (with_reducible refine GKsplitN (fun hc => ?_) (fun hc => ?_) <;> try simp [hc])
        | (with_reducible refine GKsplitNB (fun hc => ?_) (fun hc => ?_) <;> try simp [hc])
        | (with_reducible refine GKsplitB (fun hc => ?_) (fun hc => ?_) <;> try simp [hc])
        | simp (disch := first | (with_reducible assumption) | (simp; done) | omega | (simp; omega)) [hv2, hoo])
      exact hN (w - 1) _ _ (by omega) ⟨k + 1, oo, v2, Gq, by omega, by rw [e2]; exact hgk2, by rw [e1]; exact hgo2, by simp⟩
  · rw [List.take_of_length_le (by omega)] at hgk hgo
    have hkn := hgk.known
    have hks := hgk.scal
    have hkc := hgk.cells
    repeat' (first
      | refine awp_seqK fun K' hpK => ?_
      | refine awp_block ?_
      | refine awp_condG fun A' B' hpA hpB => ?_
      | refine useK (by with_reducible assumption) ?_
      | refine useP (by with_reducible assumption) ?_
      | refine ED_cons (fun _ => ?_) ?_
      | (refine stable_mk ?_; simp (disch := first | (with_reducible assumption) | (simp; done) | omega | (simp; omega)) [hkl, hoo, hkk, hat1, hkn, hks, hkc]; done)
      | (refine stable_no ?_; simp (disch := first | (with_reducible assumption) | (simp; done) | omega | (simp; omega)) [hkl, hoo, hkk, hat1, hkn, hks, hkc]; done)
      | (with_reducible refine And.intro ?_ ?_)
      | (with_reducible intro hc)
      | (with_reducible refine GDsplit (fun hc => ?_) (fun hc => ?_) <;> try simp [hc])
      | (with_reducible refine GDsplitN (fun hc => ?_) (fun hc => ?_) <;> try simp [hc])
      | (with_reducible refine GDsplitNB (fun hc => ?_) (fun hc => ?_) <;> try simp [hc])
      | (with_reducible refine GDsplitB (fun hc => ?_) (fun hc => ?_) <;> try simp [hc])
      | (with_reducible refine GKsplit (fun hc => ?_) (fun hc => ?_) <;> try simp [hc])
      | (with_reducible refine GKsplitN (fun hc => ?_) (fun hc => ?_) <;> try simp [hc])
      | (with_reducible refine GKsplitNB (fun hc => ?_) (fun hc => ?_) <;> try simp [hc])
      | (with_reducible refine GKsplitB (fun hc => ?_) (fun hc => ?_) <;> try simp [hc])
      | simp (disch := first | (with_reducible assumption) | (simp; done) | omega | (simp; omega)) [hkl, hoo, hkk, hat1, hkn, hks, hkc])
    obtain ⟨hn, r, hsub, hdn, hgn, hz, hr⟩ := Grow.sieve (o' := (0, [kk, .int .i64 mx])) hFsb hatF hgk hgo (by simp)
    exact ends_fr1 (by simp <;> rfl) hoo hsub hz (hpost _ _ ⟨hn, rfl, hdn, ⟨⟨kk, hgn⟩, hS.filter _⟩, r, rfl, hr⟩)
end Go.Proofs.Ytapocekfkbkefaa
