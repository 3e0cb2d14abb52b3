import Derived.Test.YtapocekfkbkefaaC1K
import Derived.Test.YtapocekfkbkefaaC2K
import Derived.Test.YtapocekfkbkefaaC3K
import Derived.Test.YtapocekfkbkefaaC4K
import Derived.Test.YtapocekfkbkefaaC5K
import Derived.Test.YtapocekfkbkefaaSLK
import Derived.Test.YtapocekfkbkefaaD1K
set_option linter.unusedSimpArgs false
set_option linter.unusedVariables false
namespace Go.Proofs.Ytapocekfkbkefaa
open Go Go.Al
set_option maxRecDepth 20000
attribute [local irreducible] awp aops aopsD eop pv ACalls CallK AppK AEnds ti

/-- the shelf int, int -/
def cSP (p : Int × Int) : List AV := .int .i64 p.1 :: [.int .i64 p.2]
@[simp] theorem cSP_len (p : Int × Int) : (cSP p).length = 2 := by simp [cSP]
@[simp] theorem cSP_scal (p : Int × Int) : (cSP p).all AV.scal = true := by simp [cSP]
def cKP (k : Int) : List AV := [.int .i64 k]
@[simp] theorem cKP_len (k : Int) : (cKP k).length = 1 := by simp [cKP]
def cVP (v : Int) : List AV := [.int .i64 v]
@[simp] theorem cVP_len (v : Int) : (cVP v).length = 1 := by simp [cVP]
def zVP : Int := (0 : Int)
def SHBP (sb : Nat) (out : AV) (h : Hp) (L : List (Int × Int)) (mx : Int) : Prop := Grow cSP 2 (one sb (0, [out, .int .i64 mx])) h out L
def SHP (sb : Nat) (h : Hp) (L : List (Int × Int)) (mx : Int) : Prop := (∃ out, SHBP sb out h L mx) ∧ Srt L
theorem SHBP.at {sb : Nat} {out : AV} {h : Hp} {L : List (Int × Int)} {mx : Int} (k : SHBP sb out h L mx) : h sb = some (0, [out, .int .i64 mx]) := Grow.base k (one_same ..)
theorem cSP_k (p : Int × Int) : (cSP p).drop 1 = cVP p.2 := by simp [cSP, cVP]

theorem newP_c {n : Int} : ACalls Try.prog 20 [.int .i64 n] emptyH fun r h' => ∃ sb, r = .ptr sb 0 ∧ SHP sb h' [] (maxR0 n) := by
  refine ACalls.hide fun post hpost => ?_
  refine F20_in (by simp) (by simp) fun hbd => ?_
  repeat' (first
    | refine awp_seqK fun K' hpK => ?_
    | refine awp_block ?_
    | refine awp_condG fun A' B' hpA hpB => ?_
    | refine useK (by with_reducible assumption) ?_
    | refine useP (by with_reducible assumption) ?_
    | refine ED_cons (fun _ => ?_) ?_
    | (refine stable_mk ?_; simp (disch := first | (with_reducible assumption) | (simp; done) | omega | (simp; omega)); done)
    | (refine stable_no ?_; simp (disch := first | (with_reducible assumption) | (simp; done) | omega | (simp; omega)); done)
    | (with_reducible refine And.intro ?_ ?_)
    | (with_reducible intro hc)
    | (with_reducible refine GDsplit (fun hc => ?_) (fun hc => ?_) <;> try simp [hc])
    | (with_reducible refine GDsplitN (fun hc => ?_) (fun hc => ?_) <;> try simp [hc])
    | (with_reducible refine GDsplitNB (fun hc => ?_) (fun hc => ?_) <;> try simp [hc])
    | (with_reducible refine GDsplitB (fun hc => ?_) (fun hc => ?_) <;> try simp [hc])
    | (with_reducible refine GKsplit (fun hc => ?_) (fun hc => ?_) <;> try simp [hc])
    | (with_reducible refine GKsplitN (fun hc => ?_) (fun hc => ?_) <;> try simp [hc])
    | (with_reducible refine GKsplitNB (fun hc => ?_) (fun hc => ?_) <;> try simp [hc])
    | (with_reducible refine GKsplitB (fun hc => ?_) (fun hc => ?_) <;> try simp [hc])
    | simp (disch := first | (with_reducible assumption) | (simp; done) | omega | (simp; omega)))
  intro sb hsb
  refine ⟨0, ?_⟩
  repeat' (first
    | refine awp_seqK fun K' hpK => ?_
    | refine awp_block ?_
    | refine awp_condG fun A' B' hpA hpB => ?_
    | refine useK (by with_reducible assumption) ?_
    | refine useP (by with_reducible assumption) ?_
    | refine ED_cons (fun _ => ?_) ?_
    | (refine stable_mk ?_; simp (disch := first | (with_reducible assumption) | (simp; done) | omega | (simp; omega)); done)
    | (refine stable_no ?_; simp (disch := first | (with_reducible assumption) | (simp; done) | omega | (simp; omega)); done)
    | (with_reducible refine And.intro ?_ ?_)
    | (with_reducible intro hc)
    | (with_reducible refine GDsplit (fun hc => ?_) (fun hc => ?_) <;> try simp [hc])
    | (with_reducible refine GDsplitN (fun hc => ?_) (fun hc => ?_) <;> try simp [hc])
    | (with_reducible refine GDsplitNB (fun hc => ?_) (fun hc => ?_) <;> try simp [hc])
    | (with_reducible refine GDsplitB (fun hc => ?_) (fun hc => ?_) <;> try simp [hc])
    | (with_reducible refine GKsplit (fun hc => ?_) (fun hc => ?_) <;> try simp [hc])
    | (with_reducible refine GKsplitN (fun hc => ?_) (fun hc => ?_) <;> try simp [hc])
    | (with_reducible refine GKsplitNB (fun hc => ?_) (fun hc => ?_) <;> try simp [hc])
    | (with_reducible refine GKsplitB (fun hc => ?_) (fun hc => ?_) <;> try simp [hc])
    | simp (disch := first | (with_reducible assumption) | (simp; done) | omega | (simp; omega)))
  refine ends_one (by simp <;> rfl) (by simp) (hpost _ _ ⟨sb, rfl, ⟨.nils, ?_⟩, Srt.nil⟩)
  exact Grow.nil _ _

set_option maxHeartbeats 1000000 in
theorem findP_c {sb : Nat} {h : Hp} {L : List (Int × Int)} {mx : Int} {k : Int} (hs : SHP sb h L mx) (hl : L.length ≤ 1000000) : ACalls Try.prog 48 [.ptr sb 0, .int .i64 k] h fun r h' => h' = h ∧ r = .tup [.int .i64 (posL L k), .bool (hasL L k)] := by
  obtain ⟨⟨out, hg⟩, hS⟩ := hs
  have hat := hg.at
  have hpo := Grow.plain hg
  have hal := fun {t : TypeId} => Grow.len (P := Try.prog) (t := t) hg
  refine ACalls.hide fun post hpost => ?_
  refine F48_in (by simp) (by simp) fun hbd => ?_
  repeat' (first
    | refine awp_seqK fun K' hpK => ?_
    | refine awp_block ?_
    | refine awp_condG fun A' B' hpA hpB => ?_
    | refine useK (by with_reducible assumption) ?_
    | refine useP (by with_reducible assumption) ?_
    | refine ED_cons (fun _ => ?_) ?_
    | (refine stable_mk ?_; simp (disch := first | (with_reducible assumption) | (simp; done) | omega | (simp; omega)) [hat, hpo, hal]; done)
    | (refine stable_no ?_; simp (disch := first | (with_reducible assumption) | (simp; done) | omega | (simp; omega)) [hat, hpo, hal]; done)
    | (with_reducible refine And.intro ?_ ?_)
    | (with_reducible intro hc)
    | (with_reducible refine GDsplit (fun hc => ?_) (fun hc => ?_) <;> try simp [hc])
    | (with_reducible refine GDsplitN (fun hc => ?_) (fun hc => ?_) <;> try simp [hc])
    | (with_reducible refine GDsplitNB (fun hc => ?_) (fun hc => ?_) <;> try simp [hc])
    | (with_reducible refine GDsplitB (fun hc => ?_) (fun hc => ?_) <;> try simp [hc])
    | (with_reducible refine GKsplit (fun hc => ?_) (fun hc => ?_) <;> try simp [hc])
    | (with_reducible refine GKsplitN (fun hc => ?_) (fun hc => ?_) <;> try simp [hc])
    | (with_reducible refine GKsplitNB (fun hc => ?_) (fun hc => ?_) <;> try simp [hc])
    | (with_reducible refine GKsplitB (fun hc => ?_) (fun hc => ?_) <;> try simp [hc])
    | simp (disch := first | (with_reducible assumption) | (simp; done) | omega | (simp; omega)) [hat, hpo, hal])
  refine awp_loop' (fun w T G' => ∃ lo hi : Nat, hi - lo = w ∧ lo ≤ posL L k ∧ posL L k ≤ hi ∧ hi ≤ L.length ∧ G' = h ∧ T = ofL [(0, .ptr sb 0), (1, .int .i64 k), (6, .int .i64 lo), (7, .int .i64 hi)]) L.length ⟨0, L.length, by omega, by omega, posL_le L k, by omega, rfl, by simp⟩ ?_
  rintro w T G' ⟨lo, hi, hw, h1, h2, h3, rfl, rfl⟩ N hN
  by_cases hlt : lo < hi
  · obtain ⟨m, hm, hm1, hm2⟩ : ∃ m : Nat, (lo : Int) + ((hi : Int) - lo).tdiv 2 = m ∧ lo ≤ m ∧ m < hi := ⟨lo + (hi - lo) / 2, by rw [Int.tdiv_eq_ediv_of_nonneg (by omega)]; omega, by omega, by omega⟩
    have hmL : m < L.length := by omega
    obtain ⟨b, τ, hb, rfl, hG⟩ := Grow.ms hg (by intro h; subst h; simp at hmL)
    have hatb : G' b = some (τ, L.flatMap cSP) := by rw [hG, setH_same]
    have hd := flat_at0 (f := cSP) (sz := 2) (by simp) hmL
    have hpl := posL_lt hS (k := k) hmL
    by_cases hmp : m < posL L k
    · have hk : (L[m]).1 < k := by have := hpl; rw [KO_int, decide_eq_true hmp] at this; exact of_decide_eq_true this
      repeat' (first
        | refine awp_seqK fun K' hpK => ?_
        | refine awp_block ?_
        | refine awp_condG fun A' B' hpA hpB => ?_
        | refine useK (by with_reducible assumption) ?_
        | refine useP (by with_reducible assumption) ?_
        | refine ED_cons (fun _ => ?_) ?_
        | (refine stable_mk ?_; simp (disch := first | (with_reducible assumption) | (simp; done) | omega | (simp; omega)) [hlt, hm, hat, hatb, hd, cSP, hk]; done)
        | (refine stable_no ?_; simp (disch := first | (with_reducible assumption) | (simp; done) | omega | (simp; omega)) [hlt, hm, hat, hatb, hd, cSP, hk]; done)
        | (with_reducible refine And.intro ?_ ?_)
        | (with_reducible intro hc)
        | (with_reducible refine GDsplit (fun hc => ?_) (fun hc => ?_) <;> try simp [hc])
        | (with_reducible refine GDsplitN (fun hc => ?_) (fun hc => ?_) <;> try simp [hc])
        | (with_reducible refine GDsplitNB (fun hc => ?_) (fun hc => ?_) <;> try simp [hc])
        | (with_reducible refine GDsplitB (fun hc => ?_) (fun hc => ?_) <;> try simp [hc])
        | (with_reducible refine GKsplit (fun hc => ?_) (fun hc => ?_) <;> try simp [hc])
        | (with_reducible refine GKsplitN (fun hc => ?_) (fun hc => ?_) <;> try simp [hc])
        | (with_reducible refine GKsplitNB (fun hc => ?_) (fun hc => ?_) <;> try simp [hc])
        | (with_reducible refine GKsplitB (fun hc => ?_) (fun hc => ?_) <;> try simp [hc])
        | simp (disch := first | (with_reducible assumption) | (simp; done) | omega | (simp; omega)) [hlt, hm, hat, hatb, hd, cSP, hk])
      exact hN (hi - (m + 1)) _ _ (by omega) ⟨m + 1, hi, rfl, by omega, h2, h3, rfl, by simp⟩
    · have hk : ¬ (L[m]).1 < k := by have := hpl; rw [KO_int, decide_eq_false hmp] at this; exact of_decide_eq_false this
      repeat' (first
        | refine awp_seqK fun K' hpK => ?_
        | refine awp_block ?_
        | refine awp_condG fun A' B' hpA hpB => ?_
        | refine useK (by with_reducible assumption) ?_
        | refine useP (by with_reducible assumption) ?_
        | refine ED_cons (fun _ => ?_) ?_
        | (refine stable_mk ?_; simp (disch := first | (with_reducible assumption) | (simp; done) | omega | (simp; omega)) [hlt, hm, hat, hatb, hd, cSP, hk]; done)
        | (refine stable_no ?_; simp (disch := first | (with_reducible assumption) | (simp; done) | omega | (simp; omega)) [hlt, hm, hat, hatb, hd, cSP, hk]; done)
        | (with_reducible refine And.intro ?_ ?_)
        | (with_reducible intro hc)
        | (with_reducible refine GDsplit (fun hc => ?_) (fun hc => ?_) <;> try simp [hc])
        | (with_reducible refine GDsplitN (fun hc => ?_) (fun hc => ?_) <;> try simp [hc])
        | (with_reducible refine GDsplitNB (fun hc => ?_) (fun hc => ?_) <;> try simp [hc])
        | (with_reducible refine GDsplitB (fun hc => ?_) (fun hc => ?_) <;> try simp [hc])
        | (with_reducible refine GKsplit (fun hc => ?_) (fun hc => ?_) <;> try simp [hc])
        | (with_reducible refine GKsplitN (fun hc => ?_) (fun hc => ?_) <;> try simp [hc])
        | (with_reducible refine GKsplitNB (fun hc => ?_) (fun hc => ?_) <;> try simp [hc])
        | (with_reducible refine GKsplitB (fun hc => ?_) (fun hc => ?_) <;> try simp [hc])
        | simp (disch := first | (with_reducible assumption) | (simp; done) | omega | (simp; omega)) [hlt, hm, hat, hatb, hd, cSP, hk])
      exact hN (m - lo) _ _ (by omega) ⟨lo, m, rfl, h1, by omega, by omega, rfl, by simp⟩
  · have hp : lo = posL L k := by omega
    have hhp := hasL_pos hS k
    by_cases hin : lo < L.length
    · obtain ⟨b, τ, hb, rfl, hG⟩ := Grow.ms hg (by intro h; subst h; simp at hin)
      have hatb : G' b = some (τ, L.flatMap cSP) := by rw [hG, setH_same]
      have hd := flat_at0 (f := cSP) (sz := 2) (by simp) hin
      by_cases hk : (L[lo]).1 = k
      · have hh : hasL L k = true := by rw [hhp, decide_eq_true]; subst hp; exact ⟨hin, hk⟩
        repeat' (first
          | refine awp_seqK fun K' hpK => ?_
          | refine awp_block ?_
          | refine awp_condG fun A' B' hpA hpB => ?_
          | refine useK (by with_reducible assumption) ?_
          | refine useP (by with_reducible assumption) ?_
          | refine ED_cons (fun _ => ?_) ?_
          | (refine stable_mk ?_; simp (disch := first | (with_reducible assumption) | (simp; done) | omega | (simp; omega)) [hlt, hat, hatb, hd, cSP, hk, hin]; done)
          | (refine stable_no ?_; simp (disch := first | (with_reducible assumption) | (simp; done) | omega | (simp; omega)) [hlt, hat, hatb, hd, cSP, hk, hin]; done)
          | (with_reducible refine And.intro ?_ ?_)
          | (with_reducible intro hc)
          | (with_reducible refine GDsplit (fun hc => ?_) (fun hc => ?_) <;> try simp [hc])
          | (with_reducible refine GDsplitN (fun hc => ?_) (fun hc => ?_) <;> try simp [hc])
          | (with_reducible refine GDsplitNB (fun hc => ?_) (fun hc => ?_) <;> try simp [hc])
          | (with_reducible refine GDsplitB (fun hc => ?_) (fun hc => ?_) <;> try simp [hc])
          | (with_reducible refine GKsplit (fun hc => ?_) (fun hc => ?_) <;> try simp [hc])
          | (with_reducible refine GKsplitN (fun hc => ?_) (fun hc => ?_) <;> try simp [hc])
          | (with_reducible refine GKsplitNB (fun hc => ?_) (fun hc => ?_) <;> try simp [hc])
          | (with_reducible refine GKsplitB (fun hc => ?_) (fun hc => ?_) <;> try simp [hc])
          | simp (disch := first | (with_reducible assumption) | (simp; done) | omega | (simp; omega)) [hlt, hat, hatb, hd, cSP, hk, hin])
        exact ends_two (by simp <;> exact ⟨rfl, rfl⟩) (by simp) (by simp) (hpost _ _ ⟨rfl, by rw [hh, hp]⟩)
      · have hh : hasL L k = false := by rw [hhp, decide_eq_false]; subst hp; rintro ⟨_, h⟩; exact hk h
        repeat' (first
          | refine awp_seqK fun K' hpK => ?_
          | refine awp_block ?_
          | refine awp_condG fun A' B' hpA hpB => ?_
          | refine useK (by with_reducible assumption) ?_
          | refine useP (by with_reducible assumption) ?_
          | refine ED_cons (fun _ => ?_) ?_
          | (refine stable_mk ?_; simp (disch := first | (with_reducible assumption) | (simp; done) | omega | (simp; omega)) [hlt, hat, hatb, hd, cSP, hk, hin]; done)
          | (refine stable_no ?_; simp (disch := first | (with_reducible assumption) | (simp; done) | omega | (simp; omega)) [hlt, hat, hatb, hd, cSP, hk, hin]; done)
          | (with_reducible refine And.intro ?_ ?_)
          | (with_reducible intro hc)
          | (with_reducible refine GDsplit (fun hc => ?_) (fun hc => ?_) <;> try simp [hc])
          | (with_reducible refine GDsplitN (fun hc => ?_) (fun hc => ?_) <;> try simp [hc])
          | (with_reducible refine GDsplitNB (fun hc => ?_) (fun hc => ?_) <;> try simp [hc])
          | (with_reducible refine GDsplitB (fun hc => ?_) (fun hc => ?_) <;> try simp [hc])
          | (with_reducible refine GKsplit (fun hc => ?_) (fun hc => ?_) <;> try simp [hc])
          | (with_reducible refine GKsplitN (fun hc => ?_) (fun hc => ?_) <;> try simp [hc])
          | (with_reducible refine GKsplitNB (fun hc => ?_) (fun hc => ?_) <;> try simp [hc])
          | (with_reducible refine GKsplitB (fun hc => ?_) (fun hc => ?_) <;> try simp [hc])
          | simp (disch := first | (with_reducible assumption) | (simp; done) | omega | (simp; omega)) [hlt, hat, hatb, hd, cSP, hk, hin])
        exact ends_two (by simp <;> exact ⟨rfl, rfl⟩) (by simp) (by simp) (hpost _ _ ⟨rfl, by rw [hh, hp]⟩)
    · have hh : hasL L k = false := by rw [hhp, decide_eq_false]; subst hp; rintro ⟨h, _⟩; exact hin h
      repeat' (first
        | refine awp_seqK fun K' hpK => ?_
        | refine awp_block ?_
        | refine awp_condG fun A' B' hpA hpB => ?_
        | refine useK (by with_reducible assumption) ?_
        | refine useP (by with_reducible assumption) ?_
        | refine ED_cons (fun _ => ?_) ?_
        | (refine stable_mk ?_; simp (disch := first | (with_reducible assumption) | (simp; done) | omega | (simp; omega)) [hlt, hat, hpo, hal, hin]; done)
        | (refine stable_no ?_; simp (disch := first | (with_reducible assumption) | (simp; done) | omega | (simp; omega)) [hlt, hat, hpo, hal, hin]; done)
        | (with_reducible refine And.intro ?_ ?_)
        | (with_reducible intro hc)
        | (with_reducible refine GDsplit (fun hc => ?_) (fun hc => ?_) <;> try simp [hc])
        | (with_reducible refine GDsplitN (fun hc => ?_) (fun hc => ?_) <;> try simp [hc])
        | (with_reducible refine GDsplitNB (fun hc => ?_) (fun hc => ?_) <;> try simp [hc])
        | (with_reducible refine GDsplitB (fun hc => ?_) (fun hc => ?_) <;> try simp [hc])
        | (with_reducible refine GKsplit (fun hc => ?_) (fun hc => ?_) <;> try simp [hc])
        | (with_reducible refine GKsplitN (fun hc => ?_) (fun hc => ?_) <;> try simp [hc])
        | (with_reducible refine GKsplitNB (fun hc => ?_) (fun hc => ?_) <;> try simp [hc])
        | (with_reducible refine GKsplitB (fun hc => ?_) (fun hc => ?_) <;> try simp [hc])
        | simp (disch := first | (with_reducible assumption) | (simp; done) | omega | (simp; omega)) [hlt, hat, hpo, hal, hin])
      exact ends_two (by simp <;> exact ⟨rfl, rfl⟩) (by simp) (by simp) (hpost _ _ ⟨rfl, by rw [hh, hp]⟩)

theorem lenP_c {sb : Nat} {h : Hp} {L : List (Int × Int)} {mx : Int} (hs : SHP sb h L mx) : ACalls Try.prog 56 [.ptr sb 0] h fun r h' => h' = h ∧ r = .int .i64 L.length := by
  obtain ⟨⟨out, hg⟩, hS⟩ := hs
  have hat := hg.at
  have hpo := Grow.plain hg
  have hal := fun {t : TypeId} => Grow.len (P := Try.prog) (t := t) hg
  refine ACalls.hide fun post hpost => ?_
  refine F56_in (by simp) (by simp) fun hbd => ?_
  repeat' (first
    | refine awp_seqK fun K' hpK => ?_
    | refine awp_block ?_
    | refine awp_condG fun A' B' hpA hpB => ?_
    | refine useK (by with_reducible assumption) ?_
    | refine useP (by with_reducible assumption) ?_
    | refine ED_cons (fun _ => ?_) ?_
    | (refine stable_mk ?_; simp (disch := first | (with_reducible assumption) | (simp; done) | omega | (simp; omega)) [hat, hpo, hal]; done)
    | (refine stable_no ?_; simp (disch := first | (with_reducible assumption) | (simp; done) | omega | (simp; omega)) [hat, hpo, hal]; done)
    | (with_reducible refine And.intro ?_ ?_)
    | (with_reducible intro hc)
    | (with_reducible refine GDsplit (fun hc => ?_) (fun hc => ?_) <;> try simp [hc])
    | (with_reducible refine GDsplitN (fun hc => ?_) (fun hc => ?_) <;> try simp [hc])
    | (with_reducible refine GDsplitNB (fun hc => ?_) (fun hc => ?_) <;> try simp [hc])
    | (with_reducible refine GDsplitB (fun hc => ?_) (fun hc => ?_) <;> try simp [hc])
    | (with_reducible refine GKsplit (fun hc => ?_) (fun hc => ?_) <;> try simp [hc])
    | (with_reducible refine GKsplitN (fun hc => ?_) (fun hc => ?_) <;> try simp [hc])
    | (with_reducible refine GKsplitNB (fun hc => ?_) (fun hc => ?_) <;> try simp [hc])
    | (with_reducible refine GKsplitB (fun hc => ?_) (fun hc => ?_) <;> try simp [hc])
    | simp (disch := first | (with_reducible assumption) | (simp; done) | omega | (simp; omega)) [hat, hpo, hal])
  exact ends_one (by simp <;> rfl) (by simp) (hpost _ _ ⟨rfl, rfl⟩)

set_option maxHeartbeats 1000000 in
theorem getP_c {sb : Nat} {h : Hp} {L : List (Int × Int)} {mx : Int} {k : Int} (hs : SHP sb h L mx) (hl : L.length ≤ 1000000) : ACalls Try.prog 29 [.ptr sb 0, .int .i64 k] h fun r h' => h' = h ∧ r = .tup [(.int .i64 ((getL L k).getD zVP)), .bool (getL L k).isSome] := by
  have hf := findP_c (k := k) hs hl
  obtain ⟨⟨out, hg⟩, hS⟩ := hs
  have hat := hg.at
  have hpo := Grow.plain hg
  cases hh : hasL L k with
  | true =>
    rw [hh] at hf
    obtain ⟨hin, hk, hge⟩ := getL_pos hS hh
    rw [hge]
    obtain ⟨b, τ, hb, rfl, hG⟩ := Grow.ms hg (by intro h; subst h; simp at hin)
    have hatb : h b = some (τ, L.flatMap cSP) := by rw [hG, setH_same]
    have hd := flat_at1 (f := cSP) (sz := 2) (j := 1) (by simp) hin (by simp)
    refine ACalls.hide fun post hpost => ?_
    refine F29_in (by simp) (by simp) fun hbd => ?_
    repeat' (first
      | refine awp_seqK fun K' hpK => ?_
      | refine awp_block ?_
      | refine awp_condG fun A' B' hpA hpB => ?_
      | refine useK (by with_reducible assumption) ?_
      | refine useP (by with_reducible assumption) ?_
      | refine ED_cons (fun _ => ?_) ?_
      | (refine stable_mk ?_; simp (disch := first | (with_reducible assumption) | (simp; done) | omega | (simp; omega)) [hat, hatb, hd, hin, cSP]; done)
      | (refine stable_no ?_; simp (disch := first | (with_reducible assumption) | (simp; done) | omega | (simp; omega)) [hat, hatb, hd, hin, cSP]; done)
      | (with_reducible refine And.intro ?_ ?_)
      | (with_reducible intro hc)
      | (with_reducible refine GDsplit (fun hc => ?_) (fun hc => ?_) <;> try simp [hc])
      | (with_reducible refine GDsplitN (fun hc => ?_) (fun hc => ?_) <;> try simp [hc])
      | (with_reducible refine GDsplitNB (fun hc => ?_) (fun hc => ?_) <;> try simp [hc])
      | (with_reducible refine GDsplitB (fun hc => ?_) (fun hc => ?_) <;> try simp [hc])
      | (with_reducible refine GKsplit (fun hc => ?_) (fun hc => ?_) <;> try simp [hc])
      | (with_reducible refine GKsplitN (fun hc => ?_) (fun hc => ?_) <;> try simp [hc])
      | (with_reducible refine GKsplitNB (fun hc => ?_) (fun hc => ?_) <;> try simp [hc])
      | (with_reducible refine GKsplitB (fun hc => ?_) (fun hc => ?_) <;> try simp [hc])
      | (refine CallK.use (hf) ?_; rintro r G' _ _ ⟨rfl, rfl⟩)
      | simp (disch := first | (with_reducible assumption) | (simp; done) | omega | (simp; omega)) [hat, hatb, hd, hin, cSP])
    exact ends_two (by simp <;> exact ⟨rfl, rfl⟩) (by simp) (by simp) (hpost _ _ ⟨rfl, by simp⟩)
  | false =>
    rw [hh] at hf
    have hge : getL L k = none := by rw [hasL_get] at hh; simpa using hh
    rw [hge]
    refine ACalls.hide fun post hpost => ?_
    refine F29_in (by simp) (by simp) fun hbd => ?_
    repeat' (first
      | refine awp_seqK fun K' hpK => ?_
      | refine awp_block ?_
      | refine awp_condG fun A' B' hpA hpB => ?_
      | refine useK (by with_reducible assumption) ?_
      | refine useP (by with_reducible assumption) ?_
      | refine ED_cons (fun _ => ?_) ?_
      | (refine stable_mk ?_; simp (disch := first | (with_reducible assumption) | (simp; done) | omega | (simp; omega)); done)
      | (refine stable_no ?_; simp (disch := first | (with_reducible assumption) | (simp; done) | omega | (simp; omega)); done)
      | (with_reducible refine And.intro ?_ ?_)
      | (with_reducible intro hc)
      | (with_reducible refine GDsplit (fun hc => ?_) (fun hc => ?_) <;> try simp [hc])
      | (with_reducible refine GDsplitN (fun hc => ?_) (fun hc => ?_) <;> try simp [hc])
      | (with_reducible refine GDsplitNB (fun hc => ?_) (fun hc => ?_) <;> try simp [hc])
      | (with_reducible refine GDsplitB (fun hc => ?_) (fun hc => ?_) <;> try simp [hc])
      | (with_reducible refine GKsplit (fun hc => ?_) (fun hc => ?_) <;> try simp [hc])
      | (with_reducible refine GKsplitN (fun hc => ?_) (fun hc => ?_) <;> try simp [hc])
      | (with_reducible refine GKsplitNB (fun hc => ?_) (fun hc => ?_) <;> try simp [hc])
      | (with_reducible refine GKsplitB (fun hc => ?_) (fun hc => ?_) <;> try simp [hc])
      | (refine CallK.use (hf) ?_; rintro r G' _ _ ⟨rfl, rfl⟩)
      | simp (disch := first | (with_reducible assumption) | (simp; done) | omega | (simp; omega)))
    exact ends_two (by simp <;> exact ⟨rfl, rfl⟩) (by simp) (by simp) (hpost _ _ ⟨rfl, by simp [zVP]⟩)

theorem insP_c {out : AV} {G0 G : Hp} {l : List (Int × Int)} (hg : Grow cSP 2 G0 G out l) {i : Nat} (x : Int × Int) (hi : i ≤ l.length) (hl : l.length ≤ 1000000) :
    ACalls Try.prog 54 [out, .int .i64 i, .sl 1 (cSP x)] G fun r G' => Grow cSP 2 G0 G' r (l.take i ++ x :: l.drop i) :=
  insG (ρ := ren76) slK76 ins54_f ovl54_f (by simp) (by simp) (by omega) hg x hi (by simp [LIM]; omega) (by simp [LIM]; omega)
def setRP (L : List (Int × Int)) (mx : Int) (k : Int) : Bool := hasL L k || decide ((L.length : Int) < mx)
set_option maxHeartbeats 1000000 in
theorem setP_c {sb : Nat} {h : Hp} {L : List (Int × Int)} {mx : Int} {k : Int} {v : Int} (hs : SHP sb h L mx) (hl : L.length ≤ 1000000) : ACalls Try.prog 41 [.ptr sb 0, .int .i64 k, (.int .i64 v)] h fun r h' => SHP sb h' (if setRP L mx k then setL L k v else L) mx ∧ r = .int .i64 (if setRP L mx k then 0 else 4) := by
  have hf := findP_c (k := k) hs hl
  have hs0 := hs
  obtain ⟨⟨out, hg⟩, hS⟩ := hs
  have hat := hg.at
  have hpo := Grow.plain hg
  have hal := fun {t : TypeId} => Grow.len (P := Try.prog) (t := t) hg
  have hpl := posL_le L k
  have hSs := hS.set k v
  cases hh : hasL L k with
  | true =>
    rw [hh] at hf
    have e : setRP L mx k = true := by unfold setRP; rw [hh]; rfl
    rw [e]
    obtain ⟨hin, hk, hge⟩ := getL_pos hS hh
    have hset := setL_has (v := v) hS hh
    rw [hset] at hSs
    obtain ⟨b, τ, hb, rfl, hG⟩ := Grow.ms hg (by intro h; subst h; simp at hin)
    have hatb : h b = some (τ, L.flatMap cSP) := by rw [hG, setH_same]
    have hlen : (L.flatMap cSP).length = L.length * 2 := flat_len (by simp) L
    have hle : posL L k * 2 + 2 ≤ L.length * 2 := by omega
    have hsp : splice (L.flatMap cSP) (posL L k * 2 + 1) [.int .i64 v] = (L.set (posL L k) (k, v)).flatMap cSP := flat_splice (by simp) hin (by simp) (by simp [cSP, hk])
    have hfit : posL L k * 2 + 1 + ([.int .i64 v] : List AV).length ≤ (L.flatMap cSP).length := by rw [hlen]; simp; omega
    subst hG
    refine ACalls.hide fun post hpost => ?_
    refine F41_in (by simp) (by simp) fun hbd => ?_
    repeat' (first
      | refine awp_seqK fun K' hpK => ?_
      | refine awp_block ?_
      | refine awp_condG fun A' B' hpA hpB => ?_
      | refine useK (by with_reducible assumption) ?_
      | refine useP (by with_reducible assumption) ?_
      | refine ED_cons (fun _ => ?_) ?_
      | (refine stable_mk ?_; simp (disch := first | (with_reducible assumption) | (simp; done) | omega | (simp; omega)) [hat, hatb, hin, hlen, hle, hsp, setH_setH]; done)
      | (refine stable_no ?_; simp (disch := first | (with_reducible assumption) | (simp; done) | omega | (simp; omega)) [hat, hatb, hin, hlen, hle, hsp, setH_setH]; done)
      | (with_reducible refine And.intro ?_ ?_)
      | (with_reducible intro hc; try (exfalso; omega))
      | (with_reducible refine GDsplit (fun hc => ?_) (fun hc => ?_) <;> try simp [hc])
      | (with_reducible refine GDsplitN (fun hc => ?_) (fun hc => ?_) <;> try simp [hc])
      | (with_reducible refine GDsplitNB (fun hc => ?_) (fun hc => ?_) <;> try simp [hc])
      | (with_reducible refine GDsplitB (fun hc => ?_) (fun hc => ?_) <;> try simp [hc])
      | (with_reducible refine GKsplit (fun hc => ?_) (fun hc => ?_) <;> try simp [hc])
      | (with_reducible refine GKsplitN (fun hc => ?_) (fun hc => ?_) <;> try simp [hc])
      | (with_reducible refine GKsplitNB (fun hc => ?_) (fun hc => ?_) <;> try simp [hc])
      | (with_reducible refine GKsplitB (fun hc => ?_) (fun hc => ?_) <;> try simp [hc])
      | (refine CallK.use (hf) ?_; rintro r G' _ _ ⟨rfl, rfl⟩)
      | simp (disch := first | (with_reducible assumption) | (simp; done) | omega | (simp; omega)) [hat, hatb, hin, hlen, hle, hsp, setH_setH])
    refine ends_one (by simp <;> rfl) (by simp) (hpost _ _ ⟨⟨⟨.ms b 0 L.length 2, .inr ⟨b, τ, hb, by simp [hset], by simp only [if_true, hset, ← hsp]; simp [splice]⟩⟩, by simpa [hset] using hSs⟩, by simp⟩)
  | false =>
    rw [hh] at hf
    by_cases hr : (L.length : Int) < mx
    · have e : setRP L mx k = true := by unfold setRP; rw [hh, decide_eq_true hr]; rfl
      rw [e]
      have hset := setL_new (v := v) hS hh
      have hins := insP_c hg (k, v) hpl hl
      rw [← hset] at hins
      simp only [cSP] at hins
      refine ACalls.hide fun post hpost => ?_
      refine F41_in (by simp) (by simp) fun hbd => ?_
      repeat' (first
        | refine awp_seqK fun K' hpK => ?_
        | refine awp_block ?_
        | refine awp_condG fun A' B' hpA hpB => ?_
        | refine useK (by with_reducible assumption) ?_
        | refine useP (by with_reducible assumption) ?_
        | refine ED_cons (fun _ => ?_) ?_
        | (refine stable_mk ?_; simp (disch := first | (with_reducible assumption) | (simp; done) | omega | (simp; omega)) [hat, hpo, hal, hr]; done)
        | (refine stable_no ?_; simp (disch := first | (with_reducible assumption) | (simp; done) | omega | (simp; omega)) [hat, hpo, hal, hr]; done)
        | (with_reducible refine And.intro ?_ ?_)
        | (with_reducible intro hc; try (exfalso; omega))
        | (with_reducible refine GDsplit (fun hc => ?_) (fun hc => ?_) <;> try simp [hc])
        | (with_reducible refine GDsplitN (fun hc => ?_) (fun hc => ?_) <;> try simp [hc])
        | (with_reducible refine GDsplitNB (fun hc => ?_) (fun hc => ?_) <;> try simp [hc])
        | (with_reducible refine GDsplitB (fun hc => ?_) (fun hc => ?_) <;> try simp [hc])
        | (with_reducible refine GKsplit (fun hc => ?_) (fun hc => ?_) <;> try simp [hc])
        | (with_reducible refine GKsplitN (fun hc => ?_) (fun hc => ?_) <;> try simp [hc])
        | (with_reducible refine GKsplitNB (fun hc => ?_) (fun hc => ?_) <;> try simp [hc])
        | (with_reducible refine GKsplitB (fun hc => ?_) (fun hc => ?_) <;> try simp [hc])
        | (refine CallK.use (hf) ?_; rintro r G' _ _ ⟨rfl, rfl⟩)
        | simp (disch := first | (with_reducible assumption) | (simp; done) | omega | (simp; omega)) [hat, hpo, hal, hr])
      refine CallK.use hins ?_
      rintro r2 G2 _ _ hg2
      have hat2 := Grow.base hg2 (one_same ..)
      have hv2 := Grow.plain hg2
      have hk2 := Grow.known hg2
      have hs2 := Grow.scal hg2
      have hc2 := Grow.cells hg2
      obtain ⟨h', hs', hg3⟩ := Grow.cut (Grow.set hg2 (one_same ..) (o' := (0, [r2, .int .i64 mx]))) (b := sb) (o := (0, [r2, .int .i64 mx])) (o' := (0, [r2, .int .i64 mx])) (setH_same ..)
      rw [setH_setH] at hs'
      repeat' (first
        | refine awp_seqK fun K' hpK => ?_
        | refine awp_block ?_
        | refine awp_condG fun A' B' hpA hpB => ?_
        | refine useK (by with_reducible assumption) ?_
        | refine useP (by with_reducible assumption) ?_
        | refine ED_cons (fun _ => ?_) ?_
        | (refine stable_mk ?_; simp (disch := first | (with_reducible assumption) | (simp; done) | omega | (simp; omega)) [hv2, hk2, hs2, hc2, hat2]; done)
        | (refine stable_no ?_; simp (disch := first | (with_reducible assumption) | (simp; done) | omega | (simp; omega)) [hv2, hk2, hs2, hc2, hat2]; done)
        | (with_reducible refine And.intro ?_ ?_)
        | (with_reducible intro hc)
        | (with_reducible refine GDsplit (fun hc => ?_) (fun hc => ?_) <;> try simp [hc])
        | (with_reducible refine GDsplitN (fun hc => ?_) (fun hc => ?_) <;> try simp [hc])
        | (with_reducible refine GDsplitNB (fun hc => ?_) (fun hc => ?_) <;> try simp [hc])
        | (with_reducible refine GDsplitB (fun hc => ?_) (fun hc => ?_) <;> try simp [hc])
        | (with_reducible refine GKsplit (fun hc => ?_) (fun hc => ?_) <;> try simp [hc])
        | (with_reducible refine GKsplitN (fun hc => ?_) (fun hc => ?_) <;> try simp [hc])
        | (with_reducible refine GKsplitNB (fun hc => ?_) (fun hc => ?_) <;> try simp [hc])
        | (with_reducible refine GKsplitB (fun hc => ?_) (fun hc => ?_) <;> try simp [hc])
        | simp (disch := first | (with_reducible assumption) | (simp; done) | omega | (simp; omega)) [hv2, hk2, hs2, hc2, hat2])
      exact ends_one_sub (by simp <;> rfl) (by simp) hs' (hpost _ _ ⟨⟨⟨r2, hg3⟩, hSs⟩, rfl⟩)
    · have e : setRP L mx k = false := by unfold setRP; rw [hh, decide_eq_false hr]; rfl
      rw [e]
      refine ACalls.hide fun post hpost => ?_
      refine F41_in (by simp) (by simp) fun hbd => ?_
      repeat' (first
        | refine awp_seqK fun K' hpK => ?_
        | refine awp_block ?_
        | refine awp_condG fun A' B' hpA hpB => ?_
        | refine useK (by with_reducible assumption) ?_
        | refine useP (by with_reducible assumption) ?_
        | refine ED_cons (fun _ => ?_) ?_
        | (refine stable_mk ?_; simp (disch := first | (with_reducible assumption) | (simp; done) | omega | (simp; omega)) [hat, hpo, hal, hr]; done)
        | (refine stable_no ?_; simp (disch := first | (with_reducible assumption) | (simp; done) | omega | (simp; omega)) [hat, hpo, hal, hr]; done)
        | (with_reducible refine And.intro ?_ ?_)
        | (with_reducible intro hc; try (exfalso; omega))
        | (with_reducible refine GDsplit (fun hc => ?_) (fun hc => ?_) <;> try simp [hc])
        | (with_reducible refine GDsplitN (fun hc => ?_) (fun hc => ?_) <;> try simp [hc])
        | (with_reducible refine GDsplitNB (fun hc => ?_) (fun hc => ?_) <;> try simp [hc])
        | (with_reducible refine GDsplitB (fun hc => ?_) (fun hc => ?_) <;> try simp [hc])
        | (with_reducible refine GKsplit (fun hc => ?_) (fun hc => ?_) <;> try simp [hc])
        | (with_reducible refine GKsplitN (fun hc => ?_) (fun hc => ?_) <;> try simp [hc])
        | (with_reducible refine GKsplitNB (fun hc => ?_) (fun hc => ?_) <;> try simp [hc])
        | (with_reducible refine GKsplitB (fun hc => ?_) (fun hc => ?_) <;> try simp [hc])
        | (refine CallK.use (hf) ?_; rintro r G' _ _ ⟨rfl, rfl⟩)
        | simp (disch := first | (with_reducible assumption) | (simp; done) | omega | (simp; omega)) [hat, hpo, hal, hr])
      exact ends_one (by simp <;> rfl) (by simp) (hpost _ _ ⟨hs0, rfl⟩)

theorem newP_E {n m : Int} (hm : maxR0 n = m) : ACalls Try.prog 20 [.int .i64 n] emptyH fun r h' => ∃ sb, r = .ptr sb 0 ∧ SHP sb h' [] m := by subst hm; exact newP_c
theorem setP_E {sb : Nat} {h : Hp} {L M : List (Int × Int)} {mx e : Int} {k : Int} {v : Int} (hs : SHP sb h L mx) (hl : L.length ≤ 1000000) (hM : (if setRP L mx k then setL L k v else L) = M) (he : (if setRP L mx k then 0 else 4) = e) : ACalls Try.prog 41 [.ptr sb 0, .int .i64 k, (.int .i64 v)] h fun r h' => SHP sb h' M mx ∧ r = .int .i64 e := by subst hM; subst he; exact setP_c hs hl

theorem sdelP_c {out : AV} {G0 G : Hp} {l : List (Int × Int)} (hg : Grow cSP 2 G0 G out l) {i j : Nat} (hij : i ≤ j) (hj : j ≤ l.length) (hlt : 0 < l.length) :
    ACalls Try.prog 55 [out, .int .i64 i, .int .i64 j] G fun r G' => Grow cSP 2 G0 G' r (l.take i ++ l.drop j) :=
  delG (ρ := ren76) slT76 del55_f (by simp) (by simp) (by omega) hg hij hj hlt
def delsLP (L : List (Int × Int)) : List Int → List (Int × Int)
  | [] => L
  | k :: r => delsLP (delL L k) r
def delsNP (L : List (Int × Int)) : List Int → Nat
  | [] => 0
  | k :: r => (if hasL L k then 1 else 0) + delsNP (delL L k) r
theorem delsLP_app (L : List (Int × Int)) (l m : List Int) : delsLP L (l ++ m) = delsLP (delsLP L l) m := by
  induction l generalizing L with
  | nil => rfl
  | cons k l ih => exact ih _
theorem delsNP_app (L : List (Int × Int)) (l m : List Int) : delsNP L (l ++ m) = delsNP L l + delsNP (delsLP L l) m := by
  induction l generalizing L with
  | nil => simp [delsNP, delsLP]
  | cons k l ih => simp only [List.cons_append, delsNP, delsLP, ih]; omega
theorem delsNP_le (L : List (Int × Int)) (l : List Int) : delsNP L l ≤ l.length := by
  induction l generalizing L with
  | nil => simp [delsNP]
  | cons k l ih => simp only [delsNP, List.length_cons]; have := ih (delL L k); split <;> omega
theorem delsLP_len (L : List (Int × Int)) (l : List Int) : (delsLP L l).length ≤ L.length := by
  induction l generalizing L with
  | nil => exact Nat.le_refl _
  | cons k l ih => exact Nat.le_trans (ih _) (delL_len_le L k)
set_option maxHeartbeats 1000000 in
theorem delP_c {sb : Nat} {h : Hp} {L : List (Int × Int)} {mx : Int} {s : Option (List Int)} (hs : SHP sb h L mx) (hl : L.length ≤ 1000000) (hsl : (LL s).length ≤ 1000000) : ACalls Try.prog 43 [.ptr sb 0, ofS cKP s] h fun r h' => SHP sb h' (delsLP L (LL s)) mx ∧ r = .int .i64 (delsNP L (LL s)) := by
  refine ACalls.hide fun post hpost => ?_
  refine F43_in (by simp) (by simp) fun hbd => ?_
  repeat' (first
    | refine awp_seqK fun K' hpK => ?_
    | refine awp_block ?_
    | refine awp_condG fun A' B' hpA hpB => ?_
    | refine useK (by with_reducible assumption) ?_
    | refine useP (by with_reducible assumption) ?_
    | refine ED_cons (fun _ => ?_) ?_
    | (refine stable_mk ?_; simp (disch := first | (with_reducible assumption) | (simp; done) | omega | (simp; omega)); done)
    | (refine stable_no ?_; simp (disch := first | (with_reducible assumption) | (simp; done) | omega | (simp; omega)); done)
    | (with_reducible refine And.intro ?_ ?_)
    | (with_reducible intro hc)
    | (with_reducible refine GDsplit (fun hc => ?_) (fun hc => ?_) <;> try simp [hc])
    | (with_reducible refine GDsplitN (fun hc => ?_) (fun hc => ?_) <;> try simp [hc])
    | (with_reducible refine GDsplitNB (fun hc => ?_) (fun hc => ?_) <;> try simp [hc])
    | (with_reducible refine GDsplitB (fun hc => ?_) (fun hc => ?_) <;> try simp [hc])
    | (with_reducible refine GKsplit (fun hc => ?_) (fun hc => ?_) <;> try simp [hc])
    | (with_reducible refine GKsplitN (fun hc => ?_) (fun hc => ?_) <;> try simp [hc])
    | (with_reducible refine GKsplitNB (fun hc => ?_) (fun hc => ?_) <;> try simp [hc])
    | (with_reducible refine GKsplitB (fun hc => ?_) (fun hc => ?_) <;> try simp [hc])
    | simp (disch := first | (with_reducible assumption) | (simp; done) | omega | (simp; omega)))
  refine awp_loop' (fun w T G' => ∃ k : Nat, k + w = (LL s).length ∧ SHP sb G' (delsLP L ((LL s).take k)) mx ∧ T = ofL [(0, .ptr sb 0), (5, .int .i64 (delsNP L ((LL s).take k))), (10, ofS cKP s), (11, .int .i64 (LL s).length), (12, .int .i64 k)]) (LL s).length ⟨0, by omega, hs, by simp [delsNP]⟩ ?_
  rintro w T G' ⟨k, hk, hsk, rfl⟩ N hN
  have hsl2 := delsNP_le L ((LL s).take k)
  rw [List.length_take] at hsl2
  by_cases hkl : k < (LL s).length
  · have htk := take_succ_get (LL s) k hkl
    have e1 : delsLP L ((LL s).take (k + 1)) = delL (delsLP L ((LL s).take k)) (LL s)[k] := by rw [htk, delsLP_app]; rfl
    have e2 : delsNP L ((LL s).take (k + 1)) = delsNP L ((LL s).take k) + (if hasL (delsLP L ((LL s).take k)) (LL s)[k] then 1 else 0) := by rw [htk, delsNP_app]; simp [delsNP]
    have hML : (delsLP L ((LL s).take k)).length ≤ 1000000 := Nat.le_trans (delsLP_len _ _) hl
    generalize delsLP L ((LL s).take k) = M at *
    have hf := findP_c (k := (LL s)[k]) hsk hML
    have hsk0 := hsk
    obtain ⟨⟨out, hg⟩, hS⟩ := hsk
    have hat := hg.at
    have hpo := Grow.plain hg
    have hpl := posL_le M (LL s)[k]
    cases hh : hasL M (LL s)[k] with
    | false =>
      rw [hh] at hf e2
      repeat' (first
        | refine awp_seqK fun K' hpK => ?_
        | refine awp_block ?_
        | refine awp_condG fun A' B' hpA hpB => ?_
        | refine useK (by with_reducible assumption) ?_
        | refine useP (by with_reducible assumption) ?_
        | refine ED_cons (fun _ => ?_) ?_
        | (refine stable_mk ?_; simp (disch := first | (with_reducible assumption) | (simp; done) | omega | (simp; omega)) [hkl, ofS_idx (f := cKP), cKP]; done)
        | (refine stable_no ?_; simp (disch := first | (with_reducible assumption) | (simp; done) | omega | (simp; omega)) [hkl, ofS_idx (f := cKP), cKP]; done)
        | (with_reducible refine And.intro ?_ ?_)
        | (with_reducible intro hc)
        | (with_reducible refine GDsplit (fun hc => ?_) (fun hc => ?_) <;> try simp [hc])
        | (with_reducible refine GDsplitN (fun hc => ?_) (fun hc => ?_) <;> try simp [hc])
        | (with_reducible refine GDsplitNB (fun hc => ?_) (fun hc => ?_) <;> try simp [hc])
        | (with_reducible refine GDsplitB (fun hc => ?_) (fun hc => ?_) <;> try simp [hc])
        | (with_reducible refine GKsplit (fun hc => ?_) (fun hc => ?_) <;> try simp [hc])
        | (with_reducible refine GKsplitN (fun hc => ?_) (fun hc => ?_) <;> try simp [hc])
        | (with_reducible refine GKsplitNB (fun hc => ?_) (fun hc => ?_) <;> try simp [hc])
        | (with_reducible refine GKsplitB (fun hc => ?_) (fun hc => ?_) <;> try simp [hc])
        | (refine CallK.use (hf) ?_; rintro r G' _ _ ⟨rfl, rfl⟩)
        | simp (disch := first | (with_reducible assumption) | (simp; done) | omega | (simp; omega)) [hkl, ofS_idx (f := cKP), cKP])
      exact hN (w - 1) _ _ (by omega) ⟨k + 1, by omega, by rw [e1, delL_none hh]; exact hsk0, by rw [e2]; simp⟩
    | true =>
      rw [hh] at hf e2
      obtain ⟨hin, _, _⟩ := getL_pos hS hh
      have hdl := delL_has hS hh
      have hSd := hS.del (LL s)[k]
      have hk1 : ((posL M (LL s)[k] : Int) + 1) = ((posL M (LL s)[k] + 1 : Nat) : Int) := by omega
      repeat' (first
        | refine awp_seqK fun K' hpK => ?_
        | refine awp_block ?_
        | refine awp_condG fun A' B' hpA hpB => ?_
        | refine useK (by with_reducible assumption) ?_
        | refine useP (by with_reducible assumption) ?_
        | refine ED_cons (fun _ => ?_) ?_
        | (refine stable_mk ?_; simp (disch := first | (with_reducible assumption) | (simp; done) | omega | (simp; omega)) [hkl, ofS_idx (f := cKP), cKP, hat, hpo]; done)
        | (refine stable_no ?_; simp (disch := first | (with_reducible assumption) | (simp; done) | omega | (simp; omega)) [hkl, ofS_idx (f := cKP), cKP, hat, hpo]; done)
        | (with_reducible refine And.intro ?_ ?_)
        | (with_reducible intro hc)
        | (with_reducible refine GDsplit (fun hc => ?_) (fun hc => ?_) <;> try simp [hc])
        | (with_reducible refine GDsplitN (fun hc => ?_) (fun hc => ?_) <;> try simp [hc])
        | (with_reducible refine GDsplitNB (fun hc => ?_) (fun hc => ?_) <;> try simp [hc])
        | (with_reducible refine GDsplitB (fun hc => ?_) (fun hc => ?_) <;> try simp [hc])
        | (with_reducible refine GKsplit (fun hc => ?_) (fun hc => ?_) <;> try simp [hc])
        | (with_reducible refine GKsplitN (fun hc => ?_) (fun hc => ?_) <;> try simp [hc])
        | (with_reducible refine GKsplitNB (fun hc => ?_) (fun hc => ?_) <;> try simp [hc])
        | (with_reducible refine GKsplitB (fun hc => ?_) (fun hc => ?_) <;> try simp [hc])
        | (refine CallK.use (hf) ?_; rintro r G' _ _ ⟨rfl, rfl⟩)
        | simp (disch := first | (with_reducible assumption) | (simp; done) | omega | (simp; omega)) [hkl, ofS_idx (f := cKP), cKP, hat, hpo])
      rw [hk1]
      refine CallK.use (sdelP_c hg (show posL M (LL s)[k] ≤ posL M (LL s)[k] + 1 by omega) (by omega) (by omega)) ?_; rintro r2 G2 _ _ hg2
      rw [← hdl] at hg2
      have hat2 := Grow.base hg2 (one_same ..)
      have hv2 := Grow.plain hg2
      have hk2 := Grow.known hg2
      have hs2 := Grow.scal hg2
      have hc2 := Grow.cells hg2
      have hg3 := Grow.set hg2 (one_same ..) (o' := (0, [r2, .int .i64 mx]))
      rw [setH_one] at hg3
      repeat' (first
        | refine awp_seqK fun K' hpK => ?_
        | refine awp_block ?_
        | refine awp_condG fun A' B' hpA hpB => ?_
        | refine useK (by with_reducible assumption) ?_
        | refine useP (by with_reducible assumption) ?_
        | refine ED_cons (fun _ => ?_) ?_
        | (refine stable_mk ?_; simp (disch := first | (with_reducible assumption) | (simp; done) | omega | (simp; omega)) [hv2, hk2, hs2, hc2, hat2]; done)
        | (refine stable_no ?_; simp (disch := first | (with_reducible assumption) | (simp; done) | omega | (simp; omega)) [hv2, hk2, hs2, hc2, hat2]; done)
        | (with_reducible refine And.intro ?_ ?_)
        | (with_reducible intro hc)
        | (with_reducible refine GDsplit (fun hc => ?_) (fun hc => ?_) <;> try simp [hc])
        | (with_reducible refine GDsplitN (fun hc => ?_) (fun hc => ?_) <;> try simp [hc])
        | (with_reducible refine GDsplitNB (fun hc => ?_) (fun hc => ?_) <;> try simp [hc])
        | (with_reducible refine GDsplitB (fun hc => ?_) (fun hc => ?_) <;> try simp [hc])
        | (with_reducible refine GKsplit (fun hc => ?_) (fun hc => ?_) <;> try simp [hc])
        | (with_reducible refine GKsplitN (fun hc => ?_) (fun hc => ?_) <;> try simp [hc])
        | (with_reducible refine GKsplitNB (fun hc => ?_) (fun hc => ?_) <;> try simp [hc])
        | (with_reducible refine GKsplitB (fun hc => ?_) (fun hc => ?_) <;> try simp [hc])
        | simp (disch := first | (with_reducible assumption) | (simp; done) | omega | (simp; omega)) [hv2, hk2, hs2, hc2, hat2])
      exact hN (w - 1) _ _ (by omega) ⟨k + 1, by omega, by rw [e1]; exact ⟨⟨r2, hg3⟩, hSd⟩, by rw [e2]; simp⟩
  · have hke : k = (LL s).length := by omega
    rw [hke, List.take_length] at hsk
    rw [hke, List.take_length]
    repeat' (first
      | refine awp_seqK fun K' hpK => ?_
      | refine awp_block ?_
      | refine awp_condG fun A' B' hpA hpB => ?_
      | refine useK (by with_reducible assumption) ?_
      | refine useP (by with_reducible assumption) ?_
      | refine ED_cons (fun _ => ?_) ?_
      | (refine stable_mk ?_; simp (disch := first | (with_reducible assumption) | (simp; done) | omega | (simp; omega)) [hkl]; done)
      | (refine stable_no ?_; simp (disch := first | (with_reducible assumption) | (simp; done) | omega | (simp; omega)) [hkl]; done)
      | (with_reducible refine And.intro ?_ ?_)
      | (with_reducible intro hc)
      | (with_reducible refine GDsplit (fun hc => ?_) (fun hc => ?_) <;> try simp [hc])
      | (with_reducible refine GDsplitN (fun hc => ?_) (fun hc => ?_) <;> try simp [hc])
      | (with_reducible refine GDsplitNB (fun hc => ?_) (fun hc => ?_) <;> try simp [hc])
      | (with_reducible refine GDsplitB (fun hc => ?_) (fun hc => ?_) <;> try simp [hc])
      | (with_reducible refine GKsplit (fun hc => ?_) (fun hc => ?_) <;> try simp [hc])
      | (with_reducible refine GKsplitN (fun hc => ?_) (fun hc => ?_) <;> try simp [hc])
      | (with_reducible refine GKsplitNB (fun hc => ?_) (fun hc => ?_) <;> try simp [hc])
      | (with_reducible refine GKsplitB (fun hc => ?_) (fun hc => ?_) <;> try simp [hc])
      | simp (disch := first | (with_reducible assumption) | (simp; done) | omega | (simp; omega)) [hkl])
    exact ends_one (by simp <;> rfl) (by simp) (hpost _ _ ⟨hsk, rfl⟩)

set_option maxHeartbeats 1000000 in
theorem keysPG {sb : Nat} {h : Hp} {L : List (Int × Int)} {mx : Int} (hs : SHP sb h L mx) (hl : L.length ≤ 1000000) : ACalls Try.prog 45 [.ptr sb 0] h fun r h' => Grow cKP 1 h h' r (L.map Prod.fst) := by
  have hle := lenP_c hs
  obtain ⟨⟨out, hg⟩, hS⟩ := hs
  have hat := hg.at
  have hpo := Grow.plain hg
  refine ACalls.hide fun post hpost => ?_
  refine F45_in (by simp) (by simp) fun hbd => ?_
  repeat' (first
    | refine awp_seqK fun K' hpK => ?_
    | refine awp_block ?_
    | refine awp_condG fun A' B' hpA hpB => ?_
    | refine useK (by with_reducible assumption) ?_
    | refine useP (by with_reducible assumption) ?_
    | refine ED_cons (fun _ => ?_) ?_
    | (refine stable_mk ?_; simp (disch := first | (with_reducible assumption) | (simp; done) | omega | (simp; omega)); done)
    | (refine stable_no ?_; simp (disch := first | (with_reducible assumption) | (simp; done) | omega | (simp; omega)); done)
    | (with_reducible refine And.intro ?_ ?_)
    | (with_reducible intro hc)
    | (with_reducible refine GDsplit (fun hc => ?_) (fun hc => ?_) <;> try simp [hc])
    | (with_reducible refine GDsplitN (fun hc => ?_) (fun hc => ?_) <;> try simp [hc])
    | (with_reducible refine GDsplitNB (fun hc => ?_) (fun hc => ?_) <;> try simp [hc])
    | (with_reducible refine GDsplitB (fun hc => ?_) (fun hc => ?_) <;> try simp [hc])
    | (with_reducible refine GKsplit (fun hc => ?_) (fun hc => ?_) <;> try simp [hc])
    | (with_reducible refine GKsplitN (fun hc => ?_) (fun hc => ?_) <;> try simp [hc])
    | (with_reducible refine GKsplitNB (fun hc => ?_) (fun hc => ?_) <;> try simp [hc])
    | (with_reducible refine GKsplitB (fun hc => ?_) (fun hc => ?_) <;> try simp [hc])
    | (refine CallK.use (hle) ?_; rintro r G' _ _ ⟨rfl, rfl⟩)
    | simp (disch := first | (with_reducible assumption) | (simp; done) | omega | (simp; omega)))
  refine awp_loop' (fun w T G1 => ∃ (k : Nat) (o : AV), k + w = L.length ∧ Grow cKP 1 G' G1 o ((L.map Prod.fst).take k) ∧ T = ofL [(0, .ptr sb 0), (3, o), (6, .int .i64 L.length), (7, .int .i64 k)]) L.length ⟨0, .nils, by omega, Grow.nil _ _, by simp⟩ ?_
  rintro w T G1 ⟨k, o, hk, hgo, rfl⟩ N hN
  have hoo := hgo.plain
  by_cases hkl : k < L.length
  · obtain ⟨b, τ, hb, rfl, hG⟩ := Grow.ms hg (by intro h; subst h; simp at hkl)
    have hatb : G' b = some (τ, L.flatMap cSP) := by rw [hG, setH_same]
    have hat' := hgo.base hat
    have hatb' := hgo.base hatb
    have hd0 := flat_at0 (f := cSP) (sz := 2) (by simp) hkl
    have hd1 := flat_at1 (f := cSP) (sz := 2) (j := 1) (by simp) hkl (by simp)
    have htk : (L.map Prod.fst).take (k + 1) = (L.map Prod.fst).take k ++ [(L[k]).1] := by rw [take_succ_get _ _ (by simpa using hkl)]; simp
    repeat' (first
      | refine awp_seqK fun K' hpK => ?_
      | refine awp_block ?_
      | refine awp_condG fun A' B' hpA hpB => ?_
      | refine useK (by with_reducible assumption) ?_
      | refine useP (by with_reducible assumption) ?_
      | refine ED_cons (fun _ => ?_) ?_
      | (refine stable_mk ?_; simp (disch := first | (with_reducible assumption) | (simp; done) | omega | (simp; omega)) [hkl, hat', hatb', hd0, hd1, cSP, hoo]; done)
      | (refine stable_no ?_; simp (disch := first | (with_reducible assumption) | (simp; done) | omega | (simp; omega)) [hkl, hat', hatb', hd0, hd1, cSP, hoo]; done)
      | (with_reducible refine And.intro ?_ ?_)
      | (with_reducible intro hc)
      | (with_reducible refine GDsplit (fun hc => ?_) (fun hc => ?_) <;> try simp [hc])
      | (with_reducible refine GDsplitN (fun hc => ?_) (fun hc => ?_) <;> try simp [hc])
      | (with_reducible refine GDsplitNB (fun hc => ?_) (fun hc => ?_) <;> try simp [hc])
      | (with_reducible refine GDsplitB (fun hc => ?_) (fun hc => ?_) <;> try simp [hc])
      | (with_reducible refine GKsplit (fun hc => ?_) (fun hc => ?_) <;> try simp [hc])
      | (with_reducible refine GKsplitN (fun hc => ?_) (fun hc => ?_) <;> try simp [hc])
      | (with_reducible refine GKsplitNB (fun hc => ?_) (fun hc => ?_) <;> try simp [hc])
      | (with_reducible refine GKsplitB (fun hc => ?_) (fun hc => ?_) <;> try simp [hc])
      | simp (disch := first | (with_reducible assumption) | (simp; done) | omega | (simp; omega)) [hkl, hat', hatb', hd0, hd1, cSP, hoo])
    refine hgo.app1 (x := (L[k]).1) (by simp [cKP]) (by simp [cKP]) (by simp [LIM]; omega) (fun v2 G2 hg2 => ?_)
    have hv2 := hg2.plain
    rw [← htk] at hg2
    repeat' (first
      | refine awp_seqK fun K' hpK => ?_
      | refine awp_block ?_
      | refine awp_condG fun A' B' hpA hpB => ?_
      | refine useK (by with_reducible assumption) ?_
      | refine useP (by with_reducible assumption) ?_
      | refine ED_cons (fun _ => ?_) ?_
      | (refine stable_mk ?_; simp (disch := first | (with_reducible assumption) | (simp; done) | omega | (simp; omega)) [hv2]; done)
      | (refine stable_no ?_; simp (disch := first | (with_reducible assumption) | (simp; done) | omega | (simp; omega)) [hv2]; done)
      | (with_reducible refine And.intro ?_ ?_)
      | (with_reducible intro hc)
      | (with_reducible refine GDsplit (fun hc => ?_) (fun hc => ?_) <;> try simp [hc])
      | (with_reducible refine GDsplitN (fun hc => ?_) (fun hc => ?_) <;> try simp [hc])
      | (with_reducible refine GDsplitNB (fun hc => ?_) (fun hc => ?_) <;> try simp [hc])
      | (with_reducible refine GDsplitB (fun hc => ?_) (fun hc => ?_) <;> try simp [hc])
      | (with_reducible refine GKsplit (fun hc => ?_) (fun hc => ?_) <;> try simp [hc])
      | (with_reducible refine GKsplitN (fun hc => ?_) (fun hc => ?_) <;> try simp [hc])
      | (with_reducible refine GKsplitNB (fun hc => ?_) (fun hc => ?_) <;> try simp [hc])
      | (with_reducible refine GKsplitB (fun hc => ?_) (fun hc => ?_) <;> try simp [hc])
      | simp (disch := first | (with_reducible assumption) | (simp; done) | omega | (simp; omega)) [hv2])
    exact hN (w - 1) _ _ (by omega) ⟨k + 1, v2, by omega, hg2, by simp⟩
  · have hke : k = L.length := by omega
    rw [hke, List.take_of_length_le (by simp)] at hgo
    repeat' (first
      | refine awp_seqK fun K' hpK => ?_
      | refine awp_block ?_
      | refine awp_condG fun A' B' hpA hpB => ?_
      | refine useK (by with_reducible assumption) ?_
      | refine useP (by with_reducible assumption) ?_
      | refine ED_cons (fun _ => ?_) ?_
      | (refine stable_mk ?_; simp (disch := first | (with_reducible assumption) | (simp; done) | omega | (simp; omega)) [hkl, hoo]; done)
      | (refine stable_no ?_; simp (disch := first | (with_reducible assumption) | (simp; done) | omega | (simp; omega)) [hkl, hoo]; done)
      | (with_reducible refine And.intro ?_ ?_)
      | (with_reducible intro hc)
      | (with_reducible refine GDsplit (fun hc => ?_) (fun hc => ?_) <;> try simp [hc])
      | (with_reducible refine GDsplitN (fun hc => ?_) (fun hc => ?_) <;> try simp [hc])
      | (with_reducible refine GDsplitNB (fun hc => ?_) (fun hc => ?_) <;> try simp [hc])
      | (with_reducible refine GDsplitB (fun hc => ?_) (fun hc => ?_) <;> try simp [hc])
      | (with_reducible refine GKsplit (fun hc => ?_) (fun hc => ?_) <;> try simp [hc])
      | (with_reducible refine GKsplitN (fun hc => ?_) (fun hc => ?_) <;> try simp [hc])
      | (with_reducible refine GKsplitNB (fun hc => ?_) (fun hc => ?_) <;> try simp [hc])
      | (with_reducible refine GKsplitB (fun hc => ?_) (fun hc => ?_) <;> try simp [hc])
      | simp (disch := first | (with_reducible assumption) | (simp; done) | omega | (simp; omega)) [hkl, hoo])
    exact ends_one (by simp <;> rfl) hoo (hpost _ _ hgo)
theorem keysP_c {sb : Nat} {h : Hp} {L : List (Int × Int)} {mx : Int} (hs : SHP sb h L mx) (hl : L.length ≤ 1000000) : ACalls Try.prog 45 [.ptr sb 0] h fun r h' => h' = h ∧ ∃ s : Option (List Int), r = ofS cKP s ∧ LL s = L.map Prod.fst :=
  (keysPG hs hl).grow (by simp)
end Go.Proofs.Ytapocekfkbkefaa
