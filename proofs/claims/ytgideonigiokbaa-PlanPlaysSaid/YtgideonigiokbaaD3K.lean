import Derived.Test.YtgideonigiokbaaD2K
set_option linter.unusedSimpArgs false
set_option linter.unusedVariables false
namespace Go.Proofs.Ytgideonigiokbaa
open Go Go.Al
set_option maxRecDepth 20000
attribute [local irreducible] awp aops aopsD eop pv ACalls CallK AppK AEnds ti

/-- a message that adds -/
structure Ms where
  sw : Int
  life : Int
  ep : Int
  seq : Int
  port : Int
  out : Int
  enter : Bool
  last : Bool
  idle : Int
  hard : Int
  k1 : Int
  k2 : Int
  k3 : Int
  k4 : Int
  k5 : Int
  k6 : Int
  k7 : Int
def cMs (m : Ms) : List AV := [.int .i64 9, .int .i64 m.sw, .int .u32 m.life, .int .u32 m.ep, .int .u32 m.seq, .int .i64 m.port, .int .i64 m.out, .int .i64 0, .bool m.enter, .bool m.last, .int .i64 m.idle, .int .i64 m.hard, .int .i64 0, .int .i64 0, .int .i64 0, .int .u64 m.k1, .int .u64 m.k2, .int .u32 m.k3, .int .u32 m.k4, .int .i64 m.k5, .int .i64 m.k6, .int .i64 m.k7, .nils]
@[simp] theorem cMs_len (m : Ms) : (cMs m).length = 23 := by simp [cMs]
@[simp] def Ms.av (m : Ms) : AV := .agg [.int .i64 9, .int .i64 m.sw, .int .u32 m.life, .int .u32 m.ep, .int .u32 m.seq, .int .i64 m.port, .int .i64 m.out, .int .i64 0, .bool m.enter, .bool m.last, .int .i64 m.idle, .int .i64 m.hard, .int .i64 0, .int .i64 0, .int .i64 0, .int .u64 m.k1, .int .u64 m.k2, .int .u32 m.k3, .int .u32 m.k4, .int .i64 m.k5, .int .i64 m.k6, .int .i64 m.k7, .nils]
@[simp] theorem eq29 (a b c d : Int) : eqS29 a b c d = decide (a = b ∧ c = d) := rfl
@[simp] theorem eq27 (a b c d e f g h i j k l m n : Int) : eqS27 a b c d e f g h i j k l m n = decide (a = b ∧ c = d ∧ e = f ∧ g = h ∧ i = j ∧ k = l ∧ m = n) := rfl
def inB (n lo hi : Int) : Bool := decide (lo ≤ n ∧ n ≤ hi)
theorem inB_iff {n lo hi : Int} : inB n lo hi = true ↔ lo ≤ n ∧ n ≤ hi := by simp [inB]
theorem in_c {n lo hi : Int} {G : Hp} : ACalls Try.prog 44 [.int .i64 n, .int .i64 lo, .int .i64 hi] G fun r G' => G' = G ∧ r = .bool (inB n lo hi) := by
  refine ACalls.hide fun post hpost => ?_
  refine F44_in (by simp) (by simp) fun hbd => ?_
  repeat' (first
    | refine awp_seqK fun K' hpK => ?_
    | refine awp_block ?_
    | refine awp_condG fun A' B' hpA hpB => ?_
    | refine useK (by with_reducible assumption) ?_
    | refine useP (by with_reducible assumption) ?_
    | refine ED_cons (fun _ => ?_) ?_
    | (refine stable_mk ?_; simp (disch := first | (with_reducible assumption) | (simp; done) | omega | (simp; omega)); done)
    | (refine stable_no ?_; simp (disch := first | (with_reducible assumption) | (simp; done) | omega | (simp; omega)); done)
    | (with_reducible refine And.intro ?_ ?_)
    | (with_reducible intro hc)
    | (with_reducible refine GDsplit (fun hc => ?_) (fun hc => ?_) <;> try simp [hc])
    | (with_reducible refine GDsplitN (fun hc => ?_) (fun hc => ?_) <;> try simp [hc])
    | (with_reducible refine GDsplitNB (fun hc => ?_) (fun hc => ?_) <;> try simp [hc])
    | (with_reducible refine GDsplitB (fun hc => ?_) (fun hc => ?_) <;> try simp [hc])
    | (with_reducible refine GKsplit (fun hc => ?_) (fun hc => ?_) <;> try simp [hc])
    | (with_reducible refine GKsplitN (fun hc => ?_) (fun hc => ?_) <;> try simp [hc])
    | (with_reducible refine GKsplitNB (fun hc => ?_) (fun hc => ?_) <;> try simp [hc])
    | (with_reducible refine GKsplitB (fun hc => ?_) (fun hc => ?_) <;> try simp [hc])
    | simp (disch := first | (with_reducible assumption) | (simp; done) | omega | (simp; omega)))
  all_goals exact ends_one (by simp <;> rfl) (by simp) (hpost _ _ ⟨rfl, by congr 1; rw [Bool.eq_iff_iff]; simp [inB] <;> omega⟩)
theorem fields_c {G : Hp} : ACalls Try.prog 47 [.int .i64 9] G fun r G' => G' = G ∧ r = .int .i64 303 := by
  refine ACalls.hide fun post hpost => ?_
  refine F47_in (by simp) (by simp) fun hbd => ?_
  repeat' (first
    | refine awp_seqK fun K' hpK => ?_
    | refine awp_block ?_
    | refine awp_condG fun A' B' hpA hpB => ?_
    | refine useK (by with_reducible assumption) ?_
    | refine useP (by with_reducible assumption) ?_
    | refine ED_cons (fun _ => ?_) ?_
    | (refine stable_mk ?_; simp (disch := first | (with_reducible assumption) | (simp; done) | omega | (simp; omega)); done)
    | (refine stable_no ?_; simp (disch := first | (with_reducible assumption) | (simp; done) | omega | (simp; omega)); done)
    | (with_reducible refine And.intro ?_ ?_)
    | (with_reducible intro hc)
    | (with_reducible refine GDsplit (fun hc => ?_) (fun hc => ?_) <;> try simp [hc])
    | (with_reducible refine GDsplitN (fun hc => ?_) (fun hc => ?_) <;> try simp [hc])
    | (with_reducible refine GDsplitNB (fun hc => ?_) (fun hc => ?_) <;> try simp [hc])
    | (with_reducible refine GDsplitB (fun hc => ?_) (fun hc => ?_) <;> try simp [hc])
    | (with_reducible refine GKsplit (fun hc => ?_) (fun hc => ?_) <;> try simp [hc])
    | (with_reducible refine GKsplitN (fun hc => ?_) (fun hc => ?_) <;> try simp [hc])
    | (with_reducible refine GKsplitNB (fun hc => ?_) (fun hc => ?_) <;> try simp [hc])
    | (with_reducible refine GKsplitB (fun hc => ?_) (fun hc => ?_) <;> try simp [hc])
    | simp (disch := first | (with_reducible assumption) | (simp; done) | omega | (simp; omega)))
  exact ends_one (by simp <;> rfl) (by simp) (hpost _ _ ⟨rfl, rfl⟩)
def goodK (k1 k2 k5 k6 k7 : Int) : Bool := decide (k1 ≤ 281474976710655 ∧ k2 ≤ 281474976710655 ∧ 0 ≤ k5 ∧ k5 ≤ 255 ∧ (k5 = 6 ∨ k5 = 17 → 0 ≤ k6 ∧ k6 ≤ 65535 ∧ 0 ≤ k7 ∧ k7 ≤ 65535) ∧ (¬ (k5 = 6 ∨ k5 = 17) → k6 = 0 ∧ k7 = 0))
theorem good_c {k1 k2 k3 k4 k5 k6 k7 : Int} {G : Hp} : ACalls Try.prog 48 [.agg [.int .u64 k1, .int .u64 k2, .int .u32 k3, .int .u32 k4, .int .i64 k5, .int .i64 k6, .int .i64 k7]] G fun r G' => G' = G ∧ r = .bool (goodK k1 k2 k5 k6 k7) := by
  refine ACalls.hide fun post hpost => ?_
  refine F48_in (by simp) (by simp) fun hbd => ?_
  repeat' (first
    | refine awp_seqK fun K' hpK => ?_
    | refine awp_block ?_
    | refine awp_condG fun A' B' hpA hpB => ?_
    | refine useK (by with_reducible assumption) ?_
    | refine useP (by with_reducible assumption) ?_
    | refine ED_cons (fun _ => ?_) ?_
    | (refine stable_mk ?_; simp (disch := first | (with_reducible assumption) | (simp; done) | omega | (simp; omega)); done)
    | (refine stable_no ?_; simp (disch := first | (with_reducible assumption) | (simp; done) | omega | (simp; omega)); done)
    | (with_reducible refine And.intro ?_ ?_)
    | (with_reducible intro hc; try (exfalso; omega))
    | (with_reducible refine GDsplit (fun hc => ?_) (fun hc => ?_) <;> try simp [hc])
    | (with_reducible refine GDsplitN (fun hc => ?_) (fun hc => ?_) <;> try simp [hc])
    | (with_reducible refine GDsplitNB (fun hc => ?_) (fun hc => ?_) <;> try simp [hc])
    | (with_reducible refine GDsplitB (fun hc => ?_) (fun hc => ?_) <;> try simp [hc])
    | (with_reducible refine GKsplit (fun hc => ?_) (fun hc => ?_) <;> try simp [hc])
    | (with_reducible refine GKsplitN (fun hc => ?_) (fun hc => ?_) <;> try simp [hc])
    | (with_reducible refine GKsplitNB (fun hc => ?_) (fun hc => ?_) <;> try simp [hc])
    | (with_reducible refine GKsplitB (fun hc => ?_) (fun hc => ?_) <;> try simp [hc])
    | simp (disch := first | (with_reducible assumption) | (simp; done) | omega | (simp; omega)))
  all_goals exact ends_one (by simp <;> rfl) (by simp) (hpost _ _ ⟨rfl, by congr 1; rw [Bool.eq_iff_iff]; simp [goodK] <;> omega⟩)
theorem rgood_c {k1 k2 k3 k4 k5 k6 k7 : Int} {G : Hp} : ACalls Try.prog 53 [.agg [.int .u64 k1, .int .u64 k2, .int .u32 k3, .int .u32 k4, .int .i64 k5, .int .i64 k6, .int .i64 k7]] G fun r G' => G' = G ∧ r = .bool (goodK k1 k2 k5 k6 k7) := by
  refine ACalls.hide fun post hpost => ?_
  refine F53_in (by simp) (by simp) fun hbd => ?_
  repeat' (first
    | refine awp_seqK fun K' hpK => ?_
    | refine awp_block ?_
    | refine awp_condG fun A' B' hpA hpB => ?_
    | refine useK (by with_reducible assumption) ?_
    | refine useP (by with_reducible assumption) ?_
    | refine ED_cons (fun _ => ?_) ?_
    | (refine stable_mk ?_; simp (disch := first | (with_reducible assumption) | (simp; done) | omega | (simp; omega)); done)
    | (refine stable_no ?_; simp (disch := first | (with_reducible assumption) | (simp; done) | omega | (simp; omega)); done)
    | (with_reducible refine And.intro ?_ ?_)
    | (with_reducible intro hc; try (exfalso; omega))
    | (with_reducible refine GDsplit (fun hc => ?_) (fun hc => ?_) <;> try simp [hc])
    | (with_reducible refine GDsplitN (fun hc => ?_) (fun hc => ?_) <;> try simp [hc])
    | (with_reducible refine GDsplitNB (fun hc => ?_) (fun hc => ?_) <;> try simp [hc])
    | (with_reducible refine GDsplitB (fun hc => ?_) (fun hc => ?_) <;> try simp [hc])
    | (with_reducible refine GKsplit (fun hc => ?_) (fun hc => ?_) <;> try simp [hc])
    | (with_reducible refine GKsplitN (fun hc => ?_) (fun hc => ?_) <;> try simp [hc])
    | (with_reducible refine GKsplitNB (fun hc => ?_) (fun hc => ?_) <;> try simp [hc])
    | (with_reducible refine GKsplitB (fun hc => ?_) (fun hc => ?_) <;> try simp [hc])
    | simp (disch := first | (with_reducible assumption) | (simp; done) | omega | (simp; omega)))
  all_goals exact ends_one (by simp <;> rfl) (by simp) (hpost _ _ ⟨rfl, by congr 1; rw [Bool.eq_iff_iff]; simp [goodK] <;> omega⟩)
theorem conv_nils {P : Program} {G : Hp} {a d : TypeId} (h1 : (ti P a).ok = true) (h2 : (ti P d).ok = true) (h3 : (ti P d).kd = .str) (h4 : (ti P a).isS = true) (h5 : (ti P (ti P a).el).ok = true) (h6 : (ti P (ti P a).el).kd = .int .u8) :
    conv P G a d .nils = some (.str (strOfNums [])) := conv_ofS (s := none) h1 h2 h3 h4 h5 h6
theorem equal_c {G : Hp} : ACalls Try.prog 54 [.nils, .nils] G fun r G' => G' = G ∧ r = .bool true := by
  refine ACalls.hide fun post hpost => ?_
  refine F54_in (by simp) (by simp) fun hbd => ?_
  repeat' (first
    | refine awp_seqK fun K' hpK => ?_
    | refine awp_block ?_
    | refine awp_condG fun A' B' hpA hpB => ?_
    | refine useK (by with_reducible assumption) ?_
    | refine useP (by with_reducible assumption) ?_
    | refine ED_cons (fun _ => ?_) ?_
    | (refine stable_mk ?_; simp (disch := first | (with_reducible assumption) | (simp; done) | omega | (simp; omega)) [conv_nils, sbin_eql]; done)
    | (refine stable_no ?_; simp (disch := first | (with_reducible assumption) | (simp; done) | omega | (simp; omega)) [conv_nils, sbin_eql]; done)
    | (with_reducible refine And.intro ?_ ?_)
    | (with_reducible intro hc)
    | (with_reducible refine GDsplit (fun hc => ?_) (fun hc => ?_) <;> try simp [hc])
    | (with_reducible refine GDsplitN (fun hc => ?_) (fun hc => ?_) <;> try simp [hc])
    | (with_reducible refine GDsplitNB (fun hc => ?_) (fun hc => ?_) <;> try simp [hc])
    | (with_reducible refine GDsplitB (fun hc => ?_) (fun hc => ?_) <;> try simp [hc])
    | (with_reducible refine GKsplit (fun hc => ?_) (fun hc => ?_) <;> try simp [hc])
    | (with_reducible refine GKsplitN (fun hc => ?_) (fun hc => ?_) <;> try simp [hc])
    | (with_reducible refine GKsplitNB (fun hc => ?_) (fun hc => ?_) <;> try simp [hc])
    | (with_reducible refine GKsplitB (fun hc => ?_) (fun hc => ?_) <;> try simp [hc])
    | simp (disch := first | (with_reducible assumption) | (simp; done) | omega | (simp; omega)) [conv_nils, sbin_eql])
  exact ends_one (by simp <;> rfl) (by simp) (hpost _ _ ⟨rfl, rfl⟩)
theorem same_self {m : Ms} {G : Hp} : ACalls Try.prog 45 [m.av, m.av] G fun r G' => G' = G ∧ r = .bool true := by
  refine ACalls.hide fun post hpost => ?_
  refine F45_in (by simp) (by simp) fun hbd => ?_
  repeat' (first
    | refine awp_seqK fun K' hpK => ?_
    | refine awp_block ?_
    | refine awp_condG fun A' B' hpA hpB => ?_
    | refine useK (by with_reducible assumption) ?_
    | refine useP (by with_reducible assumption) ?_
    | refine ED_cons (fun _ => ?_) ?_
    | (refine stable_mk ?_; simp (disch := first | (with_reducible assumption) | (simp; done) | omega | (simp; omega)) [Ms.av]; done)
    | (refine stable_no ?_; simp (disch := first | (with_reducible assumption) | (simp; done) | omega | (simp; omega)) [Ms.av]; done)
    | (with_reducible refine And.intro ?_ ?_)
    | (with_reducible intro hc)
    | (with_reducible refine GDsplit (fun hc => ?_) (fun hc => ?_) <;> try simp [hc])
    | (with_reducible refine GDsplitN (fun hc => ?_) (fun hc => ?_) <;> try simp [hc])
    | (with_reducible refine GDsplitNB (fun hc => ?_) (fun hc => ?_) <;> try simp [hc])
    | (with_reducible refine GDsplitB (fun hc => ?_) (fun hc => ?_) <;> try simp [hc])
    | (with_reducible refine GKsplit (fun hc => ?_) (fun hc => ?_) <;> try simp [hc])
    | (with_reducible refine GKsplitN (fun hc => ?_) (fun hc => ?_) <;> try simp [hc])
    | (with_reducible refine GKsplitNB (fun hc => ?_) (fun hc => ?_) <;> try simp [hc])
    | (with_reducible refine GKsplitB (fun hc => ?_) (fun hc => ?_) <;> try simp [hc])
    | (refine CallK.use (equal_c (G := _)) ?_; rintro r G' _ _ ⟨rfl, rfl⟩)
    | simp (disch := first | (with_reducible assumption) | (simp; done) | omega | (simp; omega)) [Ms.av])
  exact ends_one (by simp <;> rfl) (by simp) (hpost _ _ ⟨rfl, rfl⟩)
theorem b303 : ibits .and .i64 303 1 = some 1 ∧ ibits .and .i64 303 2 = some 2 ∧ ibits .and .i64 303 4 = some 4 ∧ ibits .and .i64 303 8 = some 8 ∧ ibits .and .i64 303 16 = some 0 ∧ ibits .and .i64 303 32 = some 32 ∧ ibits .and .i64 303 64 = some 0 ∧ ibits .and .i64 303 128 = some 0 ∧ ibits .and .i64 303 256 = some 256 ∧ ibits .and .i64 303 512 = some 0 := by decide
theorem only_c {m : Ms} {G : Hp} : ACalls Try.prog 46 [m.av] G fun r G' => G' = G ∧ r = m.av := by
  refine ACalls.hide fun post hpost => ?_
  refine F46_in (by simp) (by simp) fun hbd => ?_
  repeat' (first
    | refine awp_seqK fun K' hpK => ?_
    | refine awp_block ?_
    | refine awp_condG fun A' B' hpA hpB => ?_
    | refine useK (by with_reducible assumption) ?_
    | refine useP (by with_reducible assumption) ?_
    | refine ED_cons (fun _ => ?_) ?_
    | (refine stable_mk ?_; simp (disch := first | (with_reducible assumption) | (simp; done) | omega | (simp; omega)) [Ms.av, b303]; done)
    | (refine stable_no ?_; simp (disch := first | (with_reducible assumption) | (simp; done) | omega | (simp; omega)) [Ms.av, b303]; done)
    | (with_reducible refine And.intro ?_ ?_)
    | (with_reducible intro hc)
    | (with_reducible refine GDsplit (fun hc => ?_) (fun hc => ?_) <;> try simp [hc])
    | (with_reducible refine GDsplitN (fun hc => ?_) (fun hc => ?_) <;> try simp [hc])
    | (with_reducible refine GDsplitNB (fun hc => ?_) (fun hc => ?_) <;> try simp [hc])
    | (with_reducible refine GDsplitB (fun hc => ?_) (fun hc => ?_) <;> try simp [hc])
    | (with_reducible refine GKsplit (fun hc => ?_) (fun hc => ?_) <;> try simp [hc])
    | (with_reducible refine GKsplitN (fun hc => ?_) (fun hc => ?_) <;> try simp [hc])
    | (with_reducible refine GKsplitNB (fun hc => ?_) (fun hc => ?_) <;> try simp [hc])
    | (with_reducible refine GKsplitB (fun hc => ?_) (fun hc => ?_) <;> try simp [hc])
    | (refine CallK.use (fields_c (G := _)) ?_; rintro r G' _ _ ⟨rfl, rfl⟩)
    | simp (disch := first | (with_reducible assumption) | (simp; done) | omega | (simp; omega)) [Ms.av, b303])
  exact ends_one (by simp <;> rfl) (by simp) (hpost _ _ ⟨rfl, rfl⟩)
def mayM (m : Ms) : Bool := inB m.sw 1 8 && inB m.port 1 8 && inB m.out 1 8 && goodK m.k1 m.k2 m.k5 m.k6 m.k7 && inB m.idle 0 65535 && inB m.hard 0 65535
set_option maxHeartbeats 2000000 in
theorem may_c {m : Ms} {G : Hp} : ACalls Try.prog 37 [m.av] G fun r G' => G' = G ∧ r = .bool (mayM m) := by
  have ic := fun G n lo hi => in_c (n := n) (lo := lo) (hi := hi) (G := G)
  have oc := fun G => only_c (m := m) (G := G)
  have sc := fun G => same_self (m := m) (G := G)
  have gc := fun G => good_c (k1 := m.k1) (k2 := m.k2) (k3 := m.k3) (k4 := m.k4) (k5 := m.k5) (k6 := m.k6) (k7 := m.k7) (G := G)
  simp only [Ms.av] at oc sc
  have z1 : inB 9 1 13 = true := by decide
  have z2 : inB 0 0 255 = true := by decide
  unfold mayM
  cases h1 : inB m.sw 1 8 with
  | false =>
    refine ACalls.hide fun post hpost => ?_
    refine F37_in (by simp) (by simp) fun hbd => ?_
    repeat' (first
      | refine awp_seqK fun K' hpK => ?_
      | refine awp_block ?_
      | refine awp_condG fun A' B' hpA hpB => ?_
      | refine useK (by with_reducible assumption) ?_
      | refine useP (by with_reducible assumption) ?_
      | refine ED_cons (fun _ => ?_) ?_
      | (refine stable_mk ?_; simp (disch := first | (with_reducible assumption) | (simp; done) | omega | (simp; omega)) [Ms.av, z1, h1]; done)
      | (refine stable_no ?_; simp (disch := first | (with_reducible assumption) | (simp; done) | omega | (simp; omega)) [Ms.av, z1, h1]; done)
      | (with_reducible refine And.intro ?_ ?_)
      | (with_reducible intro hc)
      | (with_reducible refine GDsplit (fun hc => ?_) (fun hc => ?_) <;> try simp [hc])
      | (with_reducible refine GDsplitN (fun hc => ?_) (fun hc => ?_) <;> try simp [hc])
      | (with_reducible refine GDsplitNB (fun hc => ?_) (fun hc => ?_) <;> try simp [hc])
      | (with_reducible refine GDsplitB (fun hc => ?_) (fun hc => ?_) <;> try simp [hc])
      | (with_reducible refine GKsplit (fun hc => ?_) (fun hc => ?_) <;> try simp [hc])
      | (with_reducible refine GKsplitN (fun hc => ?_) (fun hc => ?_) <;> try simp [hc])
      | (with_reducible refine GKsplitNB (fun hc => ?_) (fun hc => ?_) <;> try simp [hc])
      | (with_reducible refine GKsplitB (fun hc => ?_) (fun hc => ?_) <;> try simp [hc])
      | (refine CallK.use (ic _ _ _ _) ?_; rintro r G' _ _ ⟨rfl, rfl⟩)
      | simp (disch := first | (with_reducible assumption) | (simp; done) | omega | (simp; omega)) [Ms.av, z1, h1])
    exact ends_one (by simp <;> rfl) (by simp) (hpost _ _ ⟨rfl, rfl⟩)
  | true =>
  cases h2 : inB m.port 1 8 with
  | false =>
    refine ACalls.hide fun post hpost => ?_
    refine F37_in (by simp) (by simp) fun hbd => ?_
    repeat' (first
      | refine awp_seqK fun K' hpK => ?_
      | refine awp_block ?_
      | refine awp_condG fun A' B' hpA hpB => ?_
      | refine useK (by with_reducible assumption) ?_
      | refine useP (by with_reducible assumption) ?_
      | refine ED_cons (fun _ => ?_) ?_
      | (refine stable_mk ?_; simp (disch := first | (with_reducible assumption) | (simp; done) | omega | (simp; omega)) [Ms.av, z1, h1, h2, b303]; done)
      | (refine stable_no ?_; simp (disch := first | (with_reducible assumption) | (simp; done) | omega | (simp; omega)) [Ms.av, z1, h1, h2, b303]; done)
      | (with_reducible refine And.intro ?_ ?_)
      | (with_reducible intro hc)
      | (with_reducible refine GDsplit (fun hc => ?_) (fun hc => ?_) <;> try simp [hc])
      | (with_reducible refine GDsplitN (fun hc => ?_) (fun hc => ?_) <;> try simp [hc])
      | (with_reducible refine GDsplitNB (fun hc => ?_) (fun hc => ?_) <;> try simp [hc])
      | (with_reducible refine GDsplitB (fun hc => ?_) (fun hc => ?_) <;> try simp [hc])
      | (with_reducible refine GKsplit (fun hc => ?_) (fun hc => ?_) <;> try simp [hc])
      | (with_reducible refine GKsplitN (fun hc => ?_) (fun hc => ?_) <;> try simp [hc])
      | (with_reducible refine GKsplitNB (fun hc => ?_) (fun hc => ?_) <;> try simp [hc])
      | (with_reducible refine GKsplitB (fun hc => ?_) (fun hc => ?_) <;> try simp [hc])
      | (refine CallK.use (ic _ _ _ _) ?_; rintro r G' _ _ ⟨rfl, rfl⟩)
      | (refine CallK.use (oc _) ?_; rintro r G' _ _ ⟨rfl, rfl⟩)
      | (refine CallK.use (sc _) ?_; rintro r G' _ _ ⟨rfl, rfl⟩)
      | (refine CallK.use (fields_c (G := _)) ?_; rintro r G' _ _ ⟨rfl, rfl⟩)
      | simp (disch := first | (with_reducible assumption) | (simp; done) | omega | (simp; omega)) [Ms.av, z1, h1, h2, b303])
    exact ends_one (by simp <;> rfl) (by simp) (hpost _ _ ⟨rfl, by simp⟩)
  | true =>
  cases h3 : inB m.out 1 8 with
  | false =>
    refine ACalls.hide fun post hpost => ?_
    refine F37_in (by simp) (by simp) fun hbd => ?_
    repeat' (first
      | refine awp_seqK fun K' hpK => ?_
      | refine awp_block ?_
      | refine awp_condG fun A' B' hpA hpB => ?_
      | refine useK (by with_reducible assumption) ?_
      | refine useP (by with_reducible assumption) ?_
      | refine ED_cons (fun _ => ?_) ?_
      | (refine stable_mk ?_; simp (disch := first | (with_reducible assumption) | (simp; done) | omega | (simp; omega)) [Ms.av, z1, h1, h2, h3, b303]; done)
      | (refine stable_no ?_; simp (disch := first | (with_reducible assumption) | (simp; done) | omega | (simp; omega)) [Ms.av, z1, h1, h2, h3, b303]; done)
      | (with_reducible refine And.intro ?_ ?_)
      | (with_reducible intro hc)
      | (with_reducible refine GDsplit (fun hc => ?_) (fun hc => ?_) <;> try simp [hc])
      | (with_reducible refine GDsplitN (fun hc => ?_) (fun hc => ?_) <;> try simp [hc])
      | (with_reducible refine GDsplitNB (fun hc => ?_) (fun hc => ?_) <;> try simp [hc])
      | (with_reducible refine GDsplitB (fun hc => ?_) (fun hc => ?_) <;> try simp [hc])
      | (with_reducible refine GKsplit (fun hc => ?_) (fun hc => ?_) <;> try simp [hc])
      | (with_reducible refine GKsplitN (fun hc => ?_) (fun hc => ?_) <;> try simp [hc])
      | (with_reducible refine GKsplitNB (fun hc => ?_) (fun hc => ?_) <;> try simp [hc])
      | (with_reducible refine GKsplitB (fun hc => ?_) (fun hc => ?_) <;> try simp [hc])
      | (refine CallK.use (ic _ _ _ _) ?_; rintro r G' _ _ ⟨rfl, rfl⟩)
      | (refine CallK.use (oc _) ?_; rintro r G' _ _ ⟨rfl, rfl⟩)
      | (refine CallK.use (sc _) ?_; rintro r G' _ _ ⟨rfl, rfl⟩)
      | (refine CallK.use (fields_c (G := _)) ?_; rintro r G' _ _ ⟨rfl, rfl⟩)
      | simp (disch := first | (with_reducible assumption) | (simp; done) | omega | (simp; omega)) [Ms.av, z1, h1, h2, h3, b303])
    exact ends_one (by simp <;> rfl) (by simp) (hpost _ _ ⟨rfl, by simp⟩)
  | true =>
  cases h4 : goodK m.k1 m.k2 m.k5 m.k6 m.k7 with
  | false =>
    rw [h4] at gc
    refine ACalls.hide fun post hpost => ?_
    refine F37_in (by simp) (by simp) fun hbd => ?_
    repeat' (first
      | refine awp_seqK fun K' hpK => ?_
      | refine awp_block ?_
      | refine awp_condG fun A' B' hpA hpB => ?_
      | refine useK (by with_reducible assumption) ?_
      | refine useP (by with_reducible assumption) ?_
      | refine ED_cons (fun _ => ?_) ?_
      | (refine stable_mk ?_; simp (disch := first | (with_reducible assumption) | (simp; done) | omega | (simp; omega)) [Ms.av, z1, h1, h2, h3, b303]; done)
      | (refine stable_no ?_; simp (disch := first | (with_reducible assumption) | (simp; done) | omega | (simp; omega)) [Ms.av, z1, h1, h2, h3, b303]; done)
      | (with_reducible refine And.intro ?_ ?_)
      | (with_reducible intro hc)
      | (with_reducible refine GDsplit (fun hc => ?_) (fun hc => ?_) <;> try simp [hc])
      | (with_reducible refine GDsplitN (fun hc => ?_) (fun hc => ?_) <;> try simp [hc])
      | (with_reducible refine GDsplitNB (fun hc => ?_) (fun hc => ?_) <;> try simp [hc])
      | (with_reducible refine GDsplitB (fun hc => ?_) (fun hc => ?_) <;> try simp [hc])
      | (with_reducible refine GKsplit (fun hc => ?_) (fun hc => ?_) <;> try simp [hc])
      | (with_reducible refine GKsplitN (fun hc => ?_) (fun hc => ?_) <;> try simp [hc])
      | (with_reducible refine GKsplitNB (fun hc => ?_) (fun hc => ?_) <;> try simp [hc])
      | (with_reducible refine GKsplitB (fun hc => ?_) (fun hc => ?_) <;> try simp [hc])
      | (refine CallK.use (ic _ _ _ _) ?_; rintro r G' _ _ ⟨rfl, rfl⟩)
      | (refine CallK.use (oc _) ?_; rintro r G' _ _ ⟨rfl, rfl⟩)
      | (refine CallK.use (sc _) ?_; rintro r G' _ _ ⟨rfl, rfl⟩)
      | (refine CallK.use (fields_c (G := _)) ?_; rintro r G' _ _ ⟨rfl, rfl⟩)
      | (refine CallK.use (gc _) ?_; rintro r G' _ _ ⟨rfl, rfl⟩)
      | simp (disch := first | (with_reducible assumption) | (simp; done) | omega | (simp; omega)) [Ms.av, z1, h1, h2, h3, b303])
    exact ends_one (by simp <;> rfl) (by simp) (hpost _ _ ⟨rfl, by simp⟩)
  | true =>
  rw [h4] at gc
  cases h5 : inB m.idle 0 65535 with
  | false =>
    refine ACalls.hide fun post hpost => ?_
    refine F37_in (by simp) (by simp) fun hbd => ?_
    repeat' (first
      | refine awp_seqK fun K' hpK => ?_
      | refine awp_block ?_
      | refine awp_condG fun A' B' hpA hpB => ?_
      | refine useK (by with_reducible assumption) ?_
      | refine useP (by with_reducible assumption) ?_
      | refine ED_cons (fun _ => ?_) ?_
      | (refine stable_mk ?_; simp (disch := first | (with_reducible assumption) | (simp; done) | omega | (simp; omega)) [Ms.av, z1, z2, h1, h2, h3, h5, b303]; done)
      | (refine stable_no ?_; simp (disch := first | (with_reducible assumption) | (simp; done) | omega | (simp; omega)) [Ms.av, z1, z2, h1, h2, h3, h5, b303]; done)
      | (with_reducible refine And.intro ?_ ?_)
      | (with_reducible intro hc)
      | (with_reducible refine GDsplit (fun hc => ?_) (fun hc => ?_) <;> try simp [hc])
      | (with_reducible refine GDsplitN (fun hc => ?_) (fun hc => ?_) <;> try simp [hc])
      | (with_reducible refine GDsplitNB (fun hc => ?_) (fun hc => ?_) <;> try simp [hc])
      | (with_reducible refine GDsplitB (fun hc => ?_) (fun hc => ?_) <;> try simp [hc])
      | (with_reducible refine GKsplit (fun hc => ?_) (fun hc => ?_) <;> try simp [hc])
      | (with_reducible refine GKsplitN (fun hc => ?_) (fun hc => ?_) <;> try simp [hc])
      | (with_reducible refine GKsplitNB (fun hc => ?_) (fun hc => ?_) <;> try simp [hc])
      | (with_reducible refine GKsplitB (fun hc => ?_) (fun hc => ?_) <;> try simp [hc])
      | (refine CallK.use (ic _ _ _ _) ?_; rintro r G' _ _ ⟨rfl, rfl⟩)
      | (refine CallK.use (oc _) ?_; rintro r G' _ _ ⟨rfl, rfl⟩)
      | (refine CallK.use (sc _) ?_; rintro r G' _ _ ⟨rfl, rfl⟩)
      | (refine CallK.use (fields_c (G := _)) ?_; rintro r G' _ _ ⟨rfl, rfl⟩)
      | (refine CallK.use (gc _) ?_; rintro r G' _ _ ⟨rfl, rfl⟩)
      | simp (disch := first | (with_reducible assumption) | (simp; done) | omega | (simp; omega)) [Ms.av, z1, z2, h1, h2, h3, h5, b303])
    exact ends_one (by simp <;> rfl) (by simp) (hpost _ _ ⟨rfl, by simp⟩)
  | true =>
  cases h6 : inB m.hard 0 65535 with
  | false =>
    refine ACalls.hide fun post hpost => ?_
    refine F37_in (by simp) (by simp) fun hbd => ?_
    repeat' (first
      | refine awp_seqK fun K' hpK => ?_
      | refine awp_block ?_
      | refine awp_condG fun A' B' hpA hpB => ?_
      | refine useK (by with_reducible assumption) ?_
      | refine useP (by with_reducible assumption) ?_
      | refine ED_cons (fun _ => ?_) ?_
      | (refine stable_mk ?_; simp (disch := first | (with_reducible assumption) | (simp; done) | omega | (simp; omega)) [Ms.av, z1, z2, h1, h2, h3, h5, h6, b303]; done)
      | (refine stable_no ?_; simp (disch := first | (with_reducible assumption) | (simp; done) | omega | (simp; omega)) [Ms.av, z1, z2, h1, h2, h3, h5, h6, b303]; done)
      | (with_reducible refine And.intro ?_ ?_)
      | (with_reducible intro hc)
      | (with_reducible refine GDsplit (fun hc => ?_) (fun hc => ?_) <;> try simp [hc])
      | (with_reducible refine GDsplitN (fun hc => ?_) (fun hc => ?_) <;> try simp [hc])
      | (with_reducible refine GDsplitNB (fun hc => ?_) (fun hc => ?_) <;> try simp [hc])
      | (with_reducible refine GDsplitB (fun hc => ?_) (fun hc => ?_) <;> try simp [hc])
      | (with_reducible refine GKsplit (fun hc => ?_) (fun hc => ?_) <;> try simp [hc])
      | (with_reducible refine GKsplitN (fun hc => ?_) (fun hc => ?_) <;> try simp [hc])
      | (with_reducible refine GKsplitNB (fun hc => ?_) (fun hc => ?_) <;> try simp [hc])
      | (with_reducible refine GKsplitB (fun hc => ?_) (fun hc => ?_) <;> try simp [hc])
      | (refine CallK.use (ic _ _ _ _) ?_; rintro r G' _ _ ⟨rfl, rfl⟩)
      | (refine CallK.use (oc _) ?_; rintro r G' _ _ ⟨rfl, rfl⟩)
      | (refine CallK.use (sc _) ?_; rintro r G' _ _ ⟨rfl, rfl⟩)
      | (refine CallK.use (fields_c (G := _)) ?_; rintro r G' _ _ ⟨rfl, rfl⟩)
      | (refine CallK.use (gc _) ?_; rintro r G' _ _ ⟨rfl, rfl⟩)
      | simp (disch := first | (with_reducible assumption) | (simp; done) | omega | (simp; omega)) [Ms.av, z1, z2, h1, h2, h3, h5, h6, b303])
    exact ends_one (by simp <;> rfl) (by simp) (hpost _ _ ⟨rfl, by simp⟩)
  | true =>
    refine ACalls.hide fun post hpost => ?_
    refine F37_in (by simp) (by simp) fun hbd => ?_
    repeat' (first
      | refine awp_seqK fun K' hpK => ?_
      | refine awp_block ?_
      | refine awp_condG fun A' B' hpA hpB => ?_
      | refine useK (by with_reducible assumption) ?_
      | refine useP (by with_reducible assumption) ?_
      | refine ED_cons (fun _ => ?_) ?_
      | (refine stable_mk ?_; simp (disch := first | (with_reducible assumption) | (simp; done) | omega | (simp; omega)) [Ms.av, z1, z2, h1, h2, h3, h5, h6, b303]; done)
      | (refine stable_no ?_; simp (disch := first | (with_reducible assumption) | (simp; done) | omega | (simp; omega)) [Ms.av, z1, z2, h1, h2, h3, h5, h6, b303]; done)
      | (with_reducible refine And.intro ?_ ?_)
      | (with_reducible intro hc)
      | (with_reducible refine GDsplit (fun hc => ?_) (fun hc => ?_) <;> try simp [hc])
      | (with_reducible refine GDsplitN (fun hc => ?_) (fun hc => ?_) <;> try simp [hc])
      | (with_reducible refine GDsplitNB (fun hc => ?_) (fun hc => ?_) <;> try simp [hc])
      | (with_reducible refine GDsplitB (fun hc => ?_) (fun hc => ?_) <;> try simp [hc])
      | (with_reducible refine GKsplit (fun hc => ?_) (fun hc => ?_) <;> try simp [hc])
      | (with_reducible refine GKsplitN (fun hc => ?_) (fun hc => ?_) <;> try simp [hc])
      | (with_reducible refine GKsplitNB (fun hc => ?_) (fun hc => ?_) <;> try simp [hc])
      | (with_reducible refine GKsplitB (fun hc => ?_) (fun hc => ?_) <;> try simp [hc])
      | (refine CallK.use (ic _ _ _ _) ?_; rintro r G' _ _ ⟨rfl, rfl⟩)
      | (refine CallK.use (oc _) ?_; rintro r G' _ _ ⟨rfl, rfl⟩)
      | (refine CallK.use (sc _) ?_; rintro r G' _ _ ⟨rfl, rfl⟩)
      | (refine CallK.use (fields_c (G := _)) ?_; rintro r G' _ _ ⟨rfl, rfl⟩)
      | (refine CallK.use (gc _) ?_; rintro r G' _ _ ⟨rfl, rfl⟩)
      | simp (disch := first | (with_reducible assumption) | (simp; done) | omega | (simp; omega)) [Ms.av, z1, z2, h1, h2, h3, h5, h6, b303])
    exact ends_one (by simp <;> rfl) (by simp) (hpost _ _ ⟨rfl, by simp⟩)
end Go.Proofs.Ytgideonigiokbaa
