import Derived.Test.YtapocekfkbkefaaD3K
set_option linter.unusedSimpArgs false
set_option linter.unusedVariables false
namespace Go.Proofs.Ytapocekfkbkefaa
open Go Go.Al
set_option maxRecDepth 20000
attribute [local irreducible] awp aops aopsD eop pv ACalls CallK AppK AEnds ti

theorem shr_i64 {k : IntKind} {a b : Int} (h : 0 ≤ b) (h2 : b ≤ 64) : ibin .shr .i64 a k b = some (.int .i64 (a.fdiv (2 ^ b.toNat))) := by
  simp only [ibin, if_neg (show ¬ b < 0 by omega), IntKind.bits]
  rw [Nat.min_eq_left (by omega)]
theorem and1 {n : Int} (h0 : 0 ≤ n) (h1 : n ≤ 255) : ibits .and .i64 n 1 = some (n % 2) := by
  obtain ⟨m, rfl⟩ : ∃ m : Nat, n = (m : Int) := ⟨n.toNat, by omega⟩
  rw [ibits_and]
  have e1 : ((m : Int) % ((2 ^ IntKind.i64.bits : Nat) : Int)).toNat = m := by
    have : ((2 ^ IntKind.i64.bits : Nat) : Int) = 18446744073709551616 := by decide
    rw [this]; omega
  have e2 : ((1 : Int) % ((2 ^ IntKind.i64.bits : Nat) : Int)).toNat = 1 := by decide
  rw [e1, e2, Nat.and_one_is_mod]
  congr 1
  rw [IntKind.wrap_i64]; omega
theorem andM {c : Nat} (hc : (c : Int) ≤ 1000000) (n : Int) : ∃ q : Nat, q ≤ c ∧ ibits .and .i64 n c = some (q : Int) := by
  rw [ibits_and]
  have e : (((c : Nat) : Int) % ((2 ^ IntKind.i64.bits : Nat) : Int)).toNat = c := by
    have : ((2 ^ IntKind.i64.bits : Nat) : Int) = 18446744073709551616 := by decide
    rw [this]; omega
  rw [e]
  refine ⟨(n % ((2 ^ IntKind.i64.bits : Nat) : Int)).toNat &&& c, Nat.and_le_right, ?_⟩
  have h := Nat.and_le_right (n := (n % ((2 ^ IntKind.i64.bits : Nat) : Int)).toNat) (m := c)
  congr 1
  rw [IntKind.wrap_i64]; omega
@[simp] theorem eq32 (a b c d : Int) : eqS32 a b c d = decide (a = b ∧ c = d) := rfl
@[simp] theorem eq39 (a b c d e f g h : Int) : eqS39 a b c d e f g h = decide (a = b ∧ c = d ∧ e = f ∧ g = h) := rfl
def goodP (sw port : Int) : Bool := decide (1 ≤ sw ∧ sw ≤ 8 ∧ 1 ≤ port ∧ port ≤ 8)
theorem goodP_iff {sw port : Int} : goodP sw port = true ↔ 1 ≤ sw ∧ sw ≤ 8 ∧ 1 ≤ port ∧ port ≤ 8 := by simp [goodP]
theorem good_c {sw port : Int} {G : Hp} : ACalls Try.prog 28 [.agg [.int .i64 sw, .int .i64 port]] G fun r G' => G' = G ∧ r = .bool (goodP sw port) := by
  refine ACalls.hide fun post hpost => ?_
  refine F28_in (by simp) (by simp) fun hbd => ?_
  repeat' (first
    | refine awp_seqK fun K' hpK => ?_
    | refine awp_block ?_
    | refine awp_condG fun A' B' hpA hpB => ?_
    | refine useK (by with_reducible assumption) ?_
    | refine useP (by with_reducible assumption) ?_
    | refine ED_cons (fun _ => ?_) ?_
    | (refine stable_mk ?_; simp (disch := first | (with_reducible assumption) | (simp; done) | omega | (simp; omega)); done)
    | (refine stable_no ?_; simp (disch := first | (with_reducible assumption) | (simp; done) | omega | (simp; omega)); done)
    | (with_reducible refine And.intro ?_ ?_)
    | (with_reducible intro hc)
    | (with_reducible refine GDsplit (fun hc => ?_) (fun hc => ?_) <;> try simp [hc])
    | (with_reducible refine GDsplitN (fun hc => ?_) (fun hc => ?_) <;> try simp [hc])
    | (with_reducible refine GDsplitNB (fun hc => ?_) (fun hc => ?_) <;> try simp [hc])
    | (with_reducible refine GDsplitB (fun hc => ?_) (fun hc => ?_) <;> try simp [hc])
    | (with_reducible refine GKsplit (fun hc => ?_) (fun hc => ?_) <;> try simp [hc])
    | (with_reducible refine GKsplitN (fun hc => ?_) (fun hc => ?_) <;> try simp [hc])
    | (with_reducible refine GKsplitNB (fun hc => ?_) (fun hc => ?_) <;> try simp [hc])
    | (with_reducible refine GKsplitB (fun hc => ?_) (fun hc => ?_) <;> try simp [hc])
    | simp (disch := first | (with_reducible assumption) | (simp; done) | omega | (simp; omega)))
  all_goals exact ends_one (by simp <;> rfl) (by simp) (hpost _ _ ⟨rfl, by congr 1; rw [Bool.eq_iff_iff]; simp [goodP] <;> omega⟩)
theorem rgood_c {sw port : Int} {G : Hp} : ACalls Try.prog 53 [.agg [.int .i64 sw, .int .i64 port]] G fun r G' => G' = G ∧ r = .bool (goodP sw port) := by
  refine ACalls.hide fun post hpost => ?_
  refine F53_in (by simp) (by simp) fun hbd => ?_
  repeat' (first
    | refine awp_seqK fun K' hpK => ?_
    | refine awp_block ?_
    | refine awp_condG fun A' B' hpA hpB => ?_
    | refine useK (by with_reducible assumption) ?_
    | refine useP (by with_reducible assumption) ?_
    | refine ED_cons (fun _ => ?_) ?_
    | (refine stable_mk ?_; simp (disch := first | (with_reducible assumption) | (simp; done) | omega | (simp; omega)); done)
    | (refine stable_no ?_; simp (disch := first | (with_reducible assumption) | (simp; done) | omega | (simp; omega)); done)
    | (with_reducible refine And.intro ?_ ?_)
    | (with_reducible intro hc)
    | (with_reducible refine GDsplit (fun hc => ?_) (fun hc => ?_) <;> try simp [hc])
    | (with_reducible refine GDsplitN (fun hc => ?_) (fun hc => ?_) <;> try simp [hc])
    | (with_reducible refine GDsplitNB (fun hc => ?_) (fun hc => ?_) <;> try simp [hc])
    | (with_reducible refine GDsplitB (fun hc => ?_) (fun hc => ?_) <;> try simp [hc])
    | (with_reducible refine GKsplit (fun hc => ?_) (fun hc => ?_) <;> try simp [hc])
    | (with_reducible refine GKsplitN (fun hc => ?_) (fun hc => ?_) <;> try simp [hc])
    | (with_reducible refine GKsplitNB (fun hc => ?_) (fun hc => ?_) <;> try simp [hc])
    | (with_reducible refine GKsplitB (fun hc => ?_) (fun hc => ?_) <;> try simp [hc])
    | simp (disch := first | (with_reducible assumption) | (simp; done) | omega | (simp; omega)))
  all_goals exact ends_one (by simp <;> rfl) (by simp) (hpost _ _ ⟨rfl, by congr 1; rw [Bool.eq_iff_iff]; simp [goodP] <;> omega⟩)
def VO (sp sl : Nat) : Nat × List AV := (0, [.ptr sp 0, .ptr sl 0])
def UH (pb sl : Nat) (F : Hp) (P : List (Int × Int)) : Prop := ∃ sp hp, F = setH hp pb (some (VO sp sl)) ∧ hp pb = none ∧ SHP sp hp P 8
def VH (pb : Nat) (G : Hp) (P : List (Int × Int)) (L : List (Int × Sn)) : Prop := ∃ sl F hl, UH pb sl F P ∧ G = uni F hl ∧ Dis F hl ∧ SHS sl hl L 64
/-- what switches there are -/
def OKP (P : List (Int × Int)) : Prop := Srt P ∧ ∀ q ∈ P, 1 ≤ q.1 ∧ q.1 ≤ 8 ∧ 0 ≤ q.2 ∧ q.2 ≤ 255
theorem OKP.val {P : List (Int × Int)} (h : OKP P) (sw : Int) : 0 ≤ (getL P sw).getD 0 ∧ (getL P sw).getD 0 ≤ 255 := by
  cases hg : getL P sw with
  | none => simp
  | some v => have := (h.2 _ (getL_mem hg)).2.2; simpa using this
theorem OKP.len {P : List (Int × Int)} (h : OKP P) : P.length ≤ 8 := by
  have key : ∀ (Q : List (Int × Int)) (lo : Int), Srt Q → (∀ q ∈ Q, lo ≤ q.1 ∧ q.1 ≤ 8) → lo ≤ 9 → (Q.length : Int) ≤ 9 - lo := by
    intro Q
    induction Q with
    | nil => intro lo _ _ h; simp; omega
    | cons p r ih =>
      intro lo hS hb hlo
      have hS' := Srt.cons.1 hS
      have hp := hb p (by simp)
      have := ih (p.1 + 1) hS'.2 (fun q hq => by
        have h1 := hS'.1 q hq
        rw [KO_int] at h1
        have := of_decide_eq_true h1
        have := hb q (by simp [hq])
        omega) (by omega)
      simp only [List.length_cons]; omega
  have := key P 1 h.1 (fun q hq => by have := h.2 q hq; omega) (by omega)
  omega
def upP (P : List (Int × Int)) (sw port : Int) : Bool := goodP sw port && decide ((getL P sw).getD 0 / 2 ^ (port.toNat - 1) % 2 = 1)
theorem up_c {pb sl : Nat} {F : Hp} {P : List (Int × Int)} {sw port : Int} (hU : UH pb sl F P) (hO : OKP P) : ACalls Try.prog 10 [.ptr pb 0, .agg [.int .i64 sw, .int .i64 port]] F fun r G' => G' = F ∧ r = .bool (upP P sw port) := by
  have gc := fun G => good_c (sw := sw) (port := port) (G := G)
  have hl := hO.len
  have hv := hO.val sw
  obtain ⟨sp, hp, rfl, hpb, hs⟩ := hU
  unfold upP
  cases hg : goodP sw port with
  | false =>
    rw [hg] at gc
    refine ACalls.hide fun post hpost => ?_
    refine F10_in (by simp) (by simp) fun hbd => ?_
    repeat' (first
      | refine awp_seqK fun K' hpK => ?_
      | refine awp_block ?_
      | refine awp_condG fun A' B' hpA hpB => ?_
      | refine useK (by with_reducible assumption) ?_
      | refine useP (by with_reducible assumption) ?_
      | refine ED_cons (fun _ => ?_) ?_
      | (refine stable_mk ?_; simp (disch := first | (with_reducible assumption) | (simp; done) | omega | (simp; omega)) [VO]; done)
      | (refine stable_no ?_; simp (disch := first | (with_reducible assumption) | (simp; done) | omega | (simp; omega)) [VO]; done)
      | (with_reducible refine And.intro ?_ ?_)
      | (with_reducible intro hc)
      | (with_reducible refine GDsplit (fun hc => ?_) (fun hc => ?_) <;> try simp [hc])
      | (with_reducible refine GDsplitN (fun hc => ?_) (fun hc => ?_) <;> try simp [hc])
      | (with_reducible refine GDsplitNB (fun hc => ?_) (fun hc => ?_) <;> try simp [hc])
      | (with_reducible refine GDsplitB (fun hc => ?_) (fun hc => ?_) <;> try simp [hc])
      | (with_reducible refine GKsplit (fun hc => ?_) (fun hc => ?_) <;> try simp [hc])
      | (with_reducible refine GKsplitN (fun hc => ?_) (fun hc => ?_) <;> try simp [hc])
      | (with_reducible refine GKsplitNB (fun hc => ?_) (fun hc => ?_) <;> try simp [hc])
      | (with_reducible refine GKsplitB (fun hc => ?_) (fun hc => ?_) <;> try simp [hc])
      | (refine CallK.use (gc _) ?_; rintro r G' _ _ ⟨rfl, rfl⟩)
      | simp (disch := first | (with_reducible assumption) | (simp; done) | omega | (simp; omega)) [VO])
    exact ends_one (by simp <;> rfl) (by simp) (hpost _ _ ⟨rfl, rfl⟩)
  | true =>
    rw [hg] at gc
    obtain ⟨g1, g2, g3, g4⟩ := goodP_iff.1 hg
    have pc := getP_c (k := sw) hs (by omega)
    simp only [zVP] at pc
    have h1 : (0 : Int) ≤ port - 1 := by omega
    have h2 : port - 1 ≤ 64 := by omega
    refine ACalls.hide fun post hpost => ?_
    refine F10_in (by simp) (by simp) fun hbd => ?_
    repeat' (first
      | refine awp_seqK fun K' hpK => ?_
      | refine awp_block ?_
      | refine awp_condG fun A' B' hpA hpB => ?_
      | refine useK (by with_reducible assumption) ?_
      | refine useP (by with_reducible assumption) ?_
      | refine ED_cons (fun _ => ?_) ?_
      | (refine stable_mk ?_; simp (disch := first | (with_reducible assumption) | (simp; done) | omega | (simp; omega)) [VO]; done)
      | (refine stable_no ?_; simp (disch := first | (with_reducible assumption) | (simp; done) | omega | (simp; omega)) [VO]; done)
      | (with_reducible refine And.intro ?_ ?_)
      | (with_reducible intro hc)
      | (with_reducible refine GDsplit (fun hc => ?_) (fun hc => ?_) <;> try simp [hc])
      | (with_reducible refine GDsplitN (fun hc => ?_) (fun hc => ?_) <;> try simp [hc])
      | (with_reducible refine GDsplitNB (fun hc => ?_) (fun hc => ?_) <;> try simp [hc])
      | (with_reducible refine GDsplitB (fun hc => ?_) (fun hc => ?_) <;> try simp [hc])
      | (with_reducible refine GKsplit (fun hc => ?_) (fun hc => ?_) <;> try simp [hc])
      | (with_reducible refine GKsplitN (fun hc => ?_) (fun hc => ?_) <;> try simp [hc])
      | (with_reducible refine GKsplitNB (fun hc => ?_) (fun hc => ?_) <;> try simp [hc])
      | (with_reducible refine GKsplitB (fun hc => ?_) (fun hc => ?_) <;> try simp [hc])
      | (refine CallK.use (gc _) ?_; rintro r G' _ _ ⟨rfl, rfl⟩)
      | simp (disch := first | (with_reducible assumption) | (simp; done) | omega | (simp; omega)) [VO])
    refine CallK.use (pc.frame1 hpb) ?_
    rintro r G2 _ _ ⟨h', _, rfl, rfl, rfl⟩
    have hw : IntKind.i64.wrap (port - 1) = port - 1 := by rw [IntKind.wrap_i64]; omega
    have hn : (port - 1).toNat = port.toNat - 1 := by omega
    have hf : ((getL P sw).getD 0).fdiv (2 ^ (port.toNat - 1)) = (getL P sw).getD 0 / 2 ^ (port.toNat - 1) := Int.fdiv_eq_ediv_of_nonneg _ (by exact Int.le_of_lt (Int.pow_pos (by omega)))
    have hq0 : 0 ≤ (getL P sw).getD 0 / 2 ^ (port.toNat - 1) := Int.ediv_nonneg hv.1 (Int.le_of_lt (Int.pow_pos (by omega)))
    have hq1 : (getL P sw).getD 0 / 2 ^ (port.toNat - 1) ≤ 255 := Int.le_trans (Int.ediv_le_self _ hv.1) hv.2
    have ha := and1 hq0 hq1
    repeat' (first
      | refine awp_seqK fun K' hpK => ?_
      | refine awp_block ?_
      | refine awp_condG fun A' B' hpA hpB => ?_
      | refine useK (by with_reducible assumption) ?_
      | refine useP (by with_reducible assumption) ?_
      | refine ED_cons (fun _ => ?_) ?_
      | (refine stable_mk ?_; simp (disch := first | (with_reducible assumption) | (simp; done) | omega | (simp; omega)) [hw, shr_i64, h1, h2, hn, hf, ha]; done)
      | (refine stable_no ?_; simp (disch := first | (with_reducible assumption) | (simp; done) | omega | (simp; omega)) [hw, shr_i64, h1, h2, hn, hf, ha]; done)
      | (with_reducible refine And.intro ?_ ?_)
      | (with_reducible intro hc)
      | (with_reducible refine GDsplit (fun hc => ?_) (fun hc => ?_) <;> try simp [hc])
      | (with_reducible refine GDsplitN (fun hc => ?_) (fun hc => ?_) <;> try simp [hc])
      | (with_reducible refine GDsplitNB (fun hc => ?_) (fun hc => ?_) <;> try simp [hc])
      | (with_reducible refine GDsplitB (fun hc => ?_) (fun hc => ?_) <;> try simp [hc])
      | (with_reducible refine GKsplit (fun hc => ?_) (fun hc => ?_) <;> try simp [hc])
      | (with_reducible refine GKsplitN (fun hc => ?_) (fun hc => ?_) <;> try simp [hc])
      | (with_reducible refine GKsplitNB (fun hc => ?_) (fun hc => ?_) <;> try simp [hc])
      | (with_reducible refine GKsplitB (fun hc => ?_) (fun hc => ?_) <;> try simp [hc])
      | simp (disch := first | (with_reducible assumption) | (simp; done) | omega | (simp; omega)) [hw, shr_i64, h1, h2, hn, hf, ha])
    exact ends_one (by simp <;> rfl) (by simp) (hpost _ _ ⟨rfl, rfl⟩)
theorem new_c : ACalls Try.prog 7 [] emptyH fun r G' => ∃ pb, r = .ptr pb 0 ∧ VH pb G' [] [] := by
  refine ACalls.hide fun post hpost => ?_
  refine F7_in (by simp) (by simp) fun hbd => ?_
  repeat' (first
    | refine awp_seqK fun K' hpK => ?_
    | refine awp_block ?_
    | refine awp_condG fun A' B' hpA hpB => ?_
    | refine useK (by with_reducible assumption) ?_
    | refine useP (by with_reducible assumption) ?_
    | refine ED_cons (fun _ => ?_) ?_
    | (refine stable_mk ?_; simp (disch := first | (with_reducible assumption) | (simp; done) | omega | (simp; omega)); done)
    | (refine stable_no ?_; simp (disch := first | (with_reducible assumption) | (simp; done) | omega | (simp; omega)); done)
    | (with_reducible refine And.intro ?_ ?_)
    | (with_reducible intro hc)
    | (with_reducible refine GDsplit (fun hc => ?_) (fun hc => ?_) <;> try simp [hc])
    | (with_reducible refine GDsplitN (fun hc => ?_) (fun hc => ?_) <;> try simp [hc])
    | (with_reducible refine GDsplitNB (fun hc => ?_) (fun hc => ?_) <;> try simp [hc])
    | (with_reducible refine GDsplitB (fun hc => ?_) (fun hc => ?_) <;> try simp [hc])
    | (with_reducible refine GKsplit (fun hc => ?_) (fun hc => ?_) <;> try simp [hc])
    | (with_reducible refine GKsplitN (fun hc => ?_) (fun hc => ?_) <;> try simp [hc])
    | (with_reducible refine GKsplitNB (fun hc => ?_) (fun hc => ?_) <;> try simp [hc])
    | (with_reducible refine GKsplitB (fun hc => ?_) (fun hc => ?_) <;> try simp [hc])
    | (refine CallK.use (newP_E (n := 8) (m := 8) rfl) ?_; rintro r G' _ _ ⟨sp, rfl, hs⟩)
    | simp (disch := first | (with_reducible assumption) | (simp; done) | omega | (simp; omega)))
  refine CallK.new (newS_E (n := 64) (m := 64) rfl) ?_
  rintro r hl hdis _ _ ⟨sl, rfl, hs2⟩
  repeat' (first
    | refine awp_seqK fun K' hpK => ?_
    | refine awp_block ?_
    | refine awp_condG fun A' B' hpA hpB => ?_
    | refine useK (by with_reducible assumption) ?_
    | refine useP (by with_reducible assumption) ?_
    | refine ED_cons (fun _ => ?_) ?_
    | (refine stable_mk ?_; simp (disch := first | (with_reducible assumption) | (simp; done) | omega | (simp; omega)); done)
    | (refine stable_no ?_; simp (disch := first | (with_reducible assumption) | (simp; done) | omega | (simp; omega)); done)
    | (with_reducible refine And.intro ?_ ?_)
    | (with_reducible intro hc)
    | (with_reducible refine GDsplit (fun hc => ?_) (fun hc => ?_) <;> try simp [hc])
    | (with_reducible refine GDsplitN (fun hc => ?_) (fun hc => ?_) <;> try simp [hc])
    | (with_reducible refine GDsplitNB (fun hc => ?_) (fun hc => ?_) <;> try simp [hc])
    | (with_reducible refine GDsplitB (fun hc => ?_) (fun hc => ?_) <;> try simp [hc])
    | (with_reducible refine GKsplit (fun hc => ?_) (fun hc => ?_) <;> try simp [hc])
    | (with_reducible refine GKsplitN (fun hc => ?_) (fun hc => ?_) <;> try simp [hc])
    | (with_reducible refine GKsplitNB (fun hc => ?_) (fun hc => ?_) <;> try simp [hc])
    | (with_reducible refine GKsplitB (fun hc => ?_) (fun hc => ?_) <;> try simp [hc])
    | simp (disch := first | (with_reducible assumption) | (simp; done) | omega | (simp; omega)))
  intro pb hpb
  refine ⟨0, ?_⟩
  have hb : G' pb = none ∧ hl pb = none := by
    unfold uni at hpb
    cases e : G' pb with
    | none => rw [e] at hpb; exact ⟨rfl, hpb⟩
    | some o => rw [e] at hpb; cases hpb
  repeat' (first
    | refine awp_seqK fun K' hpK => ?_
    | refine awp_block ?_
    | refine awp_condG fun A' B' hpA hpB => ?_
    | refine useK (by with_reducible assumption) ?_
    | refine useP (by with_reducible assumption) ?_
    | refine ED_cons (fun _ => ?_) ?_
    | (refine stable_mk ?_; simp (disch := first | (with_reducible assumption) | (simp; done) | omega | (simp; omega)); done)
    | (refine stable_no ?_; simp (disch := first | (with_reducible assumption) | (simp; done) | omega | (simp; omega)); done)
    | (with_reducible refine And.intro ?_ ?_)
    | (with_reducible intro hc)
    | (with_reducible refine GDsplit (fun hc => ?_) (fun hc => ?_) <;> try simp [hc])
    | (with_reducible refine GDsplitN (fun hc => ?_) (fun hc => ?_) <;> try simp [hc])
    | (with_reducible refine GDsplitNB (fun hc => ?_) (fun hc => ?_) <;> try simp [hc])
    | (with_reducible refine GDsplitB (fun hc => ?_) (fun hc => ?_) <;> try simp [hc])
    | (with_reducible refine GKsplit (fun hc => ?_) (fun hc => ?_) <;> try simp [hc])
    | (with_reducible refine GKsplitN (fun hc => ?_) (fun hc => ?_) <;> try simp [hc])
    | (with_reducible refine GKsplitNB (fun hc => ?_) (fun hc => ?_) <;> try simp [hc])
    | (with_reducible refine GKsplitB (fun hc => ?_) (fun hc => ?_) <;> try simp [hc])
    | simp (disch := first | (with_reducible assumption) | (simp; done) | omega | (simp; omega)))
  refine ends_one (by simp <;> rfl) (by simp) (hpost _ _ ⟨pb, rfl, sl, setH G' pb (some (VO sp sl)), hl, ⟨sp, G', rfl, hb.1, hs⟩, ?_, dis_set hdis hb.2, hs2⟩)
  rw [← uni_swapF hb.2]; rfl
end Go.Proofs.Ytapocekfkbkefaa
