import Derived.Test.YtgideonigiokbaaD3K
set_option linter.unusedSimpArgs false
set_option linter.unusedVariables false
namespace Go.Proofs.Ytgideonigiokbaa
open Go Go.Al
set_option maxRecDepth 20000
attribute [local irreducible] awp aops aopsD eop pv ACalls CallK AppK AEnds ti

@[simp] def On.av (v : On) : AV := .agg [.int .u32 v.id, .int .u32 v.ep, .int .u64 v.k1, .int .u64 v.k2, .int .u32 v.k3, .int .u32 v.k4, .int .i64 v.k5, .int .i64 v.k6, .int .i64 v.k7, .int .i64 v.f1, .int .i64 v.f2, .int .i64 v.t1, .int .i64 v.t2, .str v.su, .str v.sh, .str v.du, .str v.dh, .int .i64 v.act, .int .i64 v.rule, ofS cHo v.path, .int .u32 v.l0, .int .u32 v.l1, .int .u32 v.l2, .int .u32 v.l3, .int .u32 v.l4, .int .u32 v.l5, .int .u32 v.l6, .int .u32 v.l7, .int .u32 v.l8, .int .i64 v.idle, .int .i64 v.hard, .int .i64 v.at_, .int .u32 v.seq, .bool v.said, .int .i64 v.when]
def On.life (v : On) (sw : Int) : Int := if sw = 1 then v.l1 else if sw = 2 then v.l2 else if sw = 3 then v.l3 else if sw = 4 then v.l4 else if sw = 5 then v.l5 else if sw = 6 then v.l6 else if sw = 7 then v.l7 else if sw = 8 then v.l8 else 0
def On.msg (v : On) (k : Nat) : Ms := 
  let h := ((LL v.path)[k]?).getD ⟨0, 0, 0⟩
  ⟨h.sw, v.life h.sw, v.ep, v.seq, h.inn, h.out, decide (k = 0), decide (k + 1 = (LL v.path).length), v.idle, v.hard, v.k1, v.k2, v.k3, v.k4, v.k5, v.k6, v.k7⟩
theorem life_at (v : On) {s : Int} (h1 : 1 ≤ s) (h2 : s ≤ 8) : ∀ (hp : 20 + s.toNat < ([.int .u32 v.id, .int .u32 v.ep, .int .u64 v.k1, .int .u64 v.k2, .int .u32 v.k3, .int .u32 v.k4, .int .i64 v.k5, .int .i64 v.k6, .int .i64 v.k7, .int .i64 v.f1, .int .i64 v.f2, .int .i64 v.t1, .int .i64 v.t2, .str v.su, .str v.sh, .str v.du, .str v.dh, .int .i64 v.act, .int .i64 v.rule, ofS cHo v.path, .int .u32 v.l0, .int .u32 v.l1, .int .u32 v.l2, .int .u32 v.l3, .int .u32 v.l4, .int .u32 v.l5, .int .u32 v.l6, .int .u32 v.l7, .int .u32 v.l8, .int .i64 v.idle, .int .i64 v.hard, .int .i64 v.at_, .int .u32 v.seq, .bool v.said, .int .i64 v.when] : List AV).length), ([.int .u32 v.id, .int .u32 v.ep, .int .u64 v.k1, .int .u64 v.k2, .int .u32 v.k3, .int .u32 v.k4, .int .i64 v.k5, .int .i64 v.k6, .int .i64 v.k7, .int .i64 v.f1, .int .i64 v.f2, .int .i64 v.t1, .int .i64 v.t2, .str v.su, .str v.sh, .str v.du, .str v.dh, .int .i64 v.act, .int .i64 v.rule, ofS cHo v.path, .int .u32 v.l0, .int .u32 v.l1, .int .u32 v.l2, .int .u32 v.l3, .int .u32 v.l4, .int .u32 v.l5, .int .u32 v.l6, .int .u32 v.l7, .int .u32 v.l8, .int .i64 v.idle, .int .i64 v.hard, .int .i64 v.at_, .int .u32 v.seq, .bool v.said, .int .i64 v.when] : List AV)[20 + s.toNat] = .int .u32 (v.life s) := by
  have : s = 1 ∨ s = 2 ∨ s = 3 ∨ s = 4 ∨ s = 5 ∨ s = 6 ∨ s = 7 ∨ s = 8 := by omega
  intro hp
  rcases this with rfl | rfl | rfl | rfl | rfl | rfl | rfl | rfl <;> rfl
theorem life_no (v : On) {s : Int} (h : ¬ (1 ≤ s ∧ s ≤ 8)) : v.life s = 0 := by
  unfold On.life
  repeat (rw [if_neg (by omega)])
set_option maxHeartbeats 4000000 in
theorem msg_c {v : On} {k : Nat} {G : Hp} (hk : k < (LL v.path).length) (hl : (LL v.path).length ≤ 1000) : ACalls Try.prog 28 [v.av, .int .i64 k] G fun r G' => G' = G ∧ r = (v.msg k).av := by
  obtain ⟨h, hh⟩ : ∃ h, h = (LL v.path)[k] := ⟨_, rfl⟩
  have e : v.msg k = ⟨h.sw, v.life h.sw, v.ep, v.seq, h.inn, h.out, decide (k = 0), decide (k + 1 = (LL v.path).length), v.idle, v.hard, v.k1, v.k2, v.k3, v.k4, v.k5, v.k6, v.k7⟩ := by
    unfold On.msg; rw [List.getElem?_eq_getElem hk, ← hh]; rfl
  rw [e]
  have el : decide ((k : Int) = ((LL v.path).length : Int) - 1) = decide (k + 1 = (LL v.path).length) := by rw [decide_eq_decide]; omega
  by_cases h1 : 1 ≤ h.sw
  · by_cases h2 : h.sw ≤ 8
    · have hlf := life_at v h1 h2
      refine ACalls.hide fun post hpost => ?_
      refine F28_in (by simp) (by simp) fun hbd => ?_
      repeat' (first
        | refine awp_seqK fun K' hpK => ?_
        | refine awp_block ?_
        | refine awp_condG fun A' B' hpA hpB => ?_
        | refine useK (by with_reducible assumption) ?_
        | refine useP (by with_reducible assumption) ?_
        | refine ED_cons (fun _ => ?_) ?_
        | (refine stable_mk ?_; simp (disch := first | (with_reducible assumption) | (simp; done) | omega | (simp; omega)) [On.av, hk, ofS_idx (f := cHo), cHo, ← hh, h1, h2, hlf, el]; done)
        | (refine stable_no ?_; simp (disch := first | (with_reducible assumption) | (simp; done) | omega | (simp; omega)) [On.av, hk, ofS_idx (f := cHo), cHo, ← hh, h1, h2, hlf, el]; done)
        | (with_reducible refine And.intro ?_ ?_)
        | (with_reducible intro hc)
        | (with_reducible refine GDsplit (fun hc => ?_) (fun hc => ?_) <;> try simp [hc])
        | (with_reducible refine GDsplitN (fun hc => ?_) (fun hc => ?_) <;> try simp [hc])
        | (with_reducible refine GDsplitNB (fun hc => ?_) (fun hc => ?_) <;> try simp [hc])
        | (with_reducible refine GDsplitB (fun hc => ?_) (fun hc => ?_) <;> try simp [hc])
        | (with_reducible refine GKsplit (fun hc => ?_) (fun hc => ?_) <;> try simp [hc])
        | (with_reducible refine GKsplitN (fun hc => ?_) (fun hc => ?_) <;> try simp [hc])
        | (with_reducible refine GKsplitNB (fun hc => ?_) (fun hc => ?_) <;> try simp [hc])
        | (with_reducible refine GKsplitB (fun hc => ?_) (fun hc => ?_) <;> try simp [hc])
        | simp (disch := first | (with_reducible assumption) | (simp; done) | omega | (simp; omega)) [On.av, hk, ofS_idx (f := cHo), cHo, ← hh, h1, h2, hlf, el])
      exact ends_one (by simp <;> rfl) (by simp) (hpost _ _ ⟨rfl, by simp⟩)
    · have hlf := life_no v (s := h.sw) (by omega)
      refine ACalls.hide fun post hpost => ?_
      refine F28_in (by simp) (by simp) fun hbd => ?_
      repeat' (first
        | refine awp_seqK fun K' hpK => ?_
        | refine awp_block ?_
        | refine awp_condG fun A' B' hpA hpB => ?_
        | refine useK (by with_reducible assumption) ?_
        | refine useP (by with_reducible assumption) ?_
        | refine ED_cons (fun _ => ?_) ?_
        | (refine stable_mk ?_; simp (disch := first | (with_reducible assumption) | (simp; done) | omega | (simp; omega)) [On.av, hk, ofS_idx (f := cHo), cHo, ← hh, h1, h2, el]; done)
        | (refine stable_no ?_; simp (disch := first | (with_reducible assumption) | (simp; done) | omega | (simp; omega)) [On.av, hk, ofS_idx (f := cHo), cHo, ← hh, h1, h2, el]; done)
        | (with_reducible refine And.intro ?_ ?_)
        | (with_reducible intro hc)
        | (with_reducible refine GDsplit (fun hc => ?_) (fun hc => ?_) <;> try simp [hc])
        | (with_reducible refine GDsplitN (fun hc => ?_) (fun hc => ?_) <;> try simp [hc])
        | (with_reducible refine GDsplitNB (fun hc => ?_) (fun hc => ?_) <;> try simp [hc])
        | (with_reducible refine GDsplitB (fun hc => ?_) (fun hc => ?_) <;> try simp [hc])
        | (with_reducible refine GKsplit (fun hc => ?_) (fun hc => ?_) <;> try simp [hc])
        | (with_reducible refine GKsplitN (fun hc => ?_) (fun hc => ?_) <;> try simp [hc])
        | (with_reducible refine GKsplitNB (fun hc => ?_) (fun hc => ?_) <;> try simp [hc])
        | (with_reducible refine GKsplitB (fun hc => ?_) (fun hc => ?_) <;> try simp [hc])
        | simp (disch := first | (with_reducible assumption) | (simp; done) | omega | (simp; omega)) [On.av, hk, ofS_idx (f := cHo), cHo, ← hh, h1, h2, el])
      exact ends_one (by simp <;> rfl) (by simp) (hpost _ _ ⟨rfl, by simp [hlf]⟩)
  · have hlf := life_no v (s := h.sw) (by omega)
    refine ACalls.hide fun post hpost => ?_
    refine F28_in (by simp) (by simp) fun hbd => ?_
    repeat' (first
      | refine awp_seqK fun K' hpK => ?_
      | refine awp_block ?_
      | refine awp_condG fun A' B' hpA hpB => ?_
      | refine useK (by with_reducible assumption) ?_
      | refine useP (by with_reducible assumption) ?_
      | refine ED_cons (fun _ => ?_) ?_
      | (refine stable_mk ?_; simp (disch := first | (with_reducible assumption) | (simp; done) | omega | (simp; omega)) [On.av, hk, ofS_idx (f := cHo), cHo, ← hh, h1, el]; done)
      | (refine stable_no ?_; simp (disch := first | (with_reducible assumption) | (simp; done) | omega | (simp; omega)) [On.av, hk, ofS_idx (f := cHo), cHo, ← hh, h1, el]; done)
      | (with_reducible refine And.intro ?_ ?_)
      | (with_reducible intro hc)
      | (with_reducible refine GDsplit (fun hc => ?_) (fun hc => ?_) <;> try simp [hc])
      | (with_reducible refine GDsplitN (fun hc => ?_) (fun hc => ?_) <;> try simp [hc])
      | (with_reducible refine GDsplitNB (fun hc => ?_) (fun hc => ?_) <;> try simp [hc])
      | (with_reducible refine GDsplitB (fun hc => ?_) (fun hc => ?_) <;> try simp [hc])
      | (with_reducible refine GKsplit (fun hc => ?_) (fun hc => ?_) <;> try simp [hc])
      | (with_reducible refine GKsplitN (fun hc => ?_) (fun hc => ?_) <;> try simp [hc])
      | (with_reducible refine GKsplitNB (fun hc => ?_) (fun hc => ?_) <;> try simp [hc])
      | (with_reducible refine GKsplitB (fun hc => ?_) (fun hc => ?_) <;> try simp [hc])
      | simp (disch := first | (with_reducible assumption) | (simp; done) | omega | (simp; omega)) [On.av, hk, ofS_idx (f := cHo), cHo, ← hh, h1, el])
    exact ends_one (by simp <;> rfl) (by simp) (hpost _ _ ⟨rfl, by simp [hlf]⟩)
end Go.Proofs.Ytgideonigiokbaa
