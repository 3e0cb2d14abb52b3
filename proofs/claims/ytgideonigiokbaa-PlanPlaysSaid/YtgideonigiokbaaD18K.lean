import Derived.Test.YtgideonigiokbaaD17K
set_option linter.unusedSimpArgs false
set_option linter.unusedVariables false
namespace Go.Proofs.Ytgideonigiokbaa
open Go Go.Al
set_option maxRecDepth 20000
attribute [local irreducible] awp aops aopsD eop pv ACalls CallK AppK AEnds ti

theorem andM {c : Nat} (hc : (c : Int) ≤ 1000000) (n : Int) : ∃ q : Nat, q ≤ c ∧ ibits .and .i64 n c = some (q : Int) := by
  rw [ibits_and]
  have e : (((c : Nat) : Int) % ((2 ^ IntKind.i64.bits : Nat) : Int)).toNat = c := by
    have : ((2 ^ IntKind.i64.bits : Nat) : Int) = 18446744073709551616 := by decide
    rw [this]; omega
  rw [e]
  refine ⟨(n % ((2 ^ IntKind.i64.bits : Nat) : Int)).toNat &&& c, Nat.and_le_right, ?_⟩
  have h := Nat.and_le_right (n := (n % ((2 ^ IntKind.i64.bits : Nat) : Int)).toNat) (m := c)
  congr 1
  rw [IntKind.wrap_i64]; omega
theorem may_pos {v : On} (h : mayO v = true) : 0 < (LL v.path).length := by
  unfold mayO at h
  simp only [Bool.and_eq_true, decide_eq_true_eq] at h
  exact h.2
theorem xO_ok {v : On} {s : Option (List Ho)} {sq : Int} (hs : LL s = LL v.path) (hm : mayO (xO v s sq) = true) (hl : (LL v.path).length ≤ 1000) : okAt (xO v s sq) := by
  have hp := may_pos hm
  have e : (LL (xO v s sq).path).length = (LL v.path).length := by show (LL s).length = _; rw [hs]
  refine ⟨?_, ?_, by omega⟩
  · show (0 : Int) ≤ (LL v.path).length - 1; omega
  · show ((LL v.path).length : Int) - 1 < (LL (xO v s sq).path).length; omega
theorem hideQ {P : Program} {f : FuncId} {args : List AV} {G : Hp} {Q : AV → Hp → Prop} (h : ACalls P f args G Q) : ∃ Q', Q' = Q ∧ ACalls P f args G Q' := ⟨Q, rfl, h⟩
theorem sub_uni {F h h' : Hp} (hs : sub h' h) : sub (uni F h') (uni F h) := by
  intro b o e
  unfold uni at e ⊢
  cases hF : F b with
  | none => rw [hF] at e; exact hs b o e
  | some x => rw [hF] at e; exact e
theorem TH.srt {pb : Nat} {G : Hp} {L : List (Int × On)} {rt sq : Int} (h : TH pb G L rt sq) : Srt L := by
  obtain ⟨sb, h, rfl, hpb, hs⟩ := h
  exact hs.2
def stepQ (pb rb : Nat) (L : List (Int × On)) (rt sq : Int) (r : AV) (G' : Hp) : Prop := ∃ hv' hr' L' M' sq', G' = uni hv' hr' ∧ Dis hv' hr' ∧ r = .bool true ∧ TH pb hv' L' rt sq' ∧ RH rb hr' M' rt sq' ∧ JR L' M' ∧ L'.length ≤ L.length + 1 ∧ 0 ≤ sq' ∧ sq' ≤ sq + 1
set_option maxHeartbeats 8000000 in
theorem step_0 {pb rb : Nat} {hv hr : Hp} {L : List (Int × On)} {M : List On} {rt sq now : Int} {o : Oc} (hk : o.kind = 0) (hdis : Dis hv hr) (hV : TH pb hv L rt sq) (hR : RH rb hr M rt sq) (hJ : JR L M) (hl : L.length ≤ 60) (h0 : 0 ≤ sq) (h1 : sq ≤ 1000) (hp : (LL o.v.path).length ≤ 140737488355328) : ACalls Try.prog 16 [.ptr pb 0, .ptr rb 0, o.av, .int .i64 now] (uni hv hr) (stepQ pb rb L rt sq) := by
  have hcl := cut_len o.v.path
  have cc := fun G => cut_c (v := o.v) (G := G) hp
  have oc := fun G => ours_c (v := cutO o.v) (G := G)
  have hML := hJ.len
  obtain ⟨Q1, hQ1, sc⟩ := hideQ (start_c (v := cutO o.v) hV (by omega) h0 (by omega) (by show (LL (cutP o.v.path)).length ≤ 1000; omega))
  obtain ⟨Q2, hQ2, rc⟩ := hideQ (rstart_c (v := cutO o.v) hR (by omega) h0 (by omega) (by show (LL (cutP o.v.path)).length ≤ 1000; omega))
  simp only [On.fl, On.lv, cutO] at cc oc sc rc
  refine ACalls.hide fun post hpost => ?_
  refine F16_in (by simp) (by simp) fun hbd => ?_
  repeat' (first
    | refine awp_seqK fun K' hpK => ?_
    | refine awp_block ?_
    | refine awp_condG fun A' B' hpA hpB => ?_
    | refine useK (by with_reducible assumption) ?_
    | refine useP (by with_reducible assumption) ?_
    | refine ED_cons (fun _ => ?_) ?_
    | (refine stable_mk ?_; simp (disch := first | (with_reducible assumption) | (simp; done) | omega | (simp; omega)) [Oc.av, hk]; done)
    | (refine stable_no ?_; simp (disch := first | (with_reducible assumption) | (simp; done) | omega | (simp; omega)) [Oc.av, hk]; done)
    | (with_reducible refine And.intro ?_ ?_)
    | (with_reducible intro hc)
    | (with_reducible refine GDsplit (fun hc => ?_) (fun hc => ?_) <;> try simp [hc])
    | (with_reducible refine GDsplitN (fun hc => ?_) (fun hc => ?_) <;> try simp [hc])
    | (with_reducible refine GDsplitNB (fun hc => ?_) (fun hc => ?_) <;> try simp [hc])
    | (with_reducible refine GDsplitB (fun hc => ?_) (fun hc => ?_) <;> try simp [hc])
    | (with_reducible refine GKsplit (fun hc => ?_) (fun hc => ?_) <;> try simp [hc])
    | (with_reducible refine GKsplitN (fun hc => ?_) (fun hc => ?_) <;> try simp [hc])
    | (with_reducible refine GKsplitNB (fun hc => ?_) (fun hc => ?_) <;> try simp [hc])
    | (with_reducible refine GKsplitB (fun hc => ?_) (fun hc => ?_) <;> try simp [hc])
    | (refine CallK.use (cc _) ?_; rintro r G' _ _ ⟨rfl, rfl⟩)
    | (refine CallK.use (oc _) ?_; rintro r G' _ _ ⟨rfl, rfl⟩)
    | simp (disch := first | (with_reducible assumption) | (simp; done) | omega | (simp; omega)) [Oc.av, hk])
  refine CallK.fl sc hdis ?_
  rintro r hv2 hdis2 _ _ hq
  rw [hQ1] at hq
  obtain ⟨s, hse, hV2, rfl⟩ := hq
  repeat' (first
    | refine awp_seqK fun K' hpK => ?_
    | refine awp_block ?_
    | refine awp_condG fun A' B' hpA hpB => ?_
    | refine useK (by with_reducible assumption) ?_
    | refine useP (by with_reducible assumption) ?_
    | refine ED_cons (fun _ => ?_) ?_
    | (refine stable_mk ?_; simp (disch := first | (with_reducible assumption) | (simp; done) | omega | (simp; omega)); done)
    | (refine stable_no ?_; simp (disch := first | (with_reducible assumption) | (simp; done) | omega | (simp; omega)); done)
    | (with_reducible refine And.intro ?_ ?_)
    | (with_reducible intro hc)
    | (with_reducible refine GDsplit (fun hc => ?_) (fun hc => ?_) <;> try simp [hc])
    | (with_reducible refine GDsplitN (fun hc => ?_) (fun hc => ?_) <;> try simp [hc])
    | (with_reducible refine GDsplitNB (fun hc => ?_) (fun hc => ?_) <;> try simp [hc])
    | (with_reducible refine GDsplitB (fun hc => ?_) (fun hc => ?_) <;> try simp [hc])
    | (with_reducible refine GKsplit (fun hc => ?_) (fun hc => ?_) <;> try simp [hc])
    | (with_reducible refine GKsplitN (fun hc => ?_) (fun hc => ?_) <;> try simp [hc])
    | (with_reducible refine GKsplitNB (fun hc => ?_) (fun hc => ?_) <;> try simp [hc])
    | (with_reducible refine GKsplitB (fun hc => ?_) (fun hc => ?_) <;> try simp [hc])
    | simp (disch := first | (with_reducible assumption) | (simp; done) | omega | (simp; omega)))
  refine CallK.fr rc hdis2 ?_
  rintro r hr2 hdis3 _ _ hq
  rw [hQ2] at hq
  obtain ⟨hR2, rfl⟩ := hq
  obtain ⟨hJ2, he⟩ := hJ.start (sq := sq) (x1 := xO (cutO o.v) s sq) (x2 := xO (cutO o.v) (cutO o.v).path sq) (by unfold nz xO; rw [hse]) (fun hm => xO_ok hse hm (by show (LL (cutP o.v.path)).length ≤ 1000; omega)) hV2.srt
  obtain ⟨k1, k2, k3⟩ := startP_len hJ.s sq (xO (cutO o.v) s sq)
  rw [← he] at hR2 ⊢
  generalize startP L sq (xO (cutO o.v) s sq) = z at hV2 hR2 hJ2 k1 k2 k3 ⊢
  repeat' (first
    | refine awp_seqK fun K' hpK => ?_
    | refine awp_block ?_
    | refine awp_condG fun A' B' hpA hpB => ?_
    | refine useK (by with_reducible assumption) ?_
    | refine useP (by with_reducible assumption) ?_
    | refine ED_cons (fun _ => ?_) ?_
    | (refine stable_mk ?_; simp (disch := first | (with_reducible assumption) | (simp; done) | omega | (simp; omega)); done)
    | (refine stable_no ?_; simp (disch := first | (with_reducible assumption) | (simp; done) | omega | (simp; omega)); done)
    | (with_reducible refine And.intro ?_ ?_)
    | (with_reducible intro hc)
    | (with_reducible refine GDsplit (fun hc => ?_) (fun hc => ?_) <;> try simp [hc])
    | (with_reducible refine GDsplitN (fun hc => ?_) (fun hc => ?_) <;> try simp [hc])
    | (with_reducible refine GDsplitNB (fun hc => ?_) (fun hc => ?_) <;> try simp [hc])
    | (with_reducible refine GDsplitB (fun hc => ?_) (fun hc => ?_) <;> try simp [hc])
    | (with_reducible refine GKsplit (fun hc => ?_) (fun hc => ?_) <;> try simp [hc])
    | (with_reducible refine GKsplitN (fun hc => ?_) (fun hc => ?_) <;> try simp [hc])
    | (with_reducible refine GKsplitNB (fun hc => ?_) (fun hc => ?_) <;> try simp [hc])
    | (with_reducible refine GKsplitB (fun hc => ?_) (fun hc => ?_) <;> try simp [hc])
    | simp (disch := first | (with_reducible assumption) | (simp; done) | omega | (simp; omega)))
  exact ends_one (by simp <;> rfl) (by simp) (hpost _ _ ⟨hv2, hr2, z.1, _, z.2.1, rfl, hdis3, by simp, hV2, hR2, hJ2, k1, by omega, k3⟩)
set_option maxHeartbeats 8000000 in
theorem step_1 {pb rb : Nat} {hv hr : Hp} {L : List (Int × On)} {M : List On} {rt sq now : Int} {o : Oc} (hk : o.kind = 1) (hdis : Dis hv hr) (hV : TH pb hv L rt sq) (hR : RH rb hr M rt sq) (hJ : JR L M) (hl : L.length ≤ 60) (h0 : 0 ≤ sq) (h1 : sq ≤ 1000) (hp : (LL o.v.path).length ≤ 140737488355328) : ACalls Try.prog 16 [.ptr pb 0, .ptr rb 0, o.av, .int .i64 now] (uni hv hr) (stepQ pb rb L rt sq) := by
  have hcl := cut_len o.v.path
  have cc := fun G => cut_c (v := o.v) (G := G) hp
  have oc := fun G => ours_c (v := cutO o.v) (G := G)
  have hML := hJ.len
  obtain ⟨Q1, hQ1, sc⟩ := hideQ (start_c (v := cutO o.v) hV (by omega) h0 (by omega) (by show (LL (cutP o.v.path)).length ≤ 1000; omega))
  obtain ⟨Q2, hQ2, rc⟩ := hideQ (rstart_c (v := cutO o.v) hR (by omega) h0 (by omega) (by show (LL (cutP o.v.path)).length ≤ 1000; omega))
  simp only [On.fl, On.lv, cutO] at cc oc sc rc
  refine ACalls.hide fun post hpost => ?_
  refine F16_in (by simp) (by simp) fun hbd => ?_
  repeat' (first
    | refine awp_seqK fun K' hpK => ?_
    | refine awp_block ?_
    | refine awp_condG fun A' B' hpA hpB => ?_
    | refine useK (by with_reducible assumption) ?_
    | refine useP (by with_reducible assumption) ?_
    | refine ED_cons (fun _ => ?_) ?_
    | (refine stable_mk ?_; simp (disch := first | (with_reducible assumption) | (simp; done) | omega | (simp; omega)) [Oc.av, hk]; done)
    | (refine stable_no ?_; simp (disch := first | (with_reducible assumption) | (simp; done) | omega | (simp; omega)) [Oc.av, hk]; done)
    | (with_reducible refine And.intro ?_ ?_)
    | (with_reducible intro hc)
    | (with_reducible refine GDsplit (fun hc => ?_) (fun hc => ?_) <;> try simp [hc])
    | (with_reducible refine GDsplitN (fun hc => ?_) (fun hc => ?_) <;> try simp [hc])
    | (with_reducible refine GDsplitNB (fun hc => ?_) (fun hc => ?_) <;> try simp [hc])
    | (with_reducible refine GDsplitB (fun hc => ?_) (fun hc => ?_) <;> try simp [hc])
    | (with_reducible refine GKsplit (fun hc => ?_) (fun hc => ?_) <;> try simp [hc])
    | (with_reducible refine GKsplitN (fun hc => ?_) (fun hc => ?_) <;> try simp [hc])
    | (with_reducible refine GKsplitNB (fun hc => ?_) (fun hc => ?_) <;> try simp [hc])
    | (with_reducible refine GKsplitB (fun hc => ?_) (fun hc => ?_) <;> try simp [hc])
    | (refine CallK.use (cc _) ?_; rintro r G' _ _ ⟨rfl, rfl⟩)
    | (refine CallK.use (oc _) ?_; rintro r G' _ _ ⟨rfl, rfl⟩)
    | simp (disch := first | (with_reducible assumption) | (simp; done) | omega | (simp; omega)) [Oc.av, hk])
  refine CallK.fl sc hdis ?_
  rintro r hv2 hdis2 _ _ hq
  rw [hQ1] at hq
  obtain ⟨s, hse, hV2, rfl⟩ := hq
  repeat' (first
    | refine awp_seqK fun K' hpK => ?_
    | refine awp_block ?_
    | refine awp_condG fun A' B' hpA hpB => ?_
    | refine useK (by with_reducible assumption) ?_
    | refine useP (by with_reducible assumption) ?_
    | refine ED_cons (fun _ => ?_) ?_
    | (refine stable_mk ?_; simp (disch := first | (with_reducible assumption) | (simp; done) | omega | (simp; omega)); done)
    | (refine stable_no ?_; simp (disch := first | (with_reducible assumption) | (simp; done) | omega | (simp; omega)); done)
    | (with_reducible refine And.intro ?_ ?_)
    | (with_reducible intro hc)
    | (with_reducible refine GDsplit (fun hc => ?_) (fun hc => ?_) <;> try simp [hc])
    | (with_reducible refine GDsplitN (fun hc => ?_) (fun hc => ?_) <;> try simp [hc])
    | (with_reducible refine GDsplitNB (fun hc => ?_) (fun hc => ?_) <;> try simp [hc])
    | (with_reducible refine GDsplitB (fun hc => ?_) (fun hc => ?_) <;> try simp [hc])
    | (with_reducible refine GKsplit (fun hc => ?_) (fun hc => ?_) <;> try simp [hc])
    | (with_reducible refine GKsplitN (fun hc => ?_) (fun hc => ?_) <;> try simp [hc])
    | (with_reducible refine GKsplitNB (fun hc => ?_) (fun hc => ?_) <;> try simp [hc])
    | (with_reducible refine GKsplitB (fun hc => ?_) (fun hc => ?_) <;> try simp [hc])
    | simp (disch := first | (with_reducible assumption) | (simp; done) | omega | (simp; omega)))
  refine CallK.fr rc hdis2 ?_
  rintro r hr2 hdis3 _ _ hq
  rw [hQ2] at hq
  obtain ⟨hR2, rfl⟩ := hq
  obtain ⟨hJ2, he⟩ := hJ.start (sq := sq) (x1 := xO (cutO o.v) s sq) (x2 := xO (cutO o.v) (cutO o.v).path sq) (by unfold nz xO; rw [hse]) (fun hm => xO_ok hse hm (by show (LL (cutP o.v.path)).length ≤ 1000; omega)) hV2.srt
  obtain ⟨k1, k2, k3⟩ := startP_len hJ.s sq (xO (cutO o.v) s sq)
  rw [← he] at hR2 ⊢
  generalize startP L sq (xO (cutO o.v) s sq) = z at hV2 hR2 hJ2 k1 k2 k3 ⊢
  repeat' (first
    | refine awp_seqK fun K' hpK => ?_
    | refine awp_block ?_
    | refine awp_condG fun A' B' hpA hpB => ?_
    | refine useK (by with_reducible assumption) ?_
    | refine useP (by with_reducible assumption) ?_
    | refine ED_cons (fun _ => ?_) ?_
    | (refine stable_mk ?_; simp (disch := first | (with_reducible assumption) | (simp; done) | omega | (simp; omega)); done)
    | (refine stable_no ?_; simp (disch := first | (with_reducible assumption) | (simp; done) | omega | (simp; omega)); done)
    | (with_reducible refine And.intro ?_ ?_)
    | (with_reducible intro hc)
    | (with_reducible refine GDsplit (fun hc => ?_) (fun hc => ?_) <;> try simp [hc])
    | (with_reducible refine GDsplitN (fun hc => ?_) (fun hc => ?_) <;> try simp [hc])
    | (with_reducible refine GDsplitNB (fun hc => ?_) (fun hc => ?_) <;> try simp [hc])
    | (with_reducible refine GDsplitB (fun hc => ?_) (fun hc => ?_) <;> try simp [hc])
    | (with_reducible refine GKsplit (fun hc => ?_) (fun hc => ?_) <;> try simp [hc])
    | (with_reducible refine GKsplitN (fun hc => ?_) (fun hc => ?_) <;> try simp [hc])
    | (with_reducible refine GKsplitNB (fun hc => ?_) (fun hc => ?_) <;> try simp [hc])
    | (with_reducible refine GKsplitB (fun hc => ?_) (fun hc => ?_) <;> try simp [hc])
    | simp (disch := first | (with_reducible assumption) | (simp; done) | omega | (simp; omega)))
  exact ends_one (by simp <;> rfl) (by simp) (hpost _ _ ⟨hv2, hr2, z.1, _, z.2.1, rfl, hdis3, by simp, hV2, hR2, hJ2, k1, by omega, k3⟩)
set_option maxHeartbeats 8000000 in
theorem step_2 {pb rb : Nat} {hv hr : Hp} {L : List (Int × On)} {M : List On} {rt sq now : Int} {o : Oc} (hk : o.kind = 2) (hdis : Dis hv hr) (hV : TH pb hv L rt sq) (hR : RH rb hr M rt sq) (hJ : JR L M) (hl : L.length ≤ 60) (h0 : 0 ≤ sq) (h1 : sq ≤ 1000) (hp : (LL o.v.path).length ≤ 140737488355328) : ACalls Try.prog 16 [.ptr pb 0, .ptr rb 0, o.av, .int .i64 now] (uni hv hr) (stepQ pb rb L rt sq) := by
  have hML := hJ.len
  obtain ⟨Q1, hQ1, nc⟩ := hideQ (next_c (now := now) hV (by omega) hJ.o)
  obtain ⟨Q2, hQ2, rc⟩ := hideQ (rnext_c (now := now) hR (by omega) hJ.okM)
  refine ACalls.hide fun post hpost => ?_
  refine F16_in (by simp) (by simp) fun hbd => ?_
  repeat' (first
    | refine awp_seqK fun K' hpK => ?_
    | refine awp_block ?_
    | refine awp_condG fun A' B' hpA hpB => ?_
    | refine useK (by with_reducible assumption) ?_
    | refine useP (by with_reducible assumption) ?_
    | refine ED_cons (fun _ => ?_) ?_
    | (refine stable_mk ?_; simp (disch := first | (with_reducible assumption) | (simp; done) | omega | (simp; omega)) [Oc.av, hk]; done)
    | (refine stable_no ?_; simp (disch := first | (with_reducible assumption) | (simp; done) | omega | (simp; omega)) [Oc.av, hk]; done)
    | (with_reducible refine And.intro ?_ ?_)
    | (with_reducible intro hc)
    | (with_reducible refine GDsplit (fun hc => ?_) (fun hc => ?_) <;> try simp [hc])
    | (with_reducible refine GDsplitN (fun hc => ?_) (fun hc => ?_) <;> try simp [hc])
    | (with_reducible refine GDsplitNB (fun hc => ?_) (fun hc => ?_) <;> try simp [hc])
    | (with_reducible refine GDsplitB (fun hc => ?_) (fun hc => ?_) <;> try simp [hc])
    | (with_reducible refine GKsplit (fun hc => ?_) (fun hc => ?_) <;> try simp [hc])
    | (with_reducible refine GKsplitN (fun hc => ?_) (fun hc => ?_) <;> try simp [hc])
    | (with_reducible refine GKsplitNB (fun hc => ?_) (fun hc => ?_) <;> try simp [hc])
    | (with_reducible refine GKsplitB (fun hc => ?_) (fun hc => ?_) <;> try simp [hc])
    | simp (disch := first | (with_reducible assumption) | (simp; done) | omega | (simp; omega)) [Oc.av, hk])
  refine CallK.fl nc hdis ?_
  rintro r hv2 hdis2 _ _ hq
  rw [hQ1] at hq
  obtain ⟨hV2, s, rfl, hs⟩ := hq
  have hsl : (LL s).length ≤ 1000 := by rw [hs, List.length_map]; exact Nat.le_trans (List.length_filter_le _ _) (by omega)
  repeat' (first
    | refine awp_seqK fun K' hpK => ?_
    | refine awp_block ?_
    | refine awp_condG fun A' B' hpA hpB => ?_
    | refine useK (by with_reducible assumption) ?_
    | refine useP (by with_reducible assumption) ?_
    | refine ED_cons (fun _ => ?_) ?_
    | (refine stable_mk ?_; simp (disch := first | (with_reducible assumption) | (simp; done) | omega | (simp; omega)); done)
    | (refine stable_no ?_; simp (disch := first | (with_reducible assumption) | (simp; done) | omega | (simp; omega)); done)
    | (with_reducible refine And.intro ?_ ?_)
    | (with_reducible intro hc)
    | (with_reducible refine GDsplit (fun hc => ?_) (fun hc => ?_) <;> try simp [hc])
    | (with_reducible refine GDsplitN (fun hc => ?_) (fun hc => ?_) <;> try simp [hc])
    | (with_reducible refine GDsplitNB (fun hc => ?_) (fun hc => ?_) <;> try simp [hc])
    | (with_reducible refine GDsplitB (fun hc => ?_) (fun hc => ?_) <;> try simp [hc])
    | (with_reducible refine GKsplit (fun hc => ?_) (fun hc => ?_) <;> try simp [hc])
    | (with_reducible refine GKsplitN (fun hc => ?_) (fun hc => ?_) <;> try simp [hc])
    | (with_reducible refine GKsplitNB (fun hc => ?_) (fun hc => ?_) <;> try simp [hc])
    | (with_reducible refine GKsplitB (fun hc => ?_) (fun hc => ?_) <;> try simp [hc])
    | simp (disch := first | (with_reducible assumption) | (simp; done) | omega | (simp; omega)))
  refine CallK.use (plainL_c (s := s) hsl) ?_
  rintro r G2 _ _ ⟨rfl, t, rfl, ht⟩
  repeat' (first
    | refine awp_seqK fun K' hpK => ?_
    | refine awp_block ?_
    | refine awp_condG fun A' B' hpA hpB => ?_
    | refine useK (by with_reducible assumption) ?_
    | refine useP (by with_reducible assumption) ?_
    | refine ED_cons (fun _ => ?_) ?_
    | (refine stable_mk ?_; simp (disch := first | (with_reducible assumption) | (simp; done) | omega | (simp; omega)); done)
    | (refine stable_no ?_; simp (disch := first | (with_reducible assumption) | (simp; done) | omega | (simp; omega)); done)
    | (with_reducible refine And.intro ?_ ?_)
    | (with_reducible intro hc)
    | (with_reducible refine GDsplit (fun hc => ?_) (fun hc => ?_) <;> try simp [hc])
    | (with_reducible refine GDsplitN (fun hc => ?_) (fun hc => ?_) <;> try simp [hc])
    | (with_reducible refine GDsplitNB (fun hc => ?_) (fun hc => ?_) <;> try simp [hc])
    | (with_reducible refine GDsplitB (fun hc => ?_) (fun hc => ?_) <;> try simp [hc])
    | (with_reducible refine GKsplit (fun hc => ?_) (fun hc => ?_) <;> try simp [hc])
    | (with_reducible refine GKsplitN (fun hc => ?_) (fun hc => ?_) <;> try simp [hc])
    | (with_reducible refine GKsplitNB (fun hc => ?_) (fun hc => ?_) <;> try simp [hc])
    | (with_reducible refine GKsplitB (fun hc => ?_) (fun hc => ?_) <;> try simp [hc])
    | simp (disch := first | (with_reducible assumption) | (simp; done) | omega | (simp; omega)))
  refine CallK.fr rc hdis2 ?_
  rintro r hr2 hdis3 _ _ hq
  rw [hQ2] at hq
  obtain ⟨hR2, s2, rfl, hs2⟩ := hq
  have hJ2 := hJ.next now rt hV2.srt
  repeat' (first
    | refine awp_seqK fun K' hpK => ?_
    | refine awp_block ?_
    | refine awp_condG fun A' B' hpA hpB => ?_
    | refine useK (by with_reducible assumption) ?_
    | refine useP (by with_reducible assumption) ?_
    | refine ED_cons (fun _ => ?_) ?_
    | (refine stable_mk ?_; simp (disch := first | (with_reducible assumption) | (simp; done) | omega | (simp; omega)); done)
    | (refine stable_no ?_; simp (disch := first | (with_reducible assumption) | (simp; done) | omega | (simp; omega)); done)
    | (with_reducible refine And.intro ?_ ?_)
    | (with_reducible intro hc)
    | (with_reducible refine GDsplit (fun hc => ?_) (fun hc => ?_) <;> try simp [hc])
    | (with_reducible refine GDsplitN (fun hc => ?_) (fun hc => ?_) <;> try simp [hc])
    | (with_reducible refine GDsplitNB (fun hc => ?_) (fun hc => ?_) <;> try simp [hc])
    | (with_reducible refine GDsplitB (fun hc => ?_) (fun hc => ?_) <;> try simp [hc])
    | (with_reducible refine GKsplit (fun hc => ?_) (fun hc => ?_) <;> try simp [hc])
    | (with_reducible refine GKsplitN (fun hc => ?_) (fun hc => ?_) <;> try simp [hc])
    | (with_reducible refine GKsplitNB (fun hc => ?_) (fun hc => ?_) <;> try simp [hc])
    | (with_reducible refine GKsplitB (fun hc => ?_) (fun hc => ?_) <;> try simp [hc])
    | (refine CallK.use (sameL_c (a := t) (b := s2) (by rw [ht, hs, hs2]; exact hJ.msgs now rt) (by rw [ht]; exact hsl)) ?_; rintro r G' _ _ ⟨rfl, rfl⟩)
    | simp (disch := first | (with_reducible assumption) | (simp; done) | omega | (simp; omega)))
  exact ends_one (by simp <;> rfl) (by simp) (hpost _ _ ⟨hv2, hr2, _, _, sq, rfl, hdis3, rfl, hV2, hR2, hJ2, by rw [List.length_map]; omega, h0, by omega⟩)
set_option maxHeartbeats 8000000 in
theorem step_3 {pb rb : Nat} {hv hr : Hp} {L : List (Int × On)} {M : List On} {rt sq now : Int} {o : Oc} (hk : o.kind = 3) (hdis : Dis hv hr) (hV : TH pb hv L rt sq) (hR : RH rb hr M rt sq) (hJ : JR L M) (hl : L.length ≤ 60) (h0 : 0 ≤ sq) (h1 : sq ≤ 1000) (hp : (LL o.v.path).length ≤ 140737488355328) : ACalls Try.prog 16 [.ptr pb 0, .ptr rb 0, o.av, .int .i64 now] (uni hv hr) (stepQ pb rb L rt sq) := by
  have hML := hJ.len
  obtain ⟨Q1, hQ1, nc⟩ := hideQ (next_c (now := now) hV (by omega) hJ.o)
  obtain ⟨Q2, hQ2, rc⟩ := hideQ (rnext_c (now := now) hR (by omega) hJ.okM)
  refine ACalls.hide fun post hpost => ?_
  refine F16_in (by simp) (by simp) fun hbd => ?_
  repeat' (first
    | refine awp_seqK fun K' hpK => ?_
    | refine awp_block ?_
    | refine awp_condG fun A' B' hpA hpB => ?_
    | refine useK (by with_reducible assumption) ?_
    | refine useP (by with_reducible assumption) ?_
    | refine ED_cons (fun _ => ?_) ?_
    | (refine stable_mk ?_; simp (disch := first | (with_reducible assumption) | (simp; done) | omega | (simp; omega)) [Oc.av, hk]; done)
    | (refine stable_no ?_; simp (disch := first | (with_reducible assumption) | (simp; done) | omega | (simp; omega)) [Oc.av, hk]; done)
    | (with_reducible refine And.intro ?_ ?_)
    | (with_reducible intro hc)
    | (with_reducible refine GDsplit (fun hc => ?_) (fun hc => ?_) <;> try simp [hc])
    | (with_reducible refine GDsplitN (fun hc => ?_) (fun hc => ?_) <;> try simp [hc])
    | (with_reducible refine GDsplitNB (fun hc => ?_) (fun hc => ?_) <;> try simp [hc])
    | (with_reducible refine GDsplitB (fun hc => ?_) (fun hc => ?_) <;> try simp [hc])
    | (with_reducible refine GKsplit (fun hc => ?_) (fun hc => ?_) <;> try simp [hc])
    | (with_reducible refine GKsplitN (fun hc => ?_) (fun hc => ?_) <;> try simp [hc])
    | (with_reducible refine GKsplitNB (fun hc => ?_) (fun hc => ?_) <;> try simp [hc])
    | (with_reducible refine GKsplitB (fun hc => ?_) (fun hc => ?_) <;> try simp [hc])
    | simp (disch := first | (with_reducible assumption) | (simp; done) | omega | (simp; omega)) [Oc.av, hk])
  refine CallK.fl nc hdis ?_
  rintro r hv2 hdis2 _ _ hq
  rw [hQ1] at hq
  obtain ⟨hV2, s, rfl, hs⟩ := hq
  have hsl : (LL s).length ≤ 1000 := by rw [hs, List.length_map]; exact Nat.le_trans (List.length_filter_le _ _) (by omega)
  repeat' (first
    | refine awp_seqK fun K' hpK => ?_
    | refine awp_block ?_
    | refine awp_condG fun A' B' hpA hpB => ?_
    | refine useK (by with_reducible assumption) ?_
    | refine useP (by with_reducible assumption) ?_
    | refine ED_cons (fun _ => ?_) ?_
    | (refine stable_mk ?_; simp (disch := first | (with_reducible assumption) | (simp; done) | omega | (simp; omega)); done)
    | (refine stable_no ?_; simp (disch := first | (with_reducible assumption) | (simp; done) | omega | (simp; omega)); done)
    | (with_reducible refine And.intro ?_ ?_)
    | (with_reducible intro hc)
    | (with_reducible refine GDsplit (fun hc => ?_) (fun hc => ?_) <;> try simp [hc])
    | (with_reducible refine GDsplitN (fun hc => ?_) (fun hc => ?_) <;> try simp [hc])
    | (with_reducible refine GDsplitNB (fun hc => ?_) (fun hc => ?_) <;> try simp [hc])
    | (with_reducible refine GDsplitB (fun hc => ?_) (fun hc => ?_) <;> try simp [hc])
    | (with_reducible refine GKsplit (fun hc => ?_) (fun hc => ?_) <;> try simp [hc])
    | (with_reducible refine GKsplitN (fun hc => ?_) (fun hc => ?_) <;> try simp [hc])
    | (with_reducible refine GKsplitNB (fun hc => ?_) (fun hc => ?_) <;> try simp [hc])
    | (with_reducible refine GKsplitB (fun hc => ?_) (fun hc => ?_) <;> try simp [hc])
    | simp (disch := first | (with_reducible assumption) | (simp; done) | omega | (simp; omega)))
  refine CallK.use (plainL_c (s := s) hsl) ?_
  rintro r G2 _ _ ⟨rfl, t, rfl, ht⟩
  repeat' (first
    | refine awp_seqK fun K' hpK => ?_
    | refine awp_block ?_
    | refine awp_condG fun A' B' hpA hpB => ?_
    | refine useK (by with_reducible assumption) ?_
    | refine useP (by with_reducible assumption) ?_
    | refine ED_cons (fun _ => ?_) ?_
    | (refine stable_mk ?_; simp (disch := first | (with_reducible assumption) | (simp; done) | omega | (simp; omega)); done)
    | (refine stable_no ?_; simp (disch := first | (with_reducible assumption) | (simp; done) | omega | (simp; omega)); done)
    | (with_reducible refine And.intro ?_ ?_)
    | (with_reducible intro hc)
    | (with_reducible refine GDsplit (fun hc => ?_) (fun hc => ?_) <;> try simp [hc])
    | (with_reducible refine GDsplitN (fun hc => ?_) (fun hc => ?_) <;> try simp [hc])
    | (with_reducible refine GDsplitNB (fun hc => ?_) (fun hc => ?_) <;> try simp [hc])
    | (with_reducible refine GDsplitB (fun hc => ?_) (fun hc => ?_) <;> try simp [hc])
    | (with_reducible refine GKsplit (fun hc => ?_) (fun hc => ?_) <;> try simp [hc])
    | (with_reducible refine GKsplitN (fun hc => ?_) (fun hc => ?_) <;> try simp [hc])
    | (with_reducible refine GKsplitNB (fun hc => ?_) (fun hc => ?_) <;> try simp [hc])
    | (with_reducible refine GKsplitB (fun hc => ?_) (fun hc => ?_) <;> try simp [hc])
    | simp (disch := first | (with_reducible assumption) | (simp; done) | omega | (simp; omega)))
  refine CallK.fr rc hdis2 ?_
  rintro r hr2 hdis3 _ _ hq
  rw [hQ2] at hq
  obtain ⟨hR2, s2, rfl, hs2⟩ := hq
  have hJ2 := hJ.next now rt hV2.srt
  repeat' (first
    | refine awp_seqK fun K' hpK => ?_
    | refine awp_block ?_
    | refine awp_condG fun A' B' hpA hpB => ?_
    | refine useK (by with_reducible assumption) ?_
    | refine useP (by with_reducible assumption) ?_
    | refine ED_cons (fun _ => ?_) ?_
    | (refine stable_mk ?_; simp (disch := first | (with_reducible assumption) | (simp; done) | omega | (simp; omega)); done)
    | (refine stable_no ?_; simp (disch := first | (with_reducible assumption) | (simp; done) | omega | (simp; omega)); done)
    | (with_reducible refine And.intro ?_ ?_)
    | (with_reducible intro hc)
    | (with_reducible refine GDsplit (fun hc => ?_) (fun hc => ?_) <;> try simp [hc])
    | (with_reducible refine GDsplitN (fun hc => ?_) (fun hc => ?_) <;> try simp [hc])
    | (with_reducible refine GDsplitNB (fun hc => ?_) (fun hc => ?_) <;> try simp [hc])
    | (with_reducible refine GDsplitB (fun hc => ?_) (fun hc => ?_) <;> try simp [hc])
    | (with_reducible refine GKsplit (fun hc => ?_) (fun hc => ?_) <;> try simp [hc])
    | (with_reducible refine GKsplitN (fun hc => ?_) (fun hc => ?_) <;> try simp [hc])
    | (with_reducible refine GKsplitNB (fun hc => ?_) (fun hc => ?_) <;> try simp [hc])
    | (with_reducible refine GKsplitB (fun hc => ?_) (fun hc => ?_) <;> try simp [hc])
    | (refine CallK.use (sameL_c (a := t) (b := s2) (by rw [ht, hs, hs2]; exact hJ.msgs now rt) (by rw [ht]; exact hsl)) ?_; rintro r G' _ _ ⟨rfl, rfl⟩)
    | simp (disch := first | (with_reducible assumption) | (simp; done) | omega | (simp; omega)))
  exact ends_one (by simp <;> rfl) (by simp) (hpost _ _ ⟨hv2, hr2, _, _, sq, rfl, hdis3, rfl, hV2, hR2, hJ2, by rw [List.length_map]; omega, h0, by omega⟩)
set_option maxHeartbeats 8000000 in
theorem step_4 {pb rb : Nat} {hv hr : Hp} {L : List (Int × On)} {M : List On} {rt sq now : Int} {o : Oc} (hk : o.kind = 4) (hdis : Dis hv hr) (hV : TH pb hv L rt sq) (hR : RH rb hr M rt sq) (hJ : JR L M) (hl : L.length ≤ 60) (h0 : 0 ≤ sq) (h1 : sq ≤ 1000) (hp : (LL o.v.path).length ≤ 140737488355328) : ACalls Try.prog 16 [.ptr pb 0, .ptr rb 0, o.av, .int .i64 now] (uni hv hr) (stepQ pb rb L rt sq) := by
  have hML := hJ.len
  obtain ⟨d, hd⟩ : ∃ d, d = doneT M o := ⟨_, rfl⟩
  have tc := done34_c (o := o) hR (by omega) hJ.okM
  rw [← hd] at tc
  simp only [Oc.av, hk] at tc
  obtain ⟨Q1, hQ1, dc⟩ := hideQ (done_c (sw := d.1) (life := d.2.1) (ep := d.2.2.1) (s := d.2.2.2) hV (by omega) h0 (by omega) hJ.o)
  obtain ⟨Q2, hQ2, rc⟩ := hideQ (rdone_c (sw := d.1) (life := d.2.1) (ep := d.2.2.1) (s := d.2.2.2) hR (by omega) h0 (by omega) hJ.okM)
  refine ACalls.hide fun post hpost => ?_
  refine F16_in (by simp) (by simp) fun hbd => ?_
  repeat' (first
    | refine awp_seqK fun K' hpK => ?_
    | refine awp_block ?_
    | refine awp_condG fun A' B' hpA hpB => ?_
    | refine useK (by with_reducible assumption) ?_
    | refine useP (by with_reducible assumption) ?_
    | refine ED_cons (fun _ => ?_) ?_
    | (refine stable_mk ?_; simp (disch := first | (with_reducible assumption) | (simp; done) | omega | (simp; omega)) [Oc.av, hk]; done)
    | (refine stable_no ?_; simp (disch := first | (with_reducible assumption) | (simp; done) | omega | (simp; omega)) [Oc.av, hk]; done)
    | (with_reducible refine And.intro ?_ ?_)
    | (with_reducible intro hc)
    | (with_reducible refine GDsplit (fun hc => ?_) (fun hc => ?_) <;> try simp [hc])
    | (with_reducible refine GDsplitN (fun hc => ?_) (fun hc => ?_) <;> try simp [hc])
    | (with_reducible refine GDsplitNB (fun hc => ?_) (fun hc => ?_) <;> try simp [hc])
    | (with_reducible refine GDsplitB (fun hc => ?_) (fun hc => ?_) <;> try simp [hc])
    | (with_reducible refine GKsplit (fun hc => ?_) (fun hc => ?_) <;> try simp [hc])
    | (with_reducible refine GKsplitN (fun hc => ?_) (fun hc => ?_) <;> try simp [hc])
    | (with_reducible refine GKsplitNB (fun hc => ?_) (fun hc => ?_) <;> try simp [hc])
    | (with_reducible refine GKsplitB (fun hc => ?_) (fun hc => ?_) <;> try simp [hc])
    | simp (disch := first | (with_reducible assumption) | (simp; done) | omega | (simp; omega)) [Oc.av, hk])
  refine CallK.fr tc hdis ?_
  rintro r hr1 hdis1 _ _ ⟨rfl, rfl⟩
  repeat' (first
    | refine awp_seqK fun K' hpK => ?_
    | refine awp_block ?_
    | refine awp_condG fun A' B' hpA hpB => ?_
    | refine useK (by with_reducible assumption) ?_
    | refine useP (by with_reducible assumption) ?_
    | refine ED_cons (fun _ => ?_) ?_
    | (refine stable_mk ?_; simp (disch := first | (with_reducible assumption) | (simp; done) | omega | (simp; omega)); done)
    | (refine stable_no ?_; simp (disch := first | (with_reducible assumption) | (simp; done) | omega | (simp; omega)); done)
    | (with_reducible refine And.intro ?_ ?_)
    | (with_reducible intro hc)
    | (with_reducible refine GDsplit (fun hc => ?_) (fun hc => ?_) <;> try simp [hc])
    | (with_reducible refine GDsplitN (fun hc => ?_) (fun hc => ?_) <;> try simp [hc])
    | (with_reducible refine GDsplitNB (fun hc => ?_) (fun hc => ?_) <;> try simp [hc])
    | (with_reducible refine GDsplitB (fun hc => ?_) (fun hc => ?_) <;> try simp [hc])
    | (with_reducible refine GKsplit (fun hc => ?_) (fun hc => ?_) <;> try simp [hc])
    | (with_reducible refine GKsplitN (fun hc => ?_) (fun hc => ?_) <;> try simp [hc])
    | (with_reducible refine GKsplitNB (fun hc => ?_) (fun hc => ?_) <;> try simp [hc])
    | (with_reducible refine GKsplitB (fun hc => ?_) (fun hc => ?_) <;> try simp [hc])
    | simp (disch := first | (with_reducible assumption) | (simp; done) | omega | (simp; omega)))
  refine CallK.fl dc hdis1 ?_
  rintro r hv2 hdis2 _ _ hq
  rw [hQ1] at hq
  obtain ⟨hV2, rfl⟩ := hq
  repeat' (first
    | refine awp_seqK fun K' hpK => ?_
    | refine awp_block ?_
    | refine awp_condG fun A' B' hpA hpB => ?_
    | refine useK (by with_reducible assumption) ?_
    | refine useP (by with_reducible assumption) ?_
    | refine ED_cons (fun _ => ?_) ?_
    | (refine stable_mk ?_; simp (disch := first | (with_reducible assumption) | (simp; done) | omega | (simp; omega)); done)
    | (refine stable_no ?_; simp (disch := first | (with_reducible assumption) | (simp; done) | omega | (simp; omega)); done)
    | (with_reducible refine And.intro ?_ ?_)
    | (with_reducible intro hc)
    | (with_reducible refine GDsplit (fun hc => ?_) (fun hc => ?_) <;> try simp [hc])
    | (with_reducible refine GDsplitN (fun hc => ?_) (fun hc => ?_) <;> try simp [hc])
    | (with_reducible refine GDsplitNB (fun hc => ?_) (fun hc => ?_) <;> try simp [hc])
    | (with_reducible refine GDsplitB (fun hc => ?_) (fun hc => ?_) <;> try simp [hc])
    | (with_reducible refine GKsplit (fun hc => ?_) (fun hc => ?_) <;> try simp [hc])
    | (with_reducible refine GKsplitN (fun hc => ?_) (fun hc => ?_) <;> try simp [hc])
    | (with_reducible refine GKsplitNB (fun hc => ?_) (fun hc => ?_) <;> try simp [hc])
    | (with_reducible refine GKsplitB (fun hc => ?_) (fun hc => ?_) <;> try simp [hc])
    | simp (disch := first | (with_reducible assumption) | (simp; done) | omega | (simp; omega)))
  refine CallK.fr rc hdis2 ?_
  rintro r hr2 hdis3 _ _ hq
  rw [hQ2] at hq
  obtain ⟨hR2, rfl⟩ := hq
  obtain ⟨hJ2, he⟩ := hJ.done sq d.1 d.2.1 d.2.2.1 d.2.2.2 hV2.srt
  obtain ⟨k1, k2, k3⟩ := doneP_len hJ.s sq d.1 d.2.1 d.2.2.1 d.2.2.2
  rw [← he] at hR2 ⊢
  generalize doneP L sq d.1 d.2.1 d.2.2.1 d.2.2.2 = z at hV2 hR2 hJ2 k1 k2 k3 ⊢
  repeat' (first
    | refine awp_seqK fun K' hpK => ?_
    | refine awp_block ?_
    | refine awp_condG fun A' B' hpA hpB => ?_
    | refine useK (by with_reducible assumption) ?_
    | refine useP (by with_reducible assumption) ?_
    | refine ED_cons (fun _ => ?_) ?_
    | (refine stable_mk ?_; simp (disch := first | (with_reducible assumption) | (simp; done) | omega | (simp; omega)); done)
    | (refine stable_no ?_; simp (disch := first | (with_reducible assumption) | (simp; done) | omega | (simp; omega)); done)
    | (with_reducible refine And.intro ?_ ?_)
    | (with_reducible intro hc)
    | (with_reducible refine GDsplit (fun hc => ?_) (fun hc => ?_) <;> try simp [hc])
    | (with_reducible refine GDsplitN (fun hc => ?_) (fun hc => ?_) <;> try simp [hc])
    | (with_reducible refine GDsplitNB (fun hc => ?_) (fun hc => ?_) <;> try simp [hc])
    | (with_reducible refine GDsplitB (fun hc => ?_) (fun hc => ?_) <;> try simp [hc])
    | (with_reducible refine GKsplit (fun hc => ?_) (fun hc => ?_) <;> try simp [hc])
    | (with_reducible refine GKsplitN (fun hc => ?_) (fun hc => ?_) <;> try simp [hc])
    | (with_reducible refine GKsplitNB (fun hc => ?_) (fun hc => ?_) <;> try simp [hc])
    | (with_reducible refine GKsplitB (fun hc => ?_) (fun hc => ?_) <;> try simp [hc])
    | simp (disch := first | (with_reducible assumption) | (simp; done) | omega | (simp; omega)))
  exact ends_one (by simp <;> rfl) (by simp) (hpost _ _ ⟨hv2, hr2, z.1, _, z.2.1, rfl, hdis3, by simp, hV2, hR2, hJ2, k1, by omega, k3⟩)
set_option maxHeartbeats 8000000 in
theorem step_5 {pb rb : Nat} {hv hr : Hp} {L : List (Int × On)} {M : List On} {rt sq now : Int} {o : Oc} (hk : o.kind = 5) (hdis : Dis hv hr) (hV : TH pb hv L rt sq) (hR : RH rb hr M rt sq) (hJ : JR L M) (hl : L.length ≤ 60) (h0 : 0 ≤ sq) (h1 : sq ≤ 1000) (hp : (LL o.v.path).length ≤ 140737488355328) : ACalls Try.prog 16 [.ptr pb 0, .ptr rb 0, o.av, .int .i64 now] (uni hv hr) (stepQ pb rb L rt sq) := by
  have hML := hJ.len
  obtain ⟨d, hd⟩ : ∃ d, d = doneT M o := ⟨_, rfl⟩
  have tc := done34_c (o := o) hR (by omega) hJ.okM
  rw [← hd] at tc
  simp only [Oc.av, hk] at tc
  obtain ⟨Q1, hQ1, dc⟩ := hideQ (done_c (sw := d.1) (life := d.2.1) (ep := d.2.2.1) (s := d.2.2.2) hV (by omega) h0 (by omega) hJ.o)
  obtain ⟨Q2, hQ2, rc⟩ := hideQ (rdone_c (sw := d.1) (life := d.2.1) (ep := d.2.2.1) (s := d.2.2.2) hR (by omega) h0 (by omega) hJ.okM)
  refine ACalls.hide fun post hpost => ?_
  refine F16_in (by simp) (by simp) fun hbd => ?_
  repeat' (first
    | refine awp_seqK fun K' hpK => ?_
    | refine awp_block ?_
    | refine awp_condG fun A' B' hpA hpB => ?_
    | refine useK (by with_reducible assumption) ?_
    | refine useP (by with_reducible assumption) ?_
    | refine ED_cons (fun _ => ?_) ?_
    | (refine stable_mk ?_; simp (disch := first | (with_reducible assumption) | (simp; done) | omega | (simp; omega)) [Oc.av, hk]; done)
    | (refine stable_no ?_; simp (disch := first | (with_reducible assumption) | (simp; done) | omega | (simp; omega)) [Oc.av, hk]; done)
    | (with_reducible refine And.intro ?_ ?_)
    | (with_reducible intro hc)
    | (with_reducible refine GDsplit (fun hc => ?_) (fun hc => ?_) <;> try simp [hc])
    | (with_reducible refine GDsplitN (fun hc => ?_) (fun hc => ?_) <;> try simp [hc])
    | (with_reducible refine GDsplitNB (fun hc => ?_) (fun hc => ?_) <;> try simp [hc])
    | (with_reducible refine GDsplitB (fun hc => ?_) (fun hc => ?_) <;> try simp [hc])
    | (with_reducible refine GKsplit (fun hc => ?_) (fun hc => ?_) <;> try simp [hc])
    | (with_reducible refine GKsplitN (fun hc => ?_) (fun hc => ?_) <;> try simp [hc])
    | (with_reducible refine GKsplitNB (fun hc => ?_) (fun hc => ?_) <;> try simp [hc])
    | (with_reducible refine GKsplitB (fun hc => ?_) (fun hc => ?_) <;> try simp [hc])
    | simp (disch := first | (with_reducible assumption) | (simp; done) | omega | (simp; omega)) [Oc.av, hk])
  refine CallK.fr tc hdis ?_
  rintro r hr1 hdis1 _ _ ⟨rfl, rfl⟩
  repeat' (first
    | refine awp_seqK fun K' hpK => ?_
    | refine awp_block ?_
    | refine awp_condG fun A' B' hpA hpB => ?_
    | refine useK (by with_reducible assumption) ?_
    | refine useP (by with_reducible assumption) ?_
    | refine ED_cons (fun _ => ?_) ?_
    | (refine stable_mk ?_; simp (disch := first | (with_reducible assumption) | (simp; done) | omega | (simp; omega)); done)
    | (refine stable_no ?_; simp (disch := first | (with_reducible assumption) | (simp; done) | omega | (simp; omega)); done)
    | (with_reducible refine And.intro ?_ ?_)
    | (with_reducible intro hc)
    | (with_reducible refine GDsplit (fun hc => ?_) (fun hc => ?_) <;> try simp [hc])
    | (with_reducible refine GDsplitN (fun hc => ?_) (fun hc => ?_) <;> try simp [hc])
    | (with_reducible refine GDsplitNB (fun hc => ?_) (fun hc => ?_) <;> try simp [hc])
    | (with_reducible refine GDsplitB (fun hc => ?_) (fun hc => ?_) <;> try simp [hc])
    | (with_reducible refine GKsplit (fun hc => ?_) (fun hc => ?_) <;> try simp [hc])
    | (with_reducible refine GKsplitN (fun hc => ?_) (fun hc => ?_) <;> try simp [hc])
    | (with_reducible refine GKsplitNB (fun hc => ?_) (fun hc => ?_) <;> try simp [hc])
    | (with_reducible refine GKsplitB (fun hc => ?_) (fun hc => ?_) <;> try simp [hc])
    | simp (disch := first | (with_reducible assumption) | (simp; done) | omega | (simp; omega)))
  refine CallK.fl dc hdis1 ?_
  rintro r hv2 hdis2 _ _ hq
  rw [hQ1] at hq
  obtain ⟨hV2, rfl⟩ := hq
  repeat' (first
    | refine awp_seqK fun K' hpK => ?_
    | refine awp_block ?_
    | refine awp_condG fun A' B' hpA hpB => ?_
    | refine useK (by with_reducible assumption) ?_
    | refine useP (by with_reducible assumption) ?_
    | refine ED_cons (fun _ => ?_) ?_
    | (refine stable_mk ?_; simp (disch := first | (with_reducible assumption) | (simp; done) | omega | (simp; omega)); done)
    | (refine stable_no ?_; simp (disch := first | (with_reducible assumption) | (simp; done) | omega | (simp; omega)); done)
    | (with_reducible refine And.intro ?_ ?_)
    | (with_reducible intro hc)
    | (with_reducible refine GDsplit (fun hc => ?_) (fun hc => ?_) <;> try simp [hc])
    | (with_reducible refine GDsplitN (fun hc => ?_) (fun hc => ?_) <;> try simp [hc])
    | (with_reducible refine GDsplitNB (fun hc => ?_) (fun hc => ?_) <;> try simp [hc])
    | (with_reducible refine GDsplitB (fun hc => ?_) (fun hc => ?_) <;> try simp [hc])
    | (with_reducible refine GKsplit (fun hc => ?_) (fun hc => ?_) <;> try simp [hc])
    | (with_reducible refine GKsplitN (fun hc => ?_) (fun hc => ?_) <;> try simp [hc])
    | (with_reducible refine GKsplitNB (fun hc => ?_) (fun hc => ?_) <;> try simp [hc])
    | (with_reducible refine GKsplitB (fun hc => ?_) (fun hc => ?_) <;> try simp [hc])
    | simp (disch := first | (with_reducible assumption) | (simp; done) | omega | (simp; omega)))
  refine CallK.fr rc hdis2 ?_
  rintro r hr2 hdis3 _ _ hq
  rw [hQ2] at hq
  obtain ⟨hR2, rfl⟩ := hq
  obtain ⟨hJ2, he⟩ := hJ.done sq d.1 d.2.1 d.2.2.1 d.2.2.2 hV2.srt
  obtain ⟨k1, k2, k3⟩ := doneP_len hJ.s sq d.1 d.2.1 d.2.2.1 d.2.2.2
  rw [← he] at hR2 ⊢
  generalize doneP L sq d.1 d.2.1 d.2.2.1 d.2.2.2 = z at hV2 hR2 hJ2 k1 k2 k3 ⊢
  repeat' (first
    | refine awp_seqK fun K' hpK => ?_
    | refine awp_block ?_
    | refine awp_condG fun A' B' hpA hpB => ?_
    | refine useK (by with_reducible assumption) ?_
    | refine useP (by with_reducible assumption) ?_
    | refine ED_cons (fun _ => ?_) ?_
    | (refine stable_mk ?_; simp (disch := first | (with_reducible assumption) | (simp; done) | omega | (simp; omega)); done)
    | (refine stable_no ?_; simp (disch := first | (with_reducible assumption) | (simp; done) | omega | (simp; omega)); done)
    | (with_reducible refine And.intro ?_ ?_)
    | (with_reducible intro hc)
    | (with_reducible refine GDsplit (fun hc => ?_) (fun hc => ?_) <;> try simp [hc])
    | (with_reducible refine GDsplitN (fun hc => ?_) (fun hc => ?_) <;> try simp [hc])
    | (with_reducible refine GDsplitNB (fun hc => ?_) (fun hc => ?_) <;> try simp [hc])
    | (with_reducible refine GDsplitB (fun hc => ?_) (fun hc => ?_) <;> try simp [hc])
    | (with_reducible refine GKsplit (fun hc => ?_) (fun hc => ?_) <;> try simp [hc])
    | (with_reducible refine GKsplitN (fun hc => ?_) (fun hc => ?_) <;> try simp [hc])
    | (with_reducible refine GKsplitNB (fun hc => ?_) (fun hc => ?_) <;> try simp [hc])
    | (with_reducible refine GKsplitB (fun hc => ?_) (fun hc => ?_) <;> try simp [hc])
    | simp (disch := first | (with_reducible assumption) | (simp; done) | omega | (simp; omega)))
  exact ends_one (by simp <;> rfl) (by simp) (hpost _ _ ⟨hv2, hr2, z.1, _, z.2.1, rfl, hdis3, by simp, hV2, hR2, hJ2, k1, by omega, k3⟩)
set_option maxHeartbeats 8000000 in
theorem step_6 {pb rb : Nat} {hv hr : Hp} {L : List (Int × On)} {M : List On} {rt sq now : Int} {o : Oc} (hk : o.kind = 6) (hdis : Dis hv hr) (hV : TH pb hv L rt sq) (hR : RH rb hr M rt sq) (hJ : JR L M) (hl : L.length ≤ 60) (h0 : 0 ≤ sq) (h1 : sq ≤ 1000) (hp : (LL o.v.path).length ≤ 140737488355328) : ACalls Try.prog 16 [.ptr pb 0, .ptr rb 0, o.av, .int .i64 now] (uni hv hr) (stepQ pb rb L rt sq) := by
  have hML := hJ.len
  obtain ⟨d, hd⟩ : ∃ d, d = doneT M o := ⟨_, rfl⟩
  have tc := done34_c (o := o) hR (by omega) hJ.okM
  rw [← hd] at tc
  simp only [Oc.av, hk] at tc
  obtain ⟨Q1, hQ1, dc⟩ := hideQ (done_c (sw := d.1) (life := d.2.1) (ep := d.2.2.1) (s := d.2.2.2) hV (by omega) h0 (by omega) hJ.o)
  obtain ⟨Q2, hQ2, rc⟩ := hideQ (rdone_c (sw := d.1) (life := d.2.1) (ep := d.2.2.1) (s := d.2.2.2) hR (by omega) h0 (by omega) hJ.okM)
  refine ACalls.hide fun post hpost => ?_
  refine F16_in (by simp) (by simp) fun hbd => ?_
  repeat' (first
    | refine awp_seqK fun K' hpK => ?_
    | refine awp_block ?_
    | refine awp_condG fun A' B' hpA hpB => ?_
    | refine useK (by with_reducible assumption) ?_
    | refine useP (by with_reducible assumption) ?_
    | refine ED_cons (fun _ => ?_) ?_
    | (refine stable_mk ?_; simp (disch := first | (with_reducible assumption) | (simp; done) | omega | (simp; omega)) [Oc.av, hk]; done)
    | (refine stable_no ?_; simp (disch := first | (with_reducible assumption) | (simp; done) | omega | (simp; omega)) [Oc.av, hk]; done)
    | (with_reducible refine And.intro ?_ ?_)
    | (with_reducible intro hc)
    | (with_reducible refine GDsplit (fun hc => ?_) (fun hc => ?_) <;> try simp [hc])
    | (with_reducible refine GDsplitN (fun hc => ?_) (fun hc => ?_) <;> try simp [hc])
    | (with_reducible refine GDsplitNB (fun hc => ?_) (fun hc => ?_) <;> try simp [hc])
    | (with_reducible refine GDsplitB (fun hc => ?_) (fun hc => ?_) <;> try simp [hc])
    | (with_reducible refine GKsplit (fun hc => ?_) (fun hc => ?_) <;> try simp [hc])
    | (with_reducible refine GKsplitN (fun hc => ?_) (fun hc => ?_) <;> try simp [hc])
    | (with_reducible refine GKsplitNB (fun hc => ?_) (fun hc => ?_) <;> try simp [hc])
    | (with_reducible refine GKsplitB (fun hc => ?_) (fun hc => ?_) <;> try simp [hc])
    | simp (disch := first | (with_reducible assumption) | (simp; done) | omega | (simp; omega)) [Oc.av, hk])
  refine CallK.fr tc hdis ?_
  rintro r hr1 hdis1 _ _ ⟨rfl, rfl⟩
  repeat' (first
    | refine awp_seqK fun K' hpK => ?_
    | refine awp_block ?_
    | refine awp_condG fun A' B' hpA hpB => ?_
    | refine useK (by with_reducible assumption) ?_
    | refine useP (by with_reducible assumption) ?_
    | refine ED_cons (fun _ => ?_) ?_
    | (refine stable_mk ?_; simp (disch := first | (with_reducible assumption) | (simp; done) | omega | (simp; omega)); done)
    | (refine stable_no ?_; simp (disch := first | (with_reducible assumption) | (simp; done) | omega | (simp; omega)); done)
    | (with_reducible refine And.intro ?_ ?_)
    | (with_reducible intro hc)
    | (with_reducible refine GDsplit (fun hc => ?_) (fun hc => ?_) <;> try simp [hc])
    | (with_reducible refine GDsplitN (fun hc => ?_) (fun hc => ?_) <;> try simp [hc])
    | (with_reducible refine GDsplitNB (fun hc => ?_) (fun hc => ?_) <;> try simp [hc])
    | (with_reducible refine GDsplitB (fun hc => ?_) (fun hc => ?_) <;> try simp [hc])
    | (with_reducible refine GKsplit (fun hc => ?_) (fun hc => ?_) <;> try simp [hc])
    | (with_reducible refine GKsplitN (fun hc => ?_) (fun hc => ?_) <;> try simp [hc])
    | (with_reducible refine GKsplitNB (fun hc => ?_) (fun hc => ?_) <;> try simp [hc])
    | (with_reducible refine GKsplitB (fun hc => ?_) (fun hc => ?_) <;> try simp [hc])
    | simp (disch := first | (with_reducible assumption) | (simp; done) | omega | (simp; omega)))
  refine CallK.fl dc hdis1 ?_
  rintro r hv2 hdis2 _ _ hq
  rw [hQ1] at hq
  obtain ⟨hV2, rfl⟩ := hq
  repeat' (first
    | refine awp_seqK fun K' hpK => ?_
    | refine awp_block ?_
    | refine awp_condG fun A' B' hpA hpB => ?_
    | refine useK (by with_reducible assumption) ?_
    | refine useP (by with_reducible assumption) ?_
    | refine ED_cons (fun _ => ?_) ?_
    | (refine stable_mk ?_; simp (disch := first | (with_reducible assumption) | (simp; done) | omega | (simp; omega)); done)
    | (refine stable_no ?_; simp (disch := first | (with_reducible assumption) | (simp; done) | omega | (simp; omega)); done)
    | (with_reducible refine And.intro ?_ ?_)
    | (with_reducible intro hc)
    | (with_reducible refine GDsplit (fun hc => ?_) (fun hc => ?_) <;> try simp [hc])
    | (with_reducible refine GDsplitN (fun hc => ?_) (fun hc => ?_) <;> try simp [hc])
    | (with_reducible refine GDsplitNB (fun hc => ?_) (fun hc => ?_) <;> try simp [hc])
    | (with_reducible refine GDsplitB (fun hc => ?_) (fun hc => ?_) <;> try simp [hc])
    | (with_reducible refine GKsplit (fun hc => ?_) (fun hc => ?_) <;> try simp [hc])
    | (with_reducible refine GKsplitN (fun hc => ?_) (fun hc => ?_) <;> try simp [hc])
    | (with_reducible refine GKsplitNB (fun hc => ?_) (fun hc => ?_) <;> try simp [hc])
    | (with_reducible refine GKsplitB (fun hc => ?_) (fun hc => ?_) <;> try simp [hc])
    | simp (disch := first | (with_reducible assumption) | (simp; done) | omega | (simp; omega)))
  refine CallK.fr rc hdis2 ?_
  rintro r hr2 hdis3 _ _ hq
  rw [hQ2] at hq
  obtain ⟨hR2, rfl⟩ := hq
  obtain ⟨hJ2, he⟩ := hJ.done sq d.1 d.2.1 d.2.2.1 d.2.2.2 hV2.srt
  obtain ⟨k1, k2, k3⟩ := doneP_len hJ.s sq d.1 d.2.1 d.2.2.1 d.2.2.2
  rw [← he] at hR2 ⊢
  generalize doneP L sq d.1 d.2.1 d.2.2.1 d.2.2.2 = z at hV2 hR2 hJ2 k1 k2 k3 ⊢
  repeat' (first
    | refine awp_seqK fun K' hpK => ?_
    | refine awp_block ?_
    | refine awp_condG fun A' B' hpA hpB => ?_
    | refine useK (by with_reducible assumption) ?_
    | refine useP (by with_reducible assumption) ?_
    | refine ED_cons (fun _ => ?_) ?_
    | (refine stable_mk ?_; simp (disch := first | (with_reducible assumption) | (simp; done) | omega | (simp; omega)); done)
    | (refine stable_no ?_; simp (disch := first | (with_reducible assumption) | (simp; done) | omega | (simp; omega)); done)
    | (with_reducible refine And.intro ?_ ?_)
    | (with_reducible intro hc)
    | (with_reducible refine GDsplit (fun hc => ?_) (fun hc => ?_) <;> try simp [hc])
    | (with_reducible refine GDsplitN (fun hc => ?_) (fun hc => ?_) <;> try simp [hc])
    | (with_reducible refine GDsplitNB (fun hc => ?_) (fun hc => ?_) <;> try simp [hc])
    | (with_reducible refine GDsplitB (fun hc => ?_) (fun hc => ?_) <;> try simp [hc])
    | (with_reducible refine GKsplit (fun hc => ?_) (fun hc => ?_) <;> try simp [hc])
    | (with_reducible refine GKsplitN (fun hc => ?_) (fun hc => ?_) <;> try simp [hc])
    | (with_reducible refine GKsplitNB (fun hc => ?_) (fun hc => ?_) <;> try simp [hc])
    | (with_reducible refine GKsplitB (fun hc => ?_) (fun hc => ?_) <;> try simp [hc])
    | simp (disch := first | (with_reducible assumption) | (simp; done) | omega | (simp; omega)))
  exact ends_one (by simp <;> rfl) (by simp) (hpost _ _ ⟨hv2, hr2, z.1, _, z.2.1, rfl, hdis3, by simp, hV2, hR2, hJ2, k1, by omega, k3⟩)
set_option maxHeartbeats 8000000 in
theorem step_7 {pb rb : Nat} {hv hr : Hp} {L : List (Int × On)} {M : List On} {rt sq now : Int} {o : Oc} (hk : o.kind = 7) (hdis : Dis hv hr) (hV : TH pb hv L rt sq) (hR : RH rb hr M rt sq) (hJ : JR L M) (hl : L.length ≤ 60) (h0 : 0 ≤ sq) (h1 : sq ≤ 1000) (hp : (LL o.v.path).length ≤ 140737488355328) : ACalls Try.prog 16 [.ptr pb 0, .ptr rb 0, o.av, .int .i64 now] (uni hv hr) (stepQ pb rb L rt sq) := by
  have hML := hJ.len
  obtain ⟨out, hg⟩ := id hR
  have hat := hg.at
  have hvr : hv rb = none := by
    rcases hdis rb with h | h
    · exact h
    · rw [hat] at h; cases h
  have hatu : uni hv hr rb = some (0, [out, .int .i64 rt, .int .u32 sq]) := by rw [uni_right hvr]; exact hat
  have hpo := Grow.plain hg
  obtain ⟨Q1, hQ1, cc⟩ := hideQ (clear_c hV (by omega))
  refine ACalls.hide fun post hpost => ?_
  refine F16_in (by simp) (by simp) fun hbd => ?_
  repeat' (first
    | refine awp_seqK fun K' hpK => ?_
    | refine awp_block ?_
    | refine awp_condG fun A' B' hpA hpB => ?_
    | refine useK (by with_reducible assumption) ?_
    | refine useP (by with_reducible assumption) ?_
    | refine ED_cons (fun _ => ?_) ?_
    | (refine stable_mk ?_; simp (disch := first | (with_reducible assumption) | (simp; done) | omega | (simp; omega)) [Oc.av, hk]; done)
    | (refine stable_no ?_; simp (disch := first | (with_reducible assumption) | (simp; done) | omega | (simp; omega)) [Oc.av, hk]; done)
    | (with_reducible refine And.intro ?_ ?_)
    | (with_reducible intro hc)
    | (with_reducible refine GDsplit (fun hc => ?_) (fun hc => ?_) <;> try simp [hc])
    | (with_reducible refine GDsplitN (fun hc => ?_) (fun hc => ?_) <;> try simp [hc])
    | (with_reducible refine GDsplitNB (fun hc => ?_) (fun hc => ?_) <;> try simp [hc])
    | (with_reducible refine GDsplitB (fun hc => ?_) (fun hc => ?_) <;> try simp [hc])
    | (with_reducible refine GKsplit (fun hc => ?_) (fun hc => ?_) <;> try simp [hc])
    | (with_reducible refine GKsplitN (fun hc => ?_) (fun hc => ?_) <;> try simp [hc])
    | (with_reducible refine GKsplitNB (fun hc => ?_) (fun hc => ?_) <;> try simp [hc])
    | (with_reducible refine GKsplitB (fun hc => ?_) (fun hc => ?_) <;> try simp [hc])
    | simp (disch := first | (with_reducible assumption) | (simp; done) | omega | (simp; omega)) [Oc.av, hk])
  refine CallK.fr (rwaiting_c hR (by omega)) hdis ?_
  rintro r hr1 hdis1 _ _ ⟨rfl, s, rfl, hs⟩
  repeat' (first
    | refine awp_seqK fun K' hpK => ?_
    | refine awp_block ?_
    | refine awp_condG fun A' B' hpA hpB => ?_
    | refine useK (by with_reducible assumption) ?_
    | refine useP (by with_reducible assumption) ?_
    | refine ED_cons (fun _ => ?_) ?_
    | (refine stable_mk ?_; simp (disch := first | (with_reducible assumption) | (simp; done) | omega | (simp; omega)) [hatu, hpo]; done)
    | (refine stable_no ?_; simp (disch := first | (with_reducible assumption) | (simp; done) | omega | (simp; omega)) [hatu, hpo]; done)
    | (with_reducible refine And.intro ?_ ?_)
    | (with_reducible intro hc)
    | (with_reducible refine GDsplit (fun hc => ?_) (fun hc => ?_) <;> try simp [hc])
    | (with_reducible refine GDsplitN (fun hc => ?_) (fun hc => ?_) <;> try simp [hc])
    | (with_reducible refine GDsplitNB (fun hc => ?_) (fun hc => ?_) <;> try simp [hc])
    | (with_reducible refine GDsplitB (fun hc => ?_) (fun hc => ?_) <;> try simp [hc])
    | (with_reducible refine GKsplit (fun hc => ?_) (fun hc => ?_) <;> try simp [hc])
    | (with_reducible refine GKsplitN (fun hc => ?_) (fun hc => ?_) <;> try simp [hc])
    | (with_reducible refine GKsplitNB (fun hc => ?_) (fun hc => ?_) <;> try simp [hc])
    | (with_reducible refine GKsplitB (fun hc => ?_) (fun hc => ?_) <;> try simp [hc])
    | simp (disch := first | (with_reducible assumption) | (simp; done) | omega | (simp; omega)) [hatu, hpo])
  rw [← uni_swap hvr]
  have hd2 : Dis hv (setH hr1 rb (some (0, [.nils, .int .i64 rt, .int .u32 sq]))) := by
    intro i
    by_cases hi : i = rb
    · subst hi; exact .inl hvr
    · rw [setH_ne _ _ hi]; exact hdis i
  refine CallK.fl cc hd2 ?_
  rintro r hv2 hdis2 _ _ hq
  rw [hQ1] at hq
  obtain ⟨hV2, s2, rfl, hs2⟩ := hq
  repeat' (first
    | refine awp_seqK fun K' hpK => ?_
    | refine awp_block ?_
    | refine awp_condG fun A' B' hpA hpB => ?_
    | refine useK (by with_reducible assumption) ?_
    | refine useP (by with_reducible assumption) ?_
    | refine ED_cons (fun _ => ?_) ?_
    | (refine stable_mk ?_; simp (disch := first | (with_reducible assumption) | (simp; done) | omega | (simp; omega)); done)
    | (refine stable_no ?_; simp (disch := first | (with_reducible assumption) | (simp; done) | omega | (simp; omega)); done)
    | (with_reducible refine And.intro ?_ ?_)
    | (with_reducible intro hc)
    | (with_reducible refine GDsplit (fun hc => ?_) (fun hc => ?_) <;> try simp [hc])
    | (with_reducible refine GDsplitN (fun hc => ?_) (fun hc => ?_) <;> try simp [hc])
    | (with_reducible refine GDsplitNB (fun hc => ?_) (fun hc => ?_) <;> try simp [hc])
    | (with_reducible refine GDsplitB (fun hc => ?_) (fun hc => ?_) <;> try simp [hc])
    | (with_reducible refine GKsplit (fun hc => ?_) (fun hc => ?_) <;> try simp [hc])
    | (with_reducible refine GKsplitN (fun hc => ?_) (fun hc => ?_) <;> try simp [hc])
    | (with_reducible refine GKsplitNB (fun hc => ?_) (fun hc => ?_) <;> try simp [hc])
    | (with_reducible refine GKsplitB (fun hc => ?_) (fun hc => ?_) <;> try simp [hc])
    | (refine CallK.use (nums_c (a := s2) (b := s) (by rw [hs2, hs]; exact hJ.ids) (by rw [hs2, List.length_map]; omega)) ?_; rintro r G' _ _ ⟨rfl, rfl⟩)
    | simp (disch := first | (with_reducible assumption) | (simp; done) | omega | (simp; omega)))
  have hsb : sub (one rb (RO .nils rt sq)) (setH hr1 rb (some (0, [.nils, .int .i64 rt, .int .u32 sq]))) := by
    intro i q hq
    unfold one setH emptyH at hq
    unfold setH
    split at hq
    · rename_i hi; rw [if_pos hi]; exact hq
    · cases hq
  refine ends_one_sub (G' := uni hv2 (one rb (RO .nils rt sq))) (by simp <;> rfl) (by simp) (sub_uni hsb) (hpost _ _ ⟨hv2, _, [], [], sq, rfl, ?_, rfl, hV2, ⟨.nils, Grow.nil _ _⟩, JR.nil, by simp, h0, by omega⟩)
  intro i
  rcases hdis2 i with h | h
  · exact .inl h
  · right
    cases hq : one rb (RO .nils rt sq) i with
    | none => rfl
    | some q => have := hsb i q hq; rw [h] at this; cases this
theorem step_c {pb rb : Nat} {hv hr : Hp} {L : List (Int × On)} {M : List On} {rt sq now : Int} {o : Oc} (hdis : Dis hv hr) (hV : TH pb hv L rt sq) (hR : RH rb hr M rt sq) (hJ : JR L M) (hl : L.length ≤ 60) (h0 : 0 ≤ sq) (h1 : sq ≤ 1000) (hp : (LL o.v.path).length ≤ 140737488355328) : ACalls Try.prog 16 [.ptr pb 0, .ptr rb 0, o.av, .int .i64 now] (uni hv hr) (stepQ pb rb L rt sq) := by
  by_cases k0 : o.kind = 0
  · exact step_0 k0 hdis hV hR hJ hl h0 h1 hp
  by_cases k1 : o.kind = 1
  · exact step_1 k1 hdis hV hR hJ hl h0 h1 hp
  by_cases k2 : o.kind = 2
  · exact step_2 k2 hdis hV hR hJ hl h0 h1 hp
  by_cases k3 : o.kind = 3
  · exact step_3 k3 hdis hV hR hJ hl h0 h1 hp
  by_cases k4 : o.kind = 4
  · exact step_4 k4 hdis hV hR hJ hl h0 h1 hp
  by_cases k5 : o.kind = 5
  · exact step_5 k5 hdis hV hR hJ hl h0 h1 hp
  by_cases k6 : o.kind = 6
  · exact step_6 k6 hdis hV hR hJ hl h0 h1 hp
  by_cases k7 : o.kind = 7
  · exact step_7 k7 hdis hV hR hJ hl h0 h1 hp
  refine ACalls.hide fun post hpost => ?_
  refine F16_in (by simp) (by simp) fun hbd => ?_
  repeat' (first
    | refine awp_seqK fun K' hpK => ?_
    | refine awp_block ?_
    | refine awp_condG fun A' B' hpA hpB => ?_
    | refine useK (by with_reducible assumption) ?_
    | refine useP (by with_reducible assumption) ?_
    | refine ED_cons (fun _ => ?_) ?_
    | (refine stable_mk ?_; simp (disch := first | (with_reducible assumption) | (simp; done) | omega | (simp; omega)) [Oc.av, k0, k1, k2, k3, k4, k5, k6, k7]; done)
    | (refine stable_no ?_; simp (disch := first | (with_reducible assumption) | (simp; done) | omega | (simp; omega)) [Oc.av, k0, k1, k2, k3, k4, k5, k6, k7]; done)
    | (with_reducible refine And.intro ?_ ?_)
    | (with_reducible intro hc)
    | (with_reducible refine GDsplit (fun hc => ?_) (fun hc => ?_) <;> try simp [hc])
    | (with_reducible refine GDsplitN (fun hc => ?_) (fun hc => ?_) <;> try simp [hc])
    | (with_reducible refine GDsplitNB (fun hc => ?_) (fun hc => ?_) <;> try simp [hc])
    | (with_reducible refine GDsplitB (fun hc => ?_) (fun hc => ?_) <;> try simp [hc])
    | (with_reducible refine GKsplit (fun hc => ?_) (fun hc => ?_) <;> try simp [hc])
    | (with_reducible refine GKsplitN (fun hc => ?_) (fun hc => ?_) <;> try simp [hc])
    | (with_reducible refine GKsplitNB (fun hc => ?_) (fun hc => ?_) <;> try simp [hc])
    | (with_reducible refine GKsplitB (fun hc => ?_) (fun hc => ?_) <;> try simp [hc])
    | simp (disch := first | (with_reducible assumption) | (simp; done) | omega | (simp; omega)) [Oc.av, k0, k1, k2, k3, k4, k5, k6, k7])
  exact ends_one (by simp <;> rfl) (by simp) (hpost _ _ ⟨hv, hr, L, M, sq, rfl, hdis, rfl, hV, hR, hJ, by omega, h0, by omega⟩)
end Go.Proofs.Ytgideonigiokbaa
