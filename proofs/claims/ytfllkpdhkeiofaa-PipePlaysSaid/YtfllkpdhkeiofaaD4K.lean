import Derived.Test.YtfllkpdhkeiofaaD3K
set_option linter.unusedSimpArgs false
set_option linter.unusedVariables false
namespace Go.Proofs.Ytfllkpdhkeiofaa
open Go Go.Al
set_option maxRecDepth 20000
attribute [local irreducible] awp aops aopsD eop pv ACalls CallK AppK AEnds ti

def PS.room (x : PS) : Bool := decide ((1 : Int) ≤ x.mx - x.L.length)
def PS.twice (x : PS) (i : Int) : PS := if x.room = true ∧ (atL x.L i).isSome then { x with L := x.L ++ [(atL x.L i).getD 0], w := x.w + 1 } else x
theorem fI1 {a : Int} : AV.sl 1 [.int .i64 a] = ofS cI (some [a]) := nrfl rfl

theorem put1_c {rb : Nat} {h : Hp} {x : PS} {v : Int} (hr : RingH rb h x.L x.mx) (hx : x.ok 1) :
    ACalls Try.prog 22 [.ptr rb 0, ofS cI (some [v])] h fun r h' => RingH rb h' (if x.room then x.L ++ [v] else x.L) x.mx ∧ r = .bool x.room := by
  obtain ⟨x1, x2, x3, x4, x5, x6, x7, x8, x9, x10, x11⟩ := hx
  refine (put_c (s := some [v]) hr (by omega) (by simp [LL]) (by omega) (by omega)).mono ?_
  rintro r h' ⟨h1, rfl⟩
  have e : x.room = decide ((((LL (some [v])).length : Nat) : Int) ≤ x.mx - x.L.length) := by unfold PS.room; simp [LL]
  refine ⟨?_, by rw [e]⟩
  unfold PS.room
  simpa [LL] using h1

theorem ptwice_c {pb : Nat} {G : Hp} {x : PS} {i : Int} (hp : PipeH pb G x) (hx : x.ok 1) : ACalls Try.prog 11 [.ptr pb 0, .int .i64 i] G fun r G' => PipeH pb G' (x.twice i) ∧ r = .bool (x.room && (atL x.L i).isSome) := by
  have hat := pat_c (i := i) hp
  have hp0 := hp
  obtain ⟨rb, h, rfl, hpb, hr⟩ := hp0
  have hx0 := hx
  obtain ⟨x1, x2, x3, x4, x5, x6, x7, x8, x9, x10, x11⟩ := hx0
  cases hq : atL x.L i with
  | none =>
    rw [hq] at hat
    have e2 : x.twice i = x := by unfold PS.twice; rw [hq]; simp
    rw [e2]
    unfold PS.o at hat hp ⊢
    refine ACalls.hide fun post hpost => ?_
    refine F11_in (by simp) (by simp) fun hbd => ?_
    repeat' (first
      | refine awp_seqK fun K' hpK => ?_
      | refine awp_block ?_
      | refine awp_condG fun A' B' hpA hpB => ?_
      | refine useK (by with_reducible assumption) ?_
      | refine useP (by with_reducible assumption) ?_
      | refine ED_cons (fun _ => ?_) ?_
      | (refine stable_mk ?_; simp (disch := first | (with_reducible assumption) | (simp; done) | omega | (simp; omega)); done)
      | (refine stable_no ?_; simp (disch := first | (with_reducible assumption) | (simp; done) | omega | (simp; omega)); done)
      | (with_reducible refine And.intro ?_ ?_)
      | (with_reducible intro hc)
      | (with_reducible refine GDsplit (fun hc => ?_) (fun hc => ?_) <;> try simp [hc])
      | (with_reducible refine GDsplitN (fun hc => ?_) (fun hc => ?_) <;> try simp [hc])
      | (with_reducible refine GDsplitNB (fun hc => ?_) (fun hc => ?_) <;> try simp [hc])
      | (with_reducible refine GDsplitB (fun hc => ?_) (fun hc => ?_) <;> try simp [hc])
      | (with_reducible refine GKsplit (fun hc => ?_) (fun hc => ?_) <;> try simp [hc])
      | (with_reducible refine GKsplitN (fun hc => ?_) (fun hc => ?_) <;> try simp [hc])
      | (with_reducible refine GKsplitNB (fun hc => ?_) (fun hc => ?_) <;> try simp [hc])
      | (with_reducible refine GKsplitB (fun hc => ?_) (fun hc => ?_) <;> try simp [hc])
      | (refine CallK.use (hat) ?_; rintro r G' _ _ ⟨rfl, rfl⟩)
      | simp (disch := first | (with_reducible assumption) | (simp; done) | omega | (simp; omega)))
    exact ends_one (by simp <;> rfl) (by simp) (hpost _ _ ⟨hp, by simp⟩)
  | some v =>
    rw [hq] at hat
    have hput := (put1_c (v := v) hr hx).frame1 (o := x.o rb) hpb
    cases hrm : x.room with
    | false =>
      rw [hrm] at hput
      have e2 : x.twice i = x := by unfold PS.twice; rw [hrm]; simp
      rw [e2]
      unfold PS.o at hat hp hput ⊢
      refine ACalls.hide fun post hpost => ?_
      refine F11_in (by simp) (by simp) fun hbd => ?_
      repeat' (first
        | refine awp_seqK fun K' hpK => ?_
        | refine awp_block ?_
        | refine awp_condG fun A' B' hpA hpB => ?_
        | refine useK (by with_reducible assumption) ?_
        | refine useP (by with_reducible assumption) ?_
        | refine ED_cons (fun _ => ?_) ?_
        | (refine stable_mk ?_; simp (disch := first | (with_reducible assumption) | (simp; done) | omega | (simp; omega)) [fI1]; done)
        | (refine stable_no ?_; simp (disch := first | (with_reducible assumption) | (simp; done) | omega | (simp; omega)) [fI1]; done)
        | (with_reducible refine And.intro ?_ ?_)
        | (with_reducible intro hc)
        | (with_reducible refine GDsplit (fun hc => ?_) (fun hc => ?_) <;> try simp [hc])
        | (with_reducible refine GDsplitN (fun hc => ?_) (fun hc => ?_) <;> try simp [hc])
        | (with_reducible refine GDsplitNB (fun hc => ?_) (fun hc => ?_) <;> try simp [hc])
        | (with_reducible refine GDsplitB (fun hc => ?_) (fun hc => ?_) <;> try simp [hc])
        | (with_reducible refine GKsplit (fun hc => ?_) (fun hc => ?_) <;> try simp [hc])
        | (with_reducible refine GKsplitN (fun hc => ?_) (fun hc => ?_) <;> try simp [hc])
        | (with_reducible refine GKsplitNB (fun hc => ?_) (fun hc => ?_) <;> try simp [hc])
        | (with_reducible refine GKsplitB (fun hc => ?_) (fun hc => ?_) <;> try simp [hc])
        | (refine CallK.use (hat) ?_; rintro r G' _ _ ⟨rfl, rfl⟩)
        | (refine CallK.use (hput) ?_; rintro r G' _ _ ⟨h', hpb', rfl, hr', rfl⟩)
        | simp (disch := first | (with_reducible assumption) | (simp; done) | omega | (simp; omega)) [fI1])
      exact ends_one (by simp <;> rfl) (by simp) (hpost _ _ ⟨⟨rb, h', rfl, hpb', by simpa using hr'⟩, by simp⟩)
    | true =>
      rw [hrm] at hput
      have e2 : x.twice i = { x with L := x.L ++ [v], w := x.w + 1 } := by unfold PS.twice; rw [hq, hrm]; simp
      rw [e2]
      unfold PS.o at hat hp hput ⊢
      refine ACalls.hide fun post hpost => ?_
      refine F11_in (by simp) (by simp) fun hbd => ?_
      repeat' (first
        | refine awp_seqK fun K' hpK => ?_
        | refine awp_block ?_
        | refine awp_condG fun A' B' hpA hpB => ?_
        | refine useK (by with_reducible assumption) ?_
        | refine useP (by with_reducible assumption) ?_
        | refine ED_cons (fun _ => ?_) ?_
        | (refine stable_mk ?_; simp (disch := first | (with_reducible assumption) | (simp; done) | omega | (simp; omega)) [fI1, setH_setH]; done)
        | (refine stable_no ?_; simp (disch := first | (with_reducible assumption) | (simp; done) | omega | (simp; omega)) [fI1, setH_setH]; done)
        | (with_reducible refine And.intro ?_ ?_)
        | (with_reducible intro hc)
        | (with_reducible refine GDsplit (fun hc => ?_) (fun hc => ?_) <;> try simp [hc])
        | (with_reducible refine GDsplitN (fun hc => ?_) (fun hc => ?_) <;> try simp [hc])
        | (with_reducible refine GDsplitNB (fun hc => ?_) (fun hc => ?_) <;> try simp [hc])
        | (with_reducible refine GDsplitB (fun hc => ?_) (fun hc => ?_) <;> try simp [hc])
        | (with_reducible refine GKsplit (fun hc => ?_) (fun hc => ?_) <;> try simp [hc])
        | (with_reducible refine GKsplitN (fun hc => ?_) (fun hc => ?_) <;> try simp [hc])
        | (with_reducible refine GKsplitNB (fun hc => ?_) (fun hc => ?_) <;> try simp [hc])
        | (with_reducible refine GKsplitB (fun hc => ?_) (fun hc => ?_) <;> try simp [hc])
        | (refine CallK.use (hat) ?_; rintro r G' _ _ ⟨rfl, rfl⟩)
        | (refine CallK.use (hput) ?_; rintro r G' _ _ ⟨h', hpb', rfl, hr', rfl⟩)
        | simp (disch := first | (with_reducible assumption) | (simp; done) | omega | (simp; omega)) [fI1, setH_setH])
      exact ends_one (by simp <;> rfl) (by simp) (hpost _ _ ⟨⟨rb, h', rfl, hpb', by simpa using hr'⟩, by simp⟩)

def PS.send1 (x : PS) (v : Int) : PS := if x.room then { x with L := x.L ++ [v], s := x.s + 1 } else { x with s := x.s + 1, lo := x.lo + 1 }
def PS.send (x : PS) : List Int → PS
  | [] => x
  | v :: l => (x.send1 v).send l
def PS.sent (x : PS) : List Int → Nat
  | [] => 0
  | v :: l => (if x.room then 1 else 0) + (x.send1 v).sent l
theorem PS.send_app (x : PS) (l m : List Int) : x.send (l ++ m) = (x.send l).send m := by
  induction l generalizing x with
  | nil => rfl
  | cons v l ih => exact ih _
theorem PS.sent_app (x : PS) (l m : List Int) : x.sent (l ++ m) = x.sent l + (x.send l).sent m := by
  induction l generalizing x with
  | nil => simp [PS.sent, PS.send]
  | cons v l ih => simp only [List.cons_append, PS.sent, PS.send, ih]; omega
theorem PS.send1_ok {x : PS} {v : Int} {n : Nat} (h : x.ok (n + 1)) : (x.send1 v).ok n := by
  obtain ⟨x1, x2, x3, x4, x5, x6, x7, x8, x9, x10, x11⟩ := h
  unfold PS.send1
  split <;> refine ⟨?_, ?_, ?_, ?_, ?_, ?_, ?_, ?_, ?_, ?_, ?_⟩ <;> simp <;> omega
theorem PS.send_ok {x : PS} {l : List Int} {n : Nat} (h : x.ok (n + l.length)) : (x.send l).ok n := by
  induction l generalizing x with
  | nil => exact h
  | cons v l ih => exact ih (PS.send1_ok (by simpa [Nat.add_assoc] using h))
theorem PS.ok_le {x : PS} {m n : Nat} (h : x.ok n) (hm : m ≤ n) : x.ok m := by
  obtain ⟨x1, x2, x3, x4, x5, x6, x7, x8, x9, x10, x11⟩ := h
  exact ⟨by omega, by omega, by omega, by omega, by omega, by omega, by omega, by omega, by omega, by omega, by omega⟩
theorem PS.sent_le (x : PS) (l : List Int) : x.sent l ≤ l.length := by
  induction l generalizing x with
  | nil => simp [PS.sent]
  | cons v l ih => simp only [PS.sent, List.length_cons]; have := ih (x.send1 v); split <;> omega

set_option maxHeartbeats 1000000 in
theorem psend_c {pb : Nat} {G : Hp} {x : PS} {s : Option (List Int)} (hp : PipeH pb G x) (hx : x.ok (LL s).length) (hs : (LL s).length ≤ 1000000) : ACalls Try.prog 8 [.ptr pb 0, ofS cI s] G fun r G' => PipeH pb G' (x.send (LL s)) ∧ r = .int .i64 (x.sent (LL s)) := by
  refine ACalls.hide fun post hpost => ?_
  refine F8_in (by simp) (by simp) fun hbd => ?_
  repeat' (first
    | refine awp_seqK fun K' hpK => ?_
    | refine awp_block ?_
    | refine awp_condG fun A' B' hpA hpB => ?_
    | refine useK (by with_reducible assumption) ?_
    | refine useP (by with_reducible assumption) ?_
    | refine ED_cons (fun _ => ?_) ?_
    | (refine stable_mk ?_; simp (disch := first | (with_reducible assumption) | (simp; done) | omega | (simp; omega)); done)
    | (refine stable_no ?_; simp (disch := first | (with_reducible assumption) | (simp; done) | omega | (simp; omega)); done)
    | (with_reducible refine And.intro ?_ ?_)
    | (with_reducible intro hc)
    | (with_reducible refine GDsplit (fun hc => ?_) (fun hc => ?_) <;> try simp [hc])
    | (with_reducible refine GDsplitN (fun hc => ?_) (fun hc => ?_) <;> try simp [hc])
    | (with_reducible refine GDsplitNB (fun hc => ?_) (fun hc => ?_) <;> try simp [hc])
    | (with_reducible refine GDsplitB (fun hc => ?_) (fun hc => ?_) <;> try simp [hc])
    | (with_reducible refine GKsplit (fun hc => ?_) (fun hc => ?_) <;> try simp [hc])
    | (with_reducible refine GKsplitN (fun hc => ?_) (fun hc => ?_) <;> try simp [hc])
    | (with_reducible refine GKsplitNB (fun hc => ?_) (fun hc => ?_) <;> try simp [hc])
    | (with_reducible refine GKsplitB (fun hc => ?_) (fun hc => ?_) <;> try simp [hc])
    | simp (disch := first | (with_reducible assumption) | (simp; done) | omega | (simp; omega)))
  refine awp_loop' (fun n T G' => ∃ (k : Nat), k + n = (LL s).length ∧ PipeH pb G' (x.send ((LL s).take k)) ∧ T = ofL [(0, .ptr pb 0), (5, .int .i64 (x.sent ((LL s).take k))), (10, ofS cI s), (11, .int .i64 (LL s).length), (12, .int .i64 k)]) (LL s).length ⟨0, by omega, hp, rfl⟩ ?_
  rintro n T G' ⟨k, hk, hpk, rfl⟩ N hN
  have hsl := PS.sent_le x ((LL s).take k)
  rw [List.length_take] at hsl
  by_cases hkl : k < (LL s).length
  · have htk := take_succ_get (LL s) k hkl
    have hxk : (x.send ((LL s).take k)).ok 1 := PS.ok_le (n := (LL s).length - k) (PS.send_ok (by rw [List.length_take, Nat.min_eq_left (by omega)]; exact PS.ok_le hx (by omega))) (by omega)
    have e1 : x.send ((LL s).take (k + 1)) = (x.send ((LL s).take k)).send1 (LL s)[k] := by rw [htk, PS.send_app]; rfl
    have e2 : x.sent ((LL s).take (k + 1)) = x.sent ((LL s).take k) + (if (x.send ((LL s).take k)).room then 1 else 0) := by rw [htk, PS.sent_app]; simp [PS.sent]
    generalize x.send ((LL s).take k) = y at *
    obtain ⟨rb, h, rfl, hpb, hr⟩ := hpk
    have hput := (put1_c (v := (LL s)[k]) hr hxk).frame1 (o := ({ y with s := y.s + 1 } : PS).o rb) hpb
    obtain ⟨x1, x2, x3, x4, x5, x6, x7, x8, x9, x10, x11⟩ := hxk
    cases hrm : y.room with
    | false =>
      rw [hrm] at hput e2
      have e3 : y.send1 (LL s)[k] = { y with s := y.s + 1, lo := y.lo + 1 } := by unfold PS.send1; rw [hrm]; simp
      rw [e3] at e1
      unfold PS.o at hput ⊢
      repeat' (first
        | refine awp_seqK fun K' hpK => ?_
        | refine awp_block ?_
        | refine awp_condG fun A' B' hpA hpB => ?_
        | refine useK (by with_reducible assumption) ?_
        | refine useP (by with_reducible assumption) ?_
        | refine ED_cons (fun _ => ?_) ?_
        | (refine stable_mk ?_; simp (disch := first | (with_reducible assumption) | (simp; done) | omega | (simp; omega)) [fI1, setH_setH, hkl, ofS_idx (f := cI), cI]; done)
        | (refine stable_no ?_; simp (disch := first | (with_reducible assumption) | (simp; done) | omega | (simp; omega)) [fI1, setH_setH, hkl, ofS_idx (f := cI), cI]; done)
        | (with_reducible refine And.intro ?_ ?_)
        | (with_reducible intro hc)
        | (with_reducible refine GDsplit (fun hc => ?_) (fun hc => ?_) <;> try simp [hc])
        | (with_reducible refine GDsplitN (fun hc => ?_) (fun hc => ?_) <;> try simp [hc])
        | (with_reducible refine GDsplitNB (fun hc => ?_) (fun hc => ?_) <;> try simp [hc])
        | (with_reducible refine GDsplitB (fun hc => ?_) (fun hc => ?_) <;> try simp [hc])
        | (with_reducible refine GKsplit (fun hc => ?_) (fun hc => ?_) <;> try simp [hc])
        | (with_reducible refine GKsplitN (fun hc => ?_) (fun hc => ?_) <;> try simp [hc])
        | (with_reducible refine GKsplitNB (fun hc => ?_) (fun hc => ?_) <;> try simp [hc])
        | (with_reducible refine GKsplitB (fun hc => ?_) (fun hc => ?_) <;> try simp [hc])
        | (refine CallK.use (hput) ?_; rintro r G' _ _ ⟨h', hpb', rfl, hr', rfl⟩)
        | simp (disch := first | (with_reducible assumption) | (simp; done) | omega | (simp; omega)) [fI1, setH_setH, hkl, ofS_idx (f := cI), cI])
      exact hN (n - 1) _ _ (by omega) ⟨k + 1, by omega, by rw [e1]; exact ⟨rb, h', rfl, hpb', by simpa using hr'⟩, by rw [e2]; simp⟩
    | true =>
      rw [hrm] at hput e2
      have e3 : y.send1 (LL s)[k] = { y with L := y.L ++ [(LL s)[k]], s := y.s + 1 } := by unfold PS.send1; rw [hrm]; simp
      rw [e3] at e1
      unfold PS.o at hput ⊢
      repeat' (first
        | refine awp_seqK fun K' hpK => ?_
        | refine awp_block ?_
        | refine awp_condG fun A' B' hpA hpB => ?_
        | refine useK (by with_reducible assumption) ?_
        | refine useP (by with_reducible assumption) ?_
        | refine ED_cons (fun _ => ?_) ?_
        | (refine stable_mk ?_; simp (disch := first | (with_reducible assumption) | (simp; done) | omega | (simp; omega)) [fI1, setH_setH, hkl, ofS_idx (f := cI), cI]; done)
        | (refine stable_no ?_; simp (disch := first | (with_reducible assumption) | (simp; done) | omega | (simp; omega)) [fI1, setH_setH, hkl, ofS_idx (f := cI), cI]; done)
        | (with_reducible refine And.intro ?_ ?_)
        | (with_reducible intro hc)
        | (with_reducible refine GDsplit (fun hc => ?_) (fun hc => ?_) <;> try simp [hc])
        | (with_reducible refine GDsplitN (fun hc => ?_) (fun hc => ?_) <;> try simp [hc])
        | (with_reducible refine GDsplitNB (fun hc => ?_) (fun hc => ?_) <;> try simp [hc])
        | (with_reducible refine GDsplitB (fun hc => ?_) (fun hc => ?_) <;> try simp [hc])
        | (with_reducible refine GKsplit (fun hc => ?_) (fun hc => ?_) <;> try simp [hc])
        | (with_reducible refine GKsplitN (fun hc => ?_) (fun hc => ?_) <;> try simp [hc])
        | (with_reducible refine GKsplitNB (fun hc => ?_) (fun hc => ?_) <;> try simp [hc])
        | (with_reducible refine GKsplitB (fun hc => ?_) (fun hc => ?_) <;> try simp [hc])
        | (refine CallK.use (hput) ?_; rintro r G' _ _ ⟨h', hpb', rfl, hr', rfl⟩)
        | simp (disch := first | (with_reducible assumption) | (simp; done) | omega | (simp; omega)) [fI1, setH_setH, hkl, ofS_idx (f := cI), cI])
      exact hN (n - 1) _ _ (by omega) ⟨k + 1, by omega, by rw [e1]; exact ⟨rb, h', rfl, hpb', by simpa using hr'⟩, by rw [e2]; simp⟩
  · have hke : k = (LL s).length := by omega
    rw [hke, List.take_length] at hpk
    rw [hke, List.take_length]
    repeat' (first
      | refine awp_seqK fun K' hpK => ?_
      | refine awp_block ?_
      | refine awp_condG fun A' B' hpA hpB => ?_
      | refine useK (by with_reducible assumption) ?_
      | refine useP (by with_reducible assumption) ?_
      | refine ED_cons (fun _ => ?_) ?_
      | (refine stable_mk ?_; simp (disch := first | (with_reducible assumption) | (simp; done) | omega | (simp; omega)); done)
      | (refine stable_no ?_; simp (disch := first | (with_reducible assumption) | (simp; done) | omega | (simp; omega)); done)
      | (with_reducible refine And.intro ?_ ?_)
      | (with_reducible intro hc)
      | (with_reducible refine GDsplit (fun hc => ?_) (fun hc => ?_) <;> try simp [hc])
      | (with_reducible refine GDsplitN (fun hc => ?_) (fun hc => ?_) <;> try simp [hc])
      | (with_reducible refine GDsplitNB (fun hc => ?_) (fun hc => ?_) <;> try simp [hc])
      | (with_reducible refine GDsplitB (fun hc => ?_) (fun hc => ?_) <;> try simp [hc])
      | (with_reducible refine GKsplit (fun hc => ?_) (fun hc => ?_) <;> try simp [hc])
      | (with_reducible refine GKsplitN (fun hc => ?_) (fun hc => ?_) <;> try simp [hc])
      | (with_reducible refine GKsplitNB (fun hc => ?_) (fun hc => ?_) <;> try simp [hc])
      | (with_reducible refine GKsplitB (fun hc => ?_) (fun hc => ?_) <;> try simp [hc])
      | simp (disch := first | (with_reducible assumption) | (simp; done) | omega | (simp; omega)))
    exact ends_one (by simp <;> rfl) (by simp) (hpost _ _ ⟨hpk, rfl⟩)

def PS.lose1 (x : PS) (i : Int) : PS := { x with L := cutAt x.L i }
def PS.lose0 (x : PS) : List Int → PS
  | [] => x
  | v :: l => (x.lose1 v).lose0 l
def PS.lostN (x : PS) : List Int → Nat
  | [] => 0
  | v :: l => (if (atL x.L v).isSome then 1 else 0) + (x.lose1 v).lostN l
def PS.lose (x : PS) (l : List Int) : PS := { x.lose0 l with lo := x.lo + x.lostN l }
theorem PS.lose_app (x : PS) (l m : List Int) : x.lose0 (l ++ m) = (x.lose0 l).lose0 m := by
  induction l generalizing x with
  | nil => rfl
  | cons v l ih => exact ih _
theorem PS.lostN_app (x : PS) (l m : List Int) : x.lostN (l ++ m) = x.lostN l + (x.lose0 l).lostN m := by
  induction l generalizing x with
  | nil => simp [PS.lostN, PS.lose0]
  | cons v l ih => simp only [List.cons_append, PS.lostN, PS.lose0, ih]; omega
theorem PS.lostN_le (x : PS) (l : List Int) : x.lostN l ≤ l.length := by
  induction l generalizing x with
  | nil => simp [PS.lostN]
  | cons v l ih => simp only [PS.lostN, List.length_cons]; have := ih (x.lose1 v); split <;> omega
theorem cutAt_len (l : List Int) (i : Int) : (cutAt l i).length ≤ l.length := by
  unfold cutAt; split
  · simp only [List.length_append, List.length_take, List.length_drop]; omega
  · omega
theorem PS.lose0_eq (x : PS) (l : List Int) : ∃ L, x.lose0 l = { x with L := L } ∧ L.length ≤ x.L.length := by
  induction l generalizing x with
  | nil => exact ⟨x.L, rfl, Nat.le_refl _⟩
  | cons v l ih =>
    obtain ⟨L, h1, h2⟩ := ih (x.lose1 v)
    exact ⟨L, h1, Nat.le_trans h2 (cutAt_len _ _)⟩

set_option maxHeartbeats 1000000 in
theorem plose_c {pb : Nat} {G : Hp} {x : PS} {s : Option (List Int)} (hp : PipeH pb G x) (hx : x.ok (LL s).length) (hs : (LL s).length ≤ 1000000) : ACalls Try.prog 12 [.ptr pb 0, ofS cI s] G fun r G' => PipeH pb G' (x.lose (LL s)) ∧ r = .int .i64 (x.lostN (LL s)) := by
  obtain ⟨x1, x2, x3, x4, x5, x6, x7, x8, x9, x10, x11⟩ := hx
  refine ACalls.hide fun post hpost => ?_
  refine F12_in (by simp) (by simp) fun hbd => ?_
  repeat' (first
    | refine awp_seqK fun K' hpK => ?_
    | refine awp_block ?_
    | refine awp_condG fun A' B' hpA hpB => ?_
    | refine useK (by with_reducible assumption) ?_
    | refine useP (by with_reducible assumption) ?_
    | refine ED_cons (fun _ => ?_) ?_
    | (refine stable_mk ?_; simp (disch := first | (with_reducible assumption) | (simp; done) | omega | (simp; omega)); done)
    | (refine stable_no ?_; simp (disch := first | (with_reducible assumption) | (simp; done) | omega | (simp; omega)); done)
    | (with_reducible refine And.intro ?_ ?_)
    | (with_reducible intro hc)
    | (with_reducible refine GDsplit (fun hc => ?_) (fun hc => ?_) <;> try simp [hc])
    | (with_reducible refine GDsplitN (fun hc => ?_) (fun hc => ?_) <;> try simp [hc])
    | (with_reducible refine GDsplitNB (fun hc => ?_) (fun hc => ?_) <;> try simp [hc])
    | (with_reducible refine GDsplitB (fun hc => ?_) (fun hc => ?_) <;> try simp [hc])
    | (with_reducible refine GKsplit (fun hc => ?_) (fun hc => ?_) <;> try simp [hc])
    | (with_reducible refine GKsplitN (fun hc => ?_) (fun hc => ?_) <;> try simp [hc])
    | (with_reducible refine GKsplitNB (fun hc => ?_) (fun hc => ?_) <;> try simp [hc])
    | (with_reducible refine GKsplitB (fun hc => ?_) (fun hc => ?_) <;> try simp [hc])
    | simp (disch := first | (with_reducible assumption) | (simp; done) | omega | (simp; omega)))
  refine awp_loop' (fun n T G' => ∃ (k : Nat), k + n = (LL s).length ∧ PipeH pb G' (x.lose0 ((LL s).take k)) ∧ T = ofL [(0, .ptr pb 0), (5, .int .i64 (x.lostN ((LL s).take k))), (12, ofS cI s), (13, .int .i64 (LL s).length), (14, .int .i64 k)]) (LL s).length ⟨0, by omega, hp, rfl⟩ ?_
  rintro n T G' ⟨k, hk, hpk, rfl⟩ N hN
  have hsl := PS.lostN_le x ((LL s).take k)
  rw [List.length_take] at hsl
  by_cases hkl : k < (LL s).length
  · have htk := take_succ_get (LL s) k hkl
    obtain ⟨L, hL1, hL2⟩ := PS.lose0_eq x ((LL s).take k)
    have e1 : x.lose0 ((LL s).take (k + 1)) = (x.lose0 ((LL s).take k)).lose1 (LL s)[k] := by rw [htk, PS.lose_app]; rfl
    have e2 : x.lostN ((LL s).take (k + 1)) = x.lostN ((LL s).take k) + (if (atL (x.lose0 ((LL s).take k)).L (LL s)[k]).isSome then 1 else 0) := by rw [htk, PS.lostN_app]; simp [PS.lostN]
    have hyl : (x.lose0 ((LL s).take k)).L.length ≤ 1000000 := by rw [hL1]; exact Nat.le_trans hL2 (by omega)
    generalize x.lose0 ((LL s).take k) = y at *
    obtain ⟨rb, h, rfl, hpb, hr⟩ := hpk
    have hcut := (rcut_c (i := (LL s)[k]) hr hyl).frame1 (o := y.o rb) hpb
    cases hq : (atL y.L (LL s)[k]).isSome with
    | false =>
      rw [hq] at hcut e2
      unfold PS.o at hcut ⊢
      repeat' (first
        | refine awp_seqK fun K' hpK => ?_
        | refine awp_block ?_
        | refine awp_condG fun A' B' hpA hpB => ?_
        | refine useK (by with_reducible assumption) ?_
        | refine useP (by with_reducible assumption) ?_
        | refine ED_cons (fun _ => ?_) ?_
        | (refine stable_mk ?_; simp (disch := first | (with_reducible assumption) | (simp; done) | omega | (simp; omega)) [fI1, setH_setH, hkl, ofS_idx (f := cI), cI]; done)
        | (refine stable_no ?_; simp (disch := first | (with_reducible assumption) | (simp; done) | omega | (simp; omega)) [fI1, setH_setH, hkl, ofS_idx (f := cI), cI]; done)
        | (with_reducible refine And.intro ?_ ?_)
        | (with_reducible intro hc)
        | (with_reducible refine GDsplit (fun hc => ?_) (fun hc => ?_) <;> try simp [hc])
        | (with_reducible refine GDsplitN (fun hc => ?_) (fun hc => ?_) <;> try simp [hc])
        | (with_reducible refine GDsplitNB (fun hc => ?_) (fun hc => ?_) <;> try simp [hc])
        | (with_reducible refine GDsplitB (fun hc => ?_) (fun hc => ?_) <;> try simp [hc])
        | (with_reducible refine GKsplit (fun hc => ?_) (fun hc => ?_) <;> try simp [hc])
        | (with_reducible refine GKsplitN (fun hc => ?_) (fun hc => ?_) <;> try simp [hc])
        | (with_reducible refine GKsplitNB (fun hc => ?_) (fun hc => ?_) <;> try simp [hc])
        | (with_reducible refine GKsplitB (fun hc => ?_) (fun hc => ?_) <;> try simp [hc])
        | (refine CallK.use (hcut) ?_; rintro r G' _ _ ⟨h', hpb', rfl, hr', rfl⟩)
        | simp (disch := first | (with_reducible assumption) | (simp; done) | omega | (simp; omega)) [fI1, setH_setH, hkl, ofS_idx (f := cI), cI])
      exact hN (n - 1) _ _ (by omega) ⟨k + 1, by omega, by rw [e1]; exact ⟨rb, h', rfl, hpb', hr'⟩, by rw [e2]; simp⟩
    | true =>
      rw [hq] at hcut e2
      unfold PS.o at hcut ⊢
      repeat' (first
        | refine awp_seqK fun K' hpK => ?_
        | refine awp_block ?_
        | refine awp_condG fun A' B' hpA hpB => ?_
        | refine useK (by with_reducible assumption) ?_
        | refine useP (by with_reducible assumption) ?_
        | refine ED_cons (fun _ => ?_) ?_
        | (refine stable_mk ?_; simp (disch := first | (with_reducible assumption) | (simp; done) | omega | (simp; omega)) [fI1, setH_setH, hkl, ofS_idx (f := cI), cI]; done)
        | (refine stable_no ?_; simp (disch := first | (with_reducible assumption) | (simp; done) | omega | (simp; omega)) [fI1, setH_setH, hkl, ofS_idx (f := cI), cI]; done)
        | (with_reducible refine And.intro ?_ ?_)
        | (with_reducible intro hc)
        | (with_reducible refine GDsplit (fun hc => ?_) (fun hc => ?_) <;> try simp [hc])
        | (with_reducible refine GDsplitN (fun hc => ?_) (fun hc => ?_) <;> try simp [hc])
        | (with_reducible refine GDsplitNB (fun hc => ?_) (fun hc => ?_) <;> try simp [hc])
        | (with_reducible refine GDsplitB (fun hc => ?_) (fun hc => ?_) <;> try simp [hc])
        | (with_reducible refine GKsplit (fun hc => ?_) (fun hc => ?_) <;> try simp [hc])
        | (with_reducible refine GKsplitN (fun hc => ?_) (fun hc => ?_) <;> try simp [hc])
        | (with_reducible refine GKsplitNB (fun hc => ?_) (fun hc => ?_) <;> try simp [hc])
        | (with_reducible refine GKsplitB (fun hc => ?_) (fun hc => ?_) <;> try simp [hc])
        | (refine CallK.use (hcut) ?_; rintro r G' _ _ ⟨h', hpb', rfl, hr', rfl⟩)
        | simp (disch := first | (with_reducible assumption) | (simp; done) | omega | (simp; omega)) [fI1, setH_setH, hkl, ofS_idx (f := cI), cI])
      exact hN (n - 1) _ _ (by omega) ⟨k + 1, by omega, by rw [e1]; exact ⟨rb, h', rfl, hpb', hr'⟩, by rw [e2]; simp⟩
  · have hke : k = (LL s).length := by omega
    rw [hke, List.take_length] at hpk hsl
    rw [hke, List.take_length]
    obtain ⟨L, hL1, hL2⟩ := PS.lose0_eq x (LL s)
    have e4 : x.lose (LL s) = { x with L := L, lo := x.lo + x.lostN (LL s) } := by unfold PS.lose; rw [hL1]
    rw [e4] at hpost
    rw [hL1] at hpk
    obtain ⟨rb, h, rfl, hpb, hr⟩ := hpk
    repeat' (first
      | refine awp_seqK fun K' hpK => ?_
      | refine awp_block ?_
      | refine awp_condG fun A' B' hpA hpB => ?_
      | refine useK (by with_reducible assumption) ?_
      | refine useP (by with_reducible assumption) ?_
      | refine ED_cons (fun _ => ?_) ?_
      | (refine stable_mk ?_; simp (disch := first | (with_reducible assumption) | (simp; done) | omega | (simp; omega)) [PS.o, setH_setH]; done)
      | (refine stable_no ?_; simp (disch := first | (with_reducible assumption) | (simp; done) | omega | (simp; omega)) [PS.o, setH_setH]; done)
      | (with_reducible refine And.intro ?_ ?_)
      | (with_reducible intro hc)
      | (with_reducible refine GDsplit (fun hc => ?_) (fun hc => ?_) <;> try simp [hc])
      | (with_reducible refine GDsplitN (fun hc => ?_) (fun hc => ?_) <;> try simp [hc])
      | (with_reducible refine GDsplitNB (fun hc => ?_) (fun hc => ?_) <;> try simp [hc])
      | (with_reducible refine GDsplitB (fun hc => ?_) (fun hc => ?_) <;> try simp [hc])
      | (with_reducible refine GKsplit (fun hc => ?_) (fun hc => ?_) <;> try simp [hc])
      | (with_reducible refine GKsplitN (fun hc => ?_) (fun hc => ?_) <;> try simp [hc])
      | (with_reducible refine GKsplitNB (fun hc => ?_) (fun hc => ?_) <;> try simp [hc])
      | (with_reducible refine GKsplitB (fun hc => ?_) (fun hc => ?_) <;> try simp [hc])
      | simp (disch := first | (with_reducible assumption) | (simp; done) | omega | (simp; omega)) [PS.o, setH_setH])
    exact ends_one (by simp <;> rfl) (by simp) (hpost _ _ ⟨⟨rb, h, rfl, hpb, hr⟩, rfl⟩)
end Go.Proofs.Ytfllkpdhkeiofaa
