import Derived.Test.YtmomphnkngbgjaaD8K
set_option linter.unusedSimpArgs false
set_option linter.unusedVariables false
namespace Go.Proofs.Ytmomphnkngbgjaa
open Go Go.Al
set_option maxRecDepth 20000
attribute [local irreducible] awp aops aopsD eop pv ACalls CallK AppK AEnds ti

theorem putE {pb : Nat} {G : Hp} {L M : List (Int × Bd)} {b : Bd} (hP : TH pb G L) (hl : L.length ≤ 63) (hm : mayB b = true) (h : putB L b = M) (h0 : (L.filter fun x => clashB b x.2) = []) : ACalls Try.prog 16 [.ptr pb 0, b.av] G fun r G' => TH pb G' M ∧ ∃ s, r = .tup [ofS cVB s, .int .i64 0] ∧ LL s = [] := by
  have := put_c (b := b) hP hl
  rw [h, hm, h0] at this
  simpa using this
theorem loginE {pb : Nat} {G : Hp} {L M : List (Int × Bd)} {m : Int} {s : ByteArray} {c : Bool} (hP : TH pb G L) (hl : L.length ≤ 64) (h : loginB L m s = (M, c)) : ACalls Try.prog 21 [.ptr pb 0, .int .u64 m, .str s] G fun r G' => TH pb G' M ∧ r = .bool c := by
  have := login_c (m := m) (s := s) hP hl
  rwa [h] at this
theorem checkE {pb : Nat} {G : Hp} {L : List (Int × Bd)} {sw port mac ip e : Int} {x : Bd} (hP : TH pb G L) (hl : L.length ≤ 64) (h : checkB L sw port mac ip = (x, e)) : ACalls Try.prog 11 [.ptr pb 0, .agg [.int .i64 sw, .int .i64 port], .int .u64 mac, .int .u32 ip] G fun r G' => G' = G ∧ r = .tup [x.av, .int .i64 e] := by
  have := check_c (sw := sw) (port := port) (mac := mac) (ip := ip) hP hl
  rwa [h] at this
def bA : Bd := ⟨7, 11, 1, 2, ⟨#[104, 49]⟩, ByteArray.empty, 0⟩
def bB : Bd := ⟨7, 11, 1, 2, ⟨#[104, 49]⟩, ⟨#[97, 110, 110]⟩, 0⟩
theorem bA_may : mayB bA = true := by decide
set_option maxHeartbeats 1000000 in
theorem awake_0 : ACalls Try.prog 13 [] emptyH fun r G' => G' = emptyH ∧ r = .bool true := by
  have h1 : putB [] bA = [(7, bA)] := by unfold putB; rw [bA_may]; rfl
  have h2 : loginB [(7, bA)] 7 ⟨#[97, 110, 110]⟩ = ([(7, bB)], true) := by
    unfold loginB
    rw [if_pos (by decide)]
    decide
  have h3 : checkB [(7, bB)] 1 2 7 11 = (bB, 0) := by decide
  have h4 : checkB [(7, bB)] 1 3 7 11 = (b0, 2) := by decide
  have h5 : checkB [(7, bB)] 1 2 8 11 = (b0, 40) := by decide
  have pe := fun pb G (hP : TH pb G []) => putE (b := bA) hP (by simp) bA_may h1 rfl
  have le := fun pb G (hP : TH pb G [(7, bA)]) => loginE hP (by simp) h2
  have c1 := fun pb G (hP : TH pb G [(7, bB)]) => checkE hP (by simp) h3
  have c2 := fun pb G (hP : TH pb G [(7, bB)]) => checkE hP (by simp) h4
  have c3 := fun pb G (hP : TH pb G [(7, bB)]) => checkE hP (by simp) h5
  simp only [bA, Bd.av] at pe
  simp only [bB, b0, Bd.av] at c1 c2 c3
  have h2L : 2 ≤ LIM := by simp [LIM]
  have h3L : 3 ≤ LIM := by simp [LIM]
  refine ACalls.hide fun post hpost => ?_
  refine F13_in (by simp) (by simp) fun hbd => ?_
  repeat' (first
    | refine awp_seqK fun K' hpK => ?_
    | refine awp_block ?_
    | refine awp_condG fun A' B' hpA hpB => ?_
    | refine useK (by with_reducible assumption) ?_
    | refine useP (by with_reducible assumption) ?_
    | refine ED_cons (fun _ => ?_) ?_
    | (refine stable_mk ?_; simp (disch := first | (with_reducible assumption) | (simp; done) | omega | (simp; omega)) [h2L, h3L]; done)
    | (refine stable_no ?_; simp (disch := first | (with_reducible assumption) | (simp; done) | omega | (simp; omega)) [h2L, h3L]; done)
    | (with_reducible refine And.intro ?_ ?_)
    | (with_reducible intro hc)
    | (with_reducible refine GDsplit (fun hc => ?_) (fun hc => ?_) <;> try simp [hc])
    | (with_reducible refine GDsplitN (fun hc => ?_) (fun hc => ?_) <;> try simp [hc])
    | (with_reducible refine GDsplitNB (fun hc => ?_) (fun hc => ?_) <;> try simp [hc])
    | (with_reducible refine GDsplitB (fun hc => ?_) (fun hc => ?_) <;> try simp [hc])
    | (with_reducible refine GKsplit (fun hc => ?_) (fun hc => ?_) <;> try simp [hc])
    | (with_reducible refine GKsplitN (fun hc => ?_) (fun hc => ?_) <;> try simp [hc])
    | (with_reducible refine GKsplitNB (fun hc => ?_) (fun hc => ?_) <;> try simp [hc])
    | (with_reducible refine GKsplitB (fun hc => ?_) (fun hc => ?_) <;> try simp [hc])
    | (refine CallK.use (new_c) ?_; rintro r G' _ _ ⟨pb, rfl, hP⟩)
    | (refine CallK.use (at_c (G := _)) ?_; rintro r G' _ _ ⟨rfl, rfl⟩)
    | (refine CallK.use (pe _ _ hP) ?_; rintro r G' _ _ ⟨hP1, s, rfl, hs⟩)
    | simp (disch := first | (with_reducible assumption) | (simp; done) | omega | (simp; omega)) [h2L, h3L])
  have hsl : (LL s).length = 0 := by rw [hs]; rfl
  repeat' (first
    | refine awp_seqK fun K' hpK => ?_
    | refine awp_block ?_
    | refine awp_condG fun A' B' hpA hpB => ?_
    | refine useK (by with_reducible assumption) ?_
    | refine useP (by with_reducible assumption) ?_
    | refine ED_cons (fun _ => ?_) ?_
    | (refine stable_mk ?_; simp (disch := first | (with_reducible assumption) | (simp; done) | omega | (simp; omega)) [hsl, h2L, h3L]; done)
    | (refine stable_no ?_; simp (disch := first | (with_reducible assumption) | (simp; done) | omega | (simp; omega)) [hsl, h2L, h3L]; done)
    | (with_reducible refine And.intro ?_ ?_)
    | (with_reducible intro hc)
    | (with_reducible refine GDsplit (fun hc => ?_) (fun hc => ?_) <;> try simp [hc])
    | (with_reducible refine GDsplitN (fun hc => ?_) (fun hc => ?_) <;> try simp [hc])
    | (with_reducible refine GDsplitNB (fun hc => ?_) (fun hc => ?_) <;> try simp [hc])
    | (with_reducible refine GDsplitB (fun hc => ?_) (fun hc => ?_) <;> try simp [hc])
    | (with_reducible refine GKsplit (fun hc => ?_) (fun hc => ?_) <;> try simp [hc])
    | (with_reducible refine GKsplitN (fun hc => ?_) (fun hc => ?_) <;> try simp [hc])
    | (with_reducible refine GKsplitNB (fun hc => ?_) (fun hc => ?_) <;> try simp [hc])
    | (with_reducible refine GKsplitB (fun hc => ?_) (fun hc => ?_) <;> try simp [hc])
    | (refine CallK.use (le _ _ hP1) ?_; rintro r G' _ _ ⟨hP2, rfl⟩)
    | (refine CallK.use (at_c (G := _)) ?_; rintro r G' _ _ ⟨rfl, rfl⟩)
    | (refine CallK.use (c1 _ _ hP2) ?_; rintro r G' _ _ ⟨rfl, rfl⟩)
    | (refine CallK.use (c2 _ _ hP2) ?_; rintro r G' _ _ ⟨rfl, rfl⟩)
    | (refine CallK.use (c3 _ _ hP2) ?_; rintro r G' _ _ ⟨rfl, rfl⟩)
    | simp (disch := first | (with_reducible assumption) | (simp; done) | omega | (simp; omega)) [hsl, h2L, h3L])
  exact ends_drop (by simp <;> rfl) (by simp) (hpost _ _ ⟨rfl, rfl⟩)
theorem awake_c (G : Hp) : ACalls Try.prog 13 [] G fun r G' => G' = G ∧ r = .bool true := awake_0.pure G
end Go.Proofs.Ytmomphnkngbgjaa
