import Derived.Test.YtjkighndbjnbjaaD2K
set_option linter.unusedSimpArgs false
set_option linter.unusedVariables false
namespace Go.Proofs.Ytjkighndbjnbjaa
open Go Go.Al
set_option maxRecDepth 20000
attribute [local irreducible] awp aops aopsD eop pv ACalls CallK AppK AEnds ti

/-- a pool's parameters -/
structure PP where
  base : Int
  n : Nat
  ticks : Int
def PP.ok (q : PP) : Prop := 1 ≤ q.n ∧ q.n ≤ 64 ∧ 0 ≤ q.base ∧ q.base + q.n ≤ 4294967295 ∧ 1 ≤ q.ticks ∧ q.ticks ≤ 1048576
def PP.o (q : PP) (sb : Nat) : Nat × List AV := (0, [.int .u32 q.base, .int .i64 q.n, .int .i64 q.ticks, .ptr sb 0])
def PH (q : PP) (pb : Nat) (G : Hp) (L : List (Int × Ls)) : Prop := ∃ sb h, G = setH h pb (some (q.o sb)) ∧ h pb = none ∧ SHL sb h L q.n
def hasP (q : PP) (ip : Int) : Bool := decide (q.base < ip ∧ ip ≤ q.base + q.n)
def LOk (q : PP) (L : List (Int × Ls)) : Prop := ∀ x ∈ L, x.2.ip = x.1 ∧ hasP q x.1 = true
@[simp] def Ls.av (l : Ls) : AV := .agg [.int .u64 l.mac, .int .u32 l.ip, .int .i64 l.u]
def l0 : Ls := ⟨0, 0, 0⟩
theorem hasP_iff {q : PP} {ip : Int} : hasP q ip = true ↔ q.base < ip ∧ ip ≤ q.base + q.n := by simp [hasP]

/-- the addresses -/
def ips (q : PP) : List Int := (List.range q.n).map fun k : Nat => q.base + 1 + (k : Int)
theorem ips_len (q : PP) : (ips q).length = q.n := by simp [ips]
theorem ips_mem {q : PP} {ip : Int} (h : hasP q ip = true) : ip ∈ ips q := by
  obtain ⟨h1, h2⟩ := hasP_iff.1 h
  simp only [ips, List.mem_map, List.mem_range]
  exact ⟨(ip - q.base - 1).toNat, by omega, by omega⟩
theorem LOk.len {q : PP} {L : List (Int × Ls)} (h : LOk q L) (hS : Srt L) : L.length ≤ q.n := by
  have := hS.len_le (m := ips q) fun x hx => ips_mem (h x hx).2
  rwa [ips_len] at this
theorem LOk.set {q : PP} {L : List (Int × Ls)} (h : LOk q L) {ip : Int} {v : Ls} (hp : hasP q ip = true) (hv : v.ip = ip) : LOk q (setL L ip v) := by
  intro x hx
  rcases setL_mem hx with rfl | hx
  · exact ⟨hv, hp⟩
  · exact h x hx
theorem LOk.filter {q : PP} {L : List (Int × Ls)} (h : LOk q L) (p : Int × Ls → Bool) : LOk q (L.filter p) := fun x hx => h x (List.mem_filter.1 hx).1
theorem LOk.del {q : PP} {L : List (Int × Ls)} (h : LOk q L) (k : Int) : LOk q (delL L k) := h.filter _
theorem setP {q : PP} {sb : Nat} {h : Hp} {L : List (Int × Ls)} {ip : Int} {v : Ls} (hq : q.ok) (hs : SHL sb h L q.n) (hok : LOk q L) (hp : hasP q ip = true) (hv : v.ip = ip) : ACalls Try.prog 31 [.ptr sb 0, .int .u32 ip, v.av] h fun r h' => SHL sb h' (setL L ip v) q.n ∧ r = .int .i64 0 := by
  have hl := hok.len hs.2
  have hr : setRL L q.n ip = true := by
    unfold setRL
    cases hh : hasL L ip with
    | true => rfl
    | false =>
      have h1 := (hok.set hp hv).len (hs.2.set ip v)
      rw [setL_len hs.2, hh] at h1
      simp at h1
      rw [decide_eq_true (by omega)]; rfl
  obtain ⟨q1, q2, _⟩ := hq
  exact setL_E hs (by omega) (by rw [if_pos hr]) (by rw [if_pos hr])
theorem delP {q : PP} {sb : Nat} {h : Hp} {L : List (Int × Ls)} {k : Int} (hs : SHL sb h L q.n) (hl : L.length ≤ 64) : ACalls Try.prog 32 [.ptr sb 0, .sl 1 [.int .u32 k]] h fun r h' => SHL sb h' (delL L k) q.n ∧ ∃ n, r = .int .i64 n := by
  have := delL_c (s := some [k]) hs (by omega) (by simp)
  refine ACalls.mono (p := fun r h' => SHL sb h' (delsLL L (LL (some [k]))) q.n ∧ r = .int .i64 (delsNL L (LL (some [k])))) this ?_
  rintro r h' ⟨h1, rfl⟩
  exact ⟨h1, _, rfl⟩

def okN (base n ticks : Int) : Bool := decide (1 ≤ n ∧ n ≤ 64 ∧ base + n ≤ 4294967295 ∧ 1 ≤ ticks ∧ ticks ≤ 1048576)
set_option maxHeartbeats 1000000 in
theorem new_ok {base ticks : Int} {n : Nat} (hb : 0 ≤ base) (hb2 : base ≤ 4294967295) (h : okN base n ticks = true) : ACalls Try.prog 7 [.int .u32 base, .int .i64 n, .int .i64 ticks] emptyH fun r G' => ∃ pb, r = .tup [.ptr pb 0, .int .i64 0] ∧ PH ⟨base, n, ticks⟩ pb G' [] := by
  obtain ⟨h1, h2, h3, h4, h5⟩ := of_decide_eq_true h
  have a1 : ¬ (n : Int) < 1 := by omega
  have a2 : ¬ 64 < (n : Int) := by omega
  have a3 : ¬ 4294967295 - (n : Int) < base := by omega
  have a4 : ¬ ticks < 1 := by omega
  have a5 : ¬ 1048576 < ticks := by omega
  have a6 : ¬ n = 0 := by omega
  have a7 : ¬ 64 < n := by omega
  refine ACalls.hide fun post hpost => ?_
  refine F7_in (by simp) (by simp) fun hbd => ?_
  repeat' (first
    | refine awp_seqK fun K' hpK => ?_
    | refine awp_block ?_
    | refine awp_condG fun A' B' hpA hpB => ?_
    | refine useK (by with_reducible assumption) ?_
    | refine useP (by with_reducible assumption) ?_
    | refine ED_cons (fun _ => ?_) ?_
    | (refine stable_mk ?_; simp (disch := first | (with_reducible assumption) | (simp; done) | omega | (simp; omega)) [a1, a2, a3, a4, a5, a6, a7]; done)
    | (refine stable_no ?_; simp (disch := first | (with_reducible assumption) | (simp; done) | omega | (simp; omega)) [a1, a2, a3, a4, a5, a6, a7]; done)
    | (with_reducible refine And.intro ?_ ?_)
    | (with_reducible intro hc; try (exfalso; omega))
    | (with_reducible refine GDsplit (fun hc => ?_) (fun hc => ?_) <;> try simp [hc])
    | (with_reducible refine GDsplitN (fun hc => ?_) (fun hc => ?_) <;> try simp [hc])
    | (with_reducible refine GDsplitNB (fun hc => ?_) (fun hc => ?_) <;> try simp [hc])
    | (with_reducible refine GDsplitB (fun hc => ?_) (fun hc => ?_) <;> try simp [hc])
    | (with_reducible refine GKsplit (fun hc => ?_) (fun hc => ?_) <;> try simp [hc])
    | (with_reducible refine GKsplitN (fun hc => ?_) (fun hc => ?_) <;> try simp [hc])
    | (with_reducible refine GKsplitNB (fun hc => ?_) (fun hc => ?_) <;> try simp [hc])
    | (with_reducible refine GKsplitB (fun hc => ?_) (fun hc => ?_) <;> try simp [hc])
    | (refine CallK.use (newL_E (n := (n : Int)) (m := (n : Int)) (if_neg (by omega))) ?_; rintro r G' _ _ ⟨sb, rfl, hs⟩)
    | simp (disch := first | (with_reducible assumption) | (simp; done) | omega | (simp; omega)) [a1, a2, a3, a4, a5, a6, a7])
  intro pb hpb
  refine ⟨0, ?_⟩
  repeat' (first
    | refine awp_seqK fun K' hpK => ?_
    | refine awp_block ?_
    | refine awp_condG fun A' B' hpA hpB => ?_
    | refine useK (by with_reducible assumption) ?_
    | refine useP (by with_reducible assumption) ?_
    | refine ED_cons (fun _ => ?_) ?_
    | (refine stable_mk ?_; simp (disch := first | (with_reducible assumption) | (simp; done) | omega | (simp; omega)); done)
    | (refine stable_no ?_; simp (disch := first | (with_reducible assumption) | (simp; done) | omega | (simp; omega)); done)
    | (with_reducible refine And.intro ?_ ?_)
    | (with_reducible intro hc)
    | (with_reducible refine GDsplit (fun hc => ?_) (fun hc => ?_) <;> try simp [hc])
    | (with_reducible refine GDsplitN (fun hc => ?_) (fun hc => ?_) <;> try simp [hc])
    | (with_reducible refine GDsplitNB (fun hc => ?_) (fun hc => ?_) <;> try simp [hc])
    | (with_reducible refine GDsplitB (fun hc => ?_) (fun hc => ?_) <;> try simp [hc])
    | (with_reducible refine GKsplit (fun hc => ?_) (fun hc => ?_) <;> try simp [hc])
    | (with_reducible refine GKsplitN (fun hc => ?_) (fun hc => ?_) <;> try simp [hc])
    | (with_reducible refine GKsplitNB (fun hc => ?_) (fun hc => ?_) <;> try simp [hc])
    | (with_reducible refine GKsplitB (fun hc => ?_) (fun hc => ?_) <;> try simp [hc])
    | simp (disch := first | (with_reducible assumption) | (simp; done) | omega | (simp; omega)))
  exact ends_two (by simp <;> exact ⟨rfl, rfl⟩) (by simp) (by simp) (hpost _ _ ⟨pb, rfl, sb, _, rfl, hpb, hs⟩)
set_option maxHeartbeats 1000000 in
theorem new_no {base n ticks : Int} (hb : 0 ≤ base) (hb2 : base ≤ 4294967295) (hn1 : -9223372036854775808 ≤ n) (hn2 : n ≤ 9223372036854775807) (h : okN base n ticks = false) : ACalls Try.prog 7 [.int .u32 base, .int .i64 n, .int .i64 ticks] emptyH fun r G' => r = .tup [.nil, .int .i64 1] ∧ G' = emptyH := by
  have h' := of_decide_eq_false h
  by_cases a1 : n < 1
  · refine ACalls.hide fun post hpost => ?_
    refine F7_in (by simp) (by simp) fun hbd => ?_
    repeat' (first
      | refine awp_seqK fun K' hpK => ?_
      | refine awp_block ?_
      | refine awp_condG fun A' B' hpA hpB => ?_
      | refine useK (by with_reducible assumption) ?_
      | refine useP (by with_reducible assumption) ?_
      | refine ED_cons (fun _ => ?_) ?_
      | (refine stable_mk ?_; simp (disch := first | (with_reducible assumption) | (simp; done) | omega | (simp; omega)) [a1]; done)
      | (refine stable_no ?_; simp (disch := first | (with_reducible assumption) | (simp; done) | omega | (simp; omega)) [a1]; done)
      | (with_reducible refine And.intro ?_ ?_)
      | (with_reducible intro hc; try (exfalso; omega))
      | (with_reducible refine GDsplit (fun hc => ?_) (fun hc => ?_) <;> try simp [hc])
      | (with_reducible refine GDsplitN (fun hc => ?_) (fun hc => ?_) <;> try simp [hc])
      | (with_reducible refine GDsplitNB (fun hc => ?_) (fun hc => ?_) <;> try simp [hc])
      | (with_reducible refine GDsplitB (fun hc => ?_) (fun hc => ?_) <;> try simp [hc])
      | (with_reducible refine GKsplit (fun hc => ?_) (fun hc => ?_) <;> try simp [hc])
      | (with_reducible refine GKsplitN (fun hc => ?_) (fun hc => ?_) <;> try simp [hc])
      | (with_reducible refine GKsplitNB (fun hc => ?_) (fun hc => ?_) <;> try simp [hc])
      | (with_reducible refine GKsplitB (fun hc => ?_) (fun hc => ?_) <;> try simp [hc])
      | simp (disch := first | (with_reducible assumption) | (simp; done) | omega | (simp; omega)) [a1])
    exact ends_two (by simp <;> exact ⟨rfl, rfl⟩) (by simp) (by simp) (hpost _ _ ⟨rfl, rfl⟩)
  by_cases a2 : 64 < n
  · refine ACalls.hide fun post hpost => ?_
    refine F7_in (by simp) (by simp) fun hbd => ?_
    repeat' (first
      | refine awp_seqK fun K' hpK => ?_
      | refine awp_block ?_
      | refine awp_condG fun A' B' hpA hpB => ?_
      | refine useK (by with_reducible assumption) ?_
      | refine useP (by with_reducible assumption) ?_
      | refine ED_cons (fun _ => ?_) ?_
      | (refine stable_mk ?_; simp (disch := first | (with_reducible assumption) | (simp; done) | omega | (simp; omega)) [a1, a2]; done)
      | (refine stable_no ?_; simp (disch := first | (with_reducible assumption) | (simp; done) | omega | (simp; omega)) [a1, a2]; done)
      | (with_reducible refine And.intro ?_ ?_)
      | (with_reducible intro hc; try (exfalso; omega))
      | (with_reducible refine GDsplit (fun hc => ?_) (fun hc => ?_) <;> try simp [hc])
      | (with_reducible refine GDsplitN (fun hc => ?_) (fun hc => ?_) <;> try simp [hc])
      | (with_reducible refine GDsplitNB (fun hc => ?_) (fun hc => ?_) <;> try simp [hc])
      | (with_reducible refine GDsplitB (fun hc => ?_) (fun hc => ?_) <;> try simp [hc])
      | (with_reducible refine GKsplit (fun hc => ?_) (fun hc => ?_) <;> try simp [hc])
      | (with_reducible refine GKsplitN (fun hc => ?_) (fun hc => ?_) <;> try simp [hc])
      | (with_reducible refine GKsplitNB (fun hc => ?_) (fun hc => ?_) <;> try simp [hc])
      | (with_reducible refine GKsplitB (fun hc => ?_) (fun hc => ?_) <;> try simp [hc])
      | simp (disch := first | (with_reducible assumption) | (simp; done) | omega | (simp; omega)) [a1, a2])
    exact ends_two (by simp <;> exact ⟨rfl, rfl⟩) (by simp) (by simp) (hpost _ _ ⟨rfl, rfl⟩)
  by_cases a3 : 4294967295 - n < base
  · refine ACalls.hide fun post hpost => ?_
    refine F7_in (by simp) (by simp) fun hbd => ?_
    repeat' (first
      | refine awp_seqK fun K' hpK => ?_
      | refine awp_block ?_
      | refine awp_condG fun A' B' hpA hpB => ?_
      | refine useK (by with_reducible assumption) ?_
      | refine useP (by with_reducible assumption) ?_
      | refine ED_cons (fun _ => ?_) ?_
      | (refine stable_mk ?_; simp (disch := first | (with_reducible assumption) | (simp; done) | omega | (simp; omega)) [a1, a2, a3]; done)
      | (refine stable_no ?_; simp (disch := first | (with_reducible assumption) | (simp; done) | omega | (simp; omega)) [a1, a2, a3]; done)
      | (with_reducible refine And.intro ?_ ?_)
      | (with_reducible intro hc; try (exfalso; omega))
      | (with_reducible refine GDsplit (fun hc => ?_) (fun hc => ?_) <;> try simp [hc])
      | (with_reducible refine GDsplitN (fun hc => ?_) (fun hc => ?_) <;> try simp [hc])
      | (with_reducible refine GDsplitNB (fun hc => ?_) (fun hc => ?_) <;> try simp [hc])
      | (with_reducible refine GDsplitB (fun hc => ?_) (fun hc => ?_) <;> try simp [hc])
      | (with_reducible refine GKsplit (fun hc => ?_) (fun hc => ?_) <;> try simp [hc])
      | (with_reducible refine GKsplitN (fun hc => ?_) (fun hc => ?_) <;> try simp [hc])
      | (with_reducible refine GKsplitNB (fun hc => ?_) (fun hc => ?_) <;> try simp [hc])
      | (with_reducible refine GKsplitB (fun hc => ?_) (fun hc => ?_) <;> try simp [hc])
      | simp (disch := first | (with_reducible assumption) | (simp; done) | omega | (simp; omega)) [a1, a2, a3])
    exact ends_two (by simp <;> exact ⟨rfl, rfl⟩) (by simp) (by simp) (hpost _ _ ⟨rfl, rfl⟩)
  by_cases a4 : ticks < 1
  · refine ACalls.hide fun post hpost => ?_
    refine F7_in (by simp) (by simp) fun hbd => ?_
    repeat' (first
      | refine awp_seqK fun K' hpK => ?_
      | refine awp_block ?_
      | refine awp_condG fun A' B' hpA hpB => ?_
      | refine useK (by with_reducible assumption) ?_
      | refine useP (by with_reducible assumption) ?_
      | refine ED_cons (fun _ => ?_) ?_
      | (refine stable_mk ?_; simp (disch := first | (with_reducible assumption) | (simp; done) | omega | (simp; omega)) [a1, a2, a3, a4]; done)
      | (refine stable_no ?_; simp (disch := first | (with_reducible assumption) | (simp; done) | omega | (simp; omega)) [a1, a2, a3, a4]; done)
      | (with_reducible refine And.intro ?_ ?_)
      | (with_reducible intro hc; try (exfalso; omega))
      | (with_reducible refine GDsplit (fun hc => ?_) (fun hc => ?_) <;> try simp [hc])
      | (with_reducible refine GDsplitN (fun hc => ?_) (fun hc => ?_) <;> try simp [hc])
      | (with_reducible refine GDsplitNB (fun hc => ?_) (fun hc => ?_) <;> try simp [hc])
      | (with_reducible refine GDsplitB (fun hc => ?_) (fun hc => ?_) <;> try simp [hc])
      | (with_reducible refine GKsplit (fun hc => ?_) (fun hc => ?_) <;> try simp [hc])
      | (with_reducible refine GKsplitN (fun hc => ?_) (fun hc => ?_) <;> try simp [hc])
      | (with_reducible refine GKsplitNB (fun hc => ?_) (fun hc => ?_) <;> try simp [hc])
      | (with_reducible refine GKsplitB (fun hc => ?_) (fun hc => ?_) <;> try simp [hc])
      | simp (disch := first | (with_reducible assumption) | (simp; done) | omega | (simp; omega)) [a1, a2, a3, a4])
    exact ends_two (by simp <;> exact ⟨rfl, rfl⟩) (by simp) (by simp) (hpost _ _ ⟨rfl, rfl⟩)
  have a5 : 1048576 < ticks := by omega
  refine ACalls.hide fun post hpost => ?_
  refine F7_in (by simp) (by simp) fun hbd => ?_
  repeat' (first
    | refine awp_seqK fun K' hpK => ?_
    | refine awp_block ?_
    | refine awp_condG fun A' B' hpA hpB => ?_
    | refine useK (by with_reducible assumption) ?_
    | refine useP (by with_reducible assumption) ?_
    | refine ED_cons (fun _ => ?_) ?_
    | (refine stable_mk ?_; simp (disch := first | (with_reducible assumption) | (simp; done) | omega | (simp; omega)) [a1, a2, a3, a4, a5]; done)
    | (refine stable_no ?_; simp (disch := first | (with_reducible assumption) | (simp; done) | omega | (simp; omega)) [a1, a2, a3, a4, a5]; done)
    | (with_reducible refine And.intro ?_ ?_)
    | (with_reducible intro hc; try (exfalso; omega))
    | (with_reducible refine GDsplit (fun hc => ?_) (fun hc => ?_) <;> try simp [hc])
    | (with_reducible refine GDsplitN (fun hc => ?_) (fun hc => ?_) <;> try simp [hc])
    | (with_reducible refine GDsplitNB (fun hc => ?_) (fun hc => ?_) <;> try simp [hc])
    | (with_reducible refine GDsplitB (fun hc => ?_) (fun hc => ?_) <;> try simp [hc])
    | (with_reducible refine GKsplit (fun hc => ?_) (fun hc => ?_) <;> try simp [hc])
    | (with_reducible refine GKsplitN (fun hc => ?_) (fun hc => ?_) <;> try simp [hc])
    | (with_reducible refine GKsplitNB (fun hc => ?_) (fun hc => ?_) <;> try simp [hc])
    | (with_reducible refine GKsplitB (fun hc => ?_) (fun hc => ?_) <;> try simp [hc])
    | simp (disch := first | (with_reducible assumption) | (simp; done) | omega | (simp; omega)) [a1, a2, a3, a4, a5])
  exact ends_two (by simp <;> exact ⟨rfl, rfl⟩) (by simp) (by simp) (hpost _ _ ⟨rfl, rfl⟩)

theorem has_c {q : PP} {pb : Nat} {G : Hp} {L : List (Int × Ls)} {ip : Int} (hq : q.ok) (hP : PH q pb G L) (h0 : 0 ≤ ip) (h1 : ip ≤ 4294967295) : ACalls Try.prog 30 [.ptr pb 0, .int .u32 ip] G fun r G' => G' = G ∧ r = .bool (hasP q ip) := by
  obtain ⟨sb, h, rfl, hpb, hs⟩ := hP
  obtain ⟨q1, q2, q3, q4, q5, q6⟩ := hq
  refine ACalls.hide fun post hpost => ?_
  refine F30_in (by simp) (by simp) fun hbd => ?_
  repeat' (first
    | refine awp_seqK fun K' hpK => ?_
    | refine awp_block ?_
    | refine awp_condG fun A' B' hpA hpB => ?_
    | refine useK (by with_reducible assumption) ?_
    | refine useP (by with_reducible assumption) ?_
    | refine ED_cons (fun _ => ?_) ?_
    | (refine stable_mk ?_; simp (disch := first | (with_reducible assumption) | (simp; done) | omega | (simp; omega)) [PP.o]; done)
    | (refine stable_no ?_; simp (disch := first | (with_reducible assumption) | (simp; done) | omega | (simp; omega)) [PP.o]; done)
    | (with_reducible refine And.intro ?_ ?_)
    | (with_reducible intro hc; try (exfalso; omega))
    | (with_reducible refine GDsplit (fun hc => ?_) (fun hc => ?_) <;> try simp [hc])
    | (with_reducible refine GDsplitN (fun hc => ?_) (fun hc => ?_) <;> try simp [hc])
    | (with_reducible refine GDsplitNB (fun hc => ?_) (fun hc => ?_) <;> try simp [hc])
    | (with_reducible refine GDsplitB (fun hc => ?_) (fun hc => ?_) <;> try simp [hc])
    | (with_reducible refine GKsplit (fun hc => ?_) (fun hc => ?_) <;> try simp [hc])
    | (with_reducible refine GKsplitN (fun hc => ?_) (fun hc => ?_) <;> try simp [hc])
    | (with_reducible refine GKsplitNB (fun hc => ?_) (fun hc => ?_) <;> try simp [hc])
    | (with_reducible refine GKsplitB (fun hc => ?_) (fun hc => ?_) <;> try simp [hc])
    | simp (disch := first | (with_reducible assumption) | (simp; done) | omega | (simp; omega)) [PP.o])
  all_goals exact ends_one (by simp <;> rfl) (by simp) (hpost _ _ ⟨rfl, by congr 1; rw [Bool.eq_iff_iff]; simp [hasP] <;> omega⟩)
theorem all_c {q : PP} {pb : Nat} {G : Hp} {L : List (Int × Ls)} (hP : PH q pb G L) (hl : L.length ≤ 64) : ACalls Try.prog 11 [.ptr pb 0] G fun r G' => G' = G ∧ ∃ s, r = ofS cVL s ∧ LL s = L.map Prod.snd := by
  obtain ⟨sb, h, rfl, hpb, hs⟩ := hP
  refine ACalls.hide fun post hpost => ?_
  refine F11_in (by simp) (by simp) fun hbd => ?_
  repeat' (first
    | refine awp_seqK fun K' hpK => ?_
    | refine awp_block ?_
    | refine awp_condG fun A' B' hpA hpB => ?_
    | refine useK (by with_reducible assumption) ?_
    | refine useP (by with_reducible assumption) ?_
    | refine ED_cons (fun _ => ?_) ?_
    | (refine stable_mk ?_; simp (disch := first | (with_reducible assumption) | (simp; done) | omega | (simp; omega)) [PP.o]; done)
    | (refine stable_no ?_; simp (disch := first | (with_reducible assumption) | (simp; done) | omega | (simp; omega)) [PP.o]; done)
    | (with_reducible refine And.intro ?_ ?_)
    | (with_reducible intro hc; try (exfalso; omega))
    | (with_reducible refine GDsplit (fun hc => ?_) (fun hc => ?_) <;> try simp [hc])
    | (with_reducible refine GDsplitN (fun hc => ?_) (fun hc => ?_) <;> try simp [hc])
    | (with_reducible refine GDsplitNB (fun hc => ?_) (fun hc => ?_) <;> try simp [hc])
    | (with_reducible refine GDsplitB (fun hc => ?_) (fun hc => ?_) <;> try simp [hc])
    | (with_reducible refine GKsplit (fun hc => ?_) (fun hc => ?_) <;> try simp [hc])
    | (with_reducible refine GKsplitN (fun hc => ?_) (fun hc => ?_) <;> try simp [hc])
    | (with_reducible refine GKsplitNB (fun hc => ?_) (fun hc => ?_) <;> try simp [hc])
    | (with_reducible refine GKsplitB (fun hc => ?_) (fun hc => ?_) <;> try simp [hc])
    | (refine CallK.use ((valsL_c hs (by omega)).frame1 hpb) ?_; rintro r G' _ _ ⟨h', _, rfl, rfl, s, rfl, hss⟩)
    | simp (disch := first | (with_reducible assumption) | (simp; done) | omega | (simp; omega)) [PP.o])
  exact ends_one (by simp <;> rfl) (by simp) (hpost _ _ ⟨rfl, s, rfl, hss⟩)
theorem of_c {q : PP} {pb : Nat} {G : Hp} {L : List (Int × Ls)} {ip : Int} (hP : PH q pb G L) (hl : L.length ≤ 64) : ACalls Try.prog 16 [.ptr pb 0, .int .u32 ip] G fun r G' => G' = G ∧ r = .tup [((getL L ip).getD l0).av, .bool (getL L ip).isSome] := by
  obtain ⟨sb, h, rfl, hpb, hs⟩ := hP
  refine ACalls.hide fun post hpost => ?_
  refine F16_in (by simp) (by simp) fun hbd => ?_
  repeat' (first
    | refine awp_seqK fun K' hpK => ?_
    | refine awp_block ?_
    | refine awp_condG fun A' B' hpA hpB => ?_
    | refine useK (by with_reducible assumption) ?_
    | refine useP (by with_reducible assumption) ?_
    | refine ED_cons (fun _ => ?_) ?_
    | (refine stable_mk ?_; simp (disch := first | (with_reducible assumption) | (simp; done) | omega | (simp; omega)) [PP.o]; done)
    | (refine stable_no ?_; simp (disch := first | (with_reducible assumption) | (simp; done) | omega | (simp; omega)) [PP.o]; done)
    | (with_reducible refine And.intro ?_ ?_)
    | (with_reducible intro hc; try (exfalso; omega))
    | (with_reducible refine GDsplit (fun hc => ?_) (fun hc => ?_) <;> try simp [hc])
    | (with_reducible refine GDsplitN (fun hc => ?_) (fun hc => ?_) <;> try simp [hc])
    | (with_reducible refine GDsplitNB (fun hc => ?_) (fun hc => ?_) <;> try simp [hc])
    | (with_reducible refine GDsplitB (fun hc => ?_) (fun hc => ?_) <;> try simp [hc])
    | (with_reducible refine GKsplit (fun hc => ?_) (fun hc => ?_) <;> try simp [hc])
    | (with_reducible refine GKsplitN (fun hc => ?_) (fun hc => ?_) <;> try simp [hc])
    | (with_reducible refine GKsplitNB (fun hc => ?_) (fun hc => ?_) <;> try simp [hc])
    | (with_reducible refine GKsplitB (fun hc => ?_) (fun hc => ?_) <;> try simp [hc])
    | (refine CallK.use ((getL_c (k := ip) hs (by omega)).frame1 hpb) ?_; rintro r G' _ _ ⟨h', _, rfl, rfl, rfl⟩)
    | simp (disch := first | (with_reducible assumption) | (simp; done) | omega | (simp; omega)) [PP.o])
  exact ends_two (by simp <;> exact ⟨rfl, rfl⟩) (by simp) (by simp) (hpost _ _ ⟨rfl, by simp [l0, zVL]⟩)
def findP (L : List (Int × Ls)) (m : Int) : Option Ls := (L.map Prod.snd).find? fun l => decide (l.mac = m)
set_option maxHeartbeats 1000000 in
theorem find_c {q : PP} {pb : Nat} {G : Hp} {L : List (Int × Ls)} {m : Int} (hP : PH q pb G L) (hl : L.length ≤ 64) : ACalls Try.prog 14 [.ptr pb 0, .int .u64 m] G fun r G' => G' = G ∧ r = .tup [((findP L m).getD l0).av, .bool (findP L m).isSome] := by
  refine ACalls.hide fun post hpost => ?_
  refine F14_in (by simp) (by simp) fun hbd => ?_
  repeat' (first
    | refine awp_seqK fun K' hpK => ?_
    | refine awp_block ?_
    | refine awp_condG fun A' B' hpA hpB => ?_
    | refine useK (by with_reducible assumption) ?_
    | refine useP (by with_reducible assumption) ?_
    | refine ED_cons (fun _ => ?_) ?_
    | (refine stable_mk ?_; simp (disch := first | (with_reducible assumption) | (simp; done) | omega | (simp; omega)); done)
    | (refine stable_no ?_; simp (disch := first | (with_reducible assumption) | (simp; done) | omega | (simp; omega)); done)
    | (with_reducible refine And.intro ?_ ?_)
    | (with_reducible intro hc; try (exfalso; omega))
    | (with_reducible refine GDsplit (fun hc => ?_) (fun hc => ?_) <;> try simp [hc])
    | (with_reducible refine GDsplitN (fun hc => ?_) (fun hc => ?_) <;> try simp [hc])
    | (with_reducible refine GDsplitNB (fun hc => ?_) (fun hc => ?_) <;> try simp [hc])
    | (with_reducible refine GDsplitB (fun hc => ?_) (fun hc => ?_) <;> try simp [hc])
    | (with_reducible refine GKsplit (fun hc => ?_) (fun hc => ?_) <;> try simp [hc])
    | (with_reducible refine GKsplitN (fun hc => ?_) (fun hc => ?_) <;> try simp [hc])
    | (with_reducible refine GKsplitNB (fun hc => ?_) (fun hc => ?_) <;> try simp [hc])
    | (with_reducible refine GKsplitB (fun hc => ?_) (fun hc => ?_) <;> try simp [hc])
    | (refine CallK.use (all_c hP hl) ?_; rintro r G' _ _ ⟨rfl, s, rfl, hs⟩)
    | simp (disch := first | (with_reducible assumption) | (simp; done) | omega | (simp; omega)))
  have hlen : (LL s).length = L.length := by rw [hs]; simp
  unfold findP at hpost
  rw [← hs] at hpost
  refine awp_loop' (fun w T G1 => ∃ k : Nat, k + w = (LL s).length ∧ G1 = G' ∧ (LL s).find? (fun l => decide (l.mac = m)) = ((LL s).drop k).find? (fun l => decide (l.mac = m)) ∧ T = ofL [(1, .int .u64 m), (4, .box [.int .u64 0, .int .u32 0, .int .i64 0]), (9, ofS cVL s), (10, .int .i64 (LL s).length), (11, .int .i64 k)]) (LL s).length ⟨0, by omega, rfl, rfl, by simp⟩ ?_
  rintro w T G1 ⟨k, hk, rfl, hw, rfl⟩ N hN
  by_cases hkl : k < (LL s).length
  · rw [List.drop_eq_getElem_cons hkl] at hw
    obtain ⟨x, hx⟩ : ∃ x, x = (LL s)[k] := ⟨_, rfl⟩
    rw [← hx] at hw
    by_cases h1 : x.mac = m
    · rw [List.find?_cons_of_pos (by simp [h1])] at hw
      repeat' (first
        | refine awp_seqK fun K' hpK => ?_
        | refine awp_block ?_
        | refine awp_condG fun A' B' hpA hpB => ?_
        | refine useK (by with_reducible assumption) ?_
        | refine useP (by with_reducible assumption) ?_
        | refine ED_cons (fun _ => ?_) ?_
        | (refine stable_mk ?_; simp (disch := first | (with_reducible assumption) | (simp; done) | omega | (simp; omega)) [hkl, ofS_idx (f := cVL), cVL, ← hx, h1]; done)
        | (refine stable_no ?_; simp (disch := first | (with_reducible assumption) | (simp; done) | omega | (simp; omega)) [hkl, ofS_idx (f := cVL), cVL, ← hx, h1]; done)
        | (with_reducible refine And.intro ?_ ?_)
        | (with_reducible intro hc; try (exfalso; omega))
        | (with_reducible refine GDsplit (fun hc => ?_) (fun hc => ?_) <;> try simp [hc])
        | (with_reducible refine GDsplitN (fun hc => ?_) (fun hc => ?_) <;> try simp [hc])
        | (with_reducible refine GDsplitNB (fun hc => ?_) (fun hc => ?_) <;> try simp [hc])
        | (with_reducible refine GDsplitB (fun hc => ?_) (fun hc => ?_) <;> try simp [hc])
        | (with_reducible refine GKsplit (fun hc => ?_) (fun hc => ?_) <;> try simp [hc])
        | (with_reducible refine GKsplitN (fun hc => ?_) (fun hc => ?_) <;> try simp [hc])
        | (with_reducible refine GKsplitNB (fun hc => ?_) (fun hc => ?_) <;> try simp [hc])
        | (with_reducible refine GKsplitB (fun hc => ?_) (fun hc => ?_) <;> try simp [hc])
        | simp (disch := first | (with_reducible assumption) | (simp; done) | omega | (simp; omega)) [hkl, ofS_idx (f := cVL), cVL, ← hx, h1])
      exact ends_two (by simp <;> exact ⟨rfl, rfl⟩) (by simp) (by simp) (hpost _ _ ⟨rfl, by rw [hw]; simp [h1]⟩)
    · rw [List.find?_cons_of_neg (by simp [h1])] at hw
      repeat' (first
        | refine awp_seqK fun K' hpK => ?_
        | refine awp_block ?_
        | refine awp_condG fun A' B' hpA hpB => ?_
        | refine useK (by with_reducible assumption) ?_
        | refine useP (by with_reducible assumption) ?_
        | refine ED_cons (fun _ => ?_) ?_
        | (refine stable_mk ?_; simp (disch := first | (with_reducible assumption) | (simp; done) | omega | (simp; omega)) [hkl, ofS_idx (f := cVL), cVL, ← hx, h1]; done)
        | (refine stable_no ?_; simp (disch := first | (with_reducible assumption) | (simp; done) | omega | (simp; omega)) [hkl, ofS_idx (f := cVL), cVL, ← hx, h1]; done)
        | (with_reducible refine And.intro ?_ ?_)
        | (with_reducible intro hc; try (exfalso; omega))
        | (with_reducible refine GDsplit (fun hc => ?_) (fun hc => ?_) <;> try simp [hc])
        | (with_reducible refine GDsplitN (fun hc => ?_) (fun hc => ?_) <;> try simp [hc])
        | (with_reducible refine GDsplitNB (fun hc => ?_) (fun hc => ?_) <;> try simp [hc])
        | (with_reducible refine GDsplitB (fun hc => ?_) (fun hc => ?_) <;> try simp [hc])
        | (with_reducible refine GKsplit (fun hc => ?_) (fun hc => ?_) <;> try simp [hc])
        | (with_reducible refine GKsplitN (fun hc => ?_) (fun hc => ?_) <;> try simp [hc])
        | (with_reducible refine GKsplitNB (fun hc => ?_) (fun hc => ?_) <;> try simp [hc])
        | (with_reducible refine GKsplitB (fun hc => ?_) (fun hc => ?_) <;> try simp [hc])
        | simp (disch := first | (with_reducible assumption) | (simp; done) | omega | (simp; omega)) [hkl, ofS_idx (f := cVL), cVL, ← hx, h1])
      exact hN (w - 1) _ _ (by omega) ⟨k + 1, by omega, rfl, hw, by simp⟩
  · rw [List.drop_of_length_le (by omega), List.find?_nil] at hw
    repeat' (first
      | refine awp_seqK fun K' hpK => ?_
      | refine awp_block ?_
      | refine awp_condG fun A' B' hpA hpB => ?_
      | refine useK (by with_reducible assumption) ?_
      | refine useP (by with_reducible assumption) ?_
      | refine ED_cons (fun _ => ?_) ?_
      | (refine stable_mk ?_; simp (disch := first | (with_reducible assumption) | (simp; done) | omega | (simp; omega)) [hkl]; done)
      | (refine stable_no ?_; simp (disch := first | (with_reducible assumption) | (simp; done) | omega | (simp; omega)) [hkl]; done)
      | (with_reducible refine And.intro ?_ ?_)
      | (with_reducible intro hc; try (exfalso; omega))
      | (with_reducible refine GDsplit (fun hc => ?_) (fun hc => ?_) <;> try simp [hc])
      | (with_reducible refine GDsplitN (fun hc => ?_) (fun hc => ?_) <;> try simp [hc])
      | (with_reducible refine GDsplitNB (fun hc => ?_) (fun hc => ?_) <;> try simp [hc])
      | (with_reducible refine GDsplitB (fun hc => ?_) (fun hc => ?_) <;> try simp [hc])
      | (with_reducible refine GKsplit (fun hc => ?_) (fun hc => ?_) <;> try simp [hc])
      | (with_reducible refine GKsplitN (fun hc => ?_) (fun hc => ?_) <;> try simp [hc])
      | (with_reducible refine GKsplitNB (fun hc => ?_) (fun hc => ?_) <;> try simp [hc])
      | (with_reducible refine GKsplitB (fun hc => ?_) (fun hc => ?_) <;> try simp [hc])
      | simp (disch := first | (with_reducible assumption) | (simp; done) | omega | (simp; omega)) [hkl])
    exact ends_two (by simp <;> exact ⟨rfl, rfl⟩) (by simp) (by simp) (hpost _ _ ⟨rfl, by rw [hw]; simp [l0]⟩)
end Go.Proofs.Ytjkighndbjnbjaa
