import Derived.Test.YtdpppigniaafnaaAl0
import Derived.IntWalk
import Derived.Below
import Derived.ChangeArms
import Derived.ChangeOld
import Derived.DataReads
import Derived.SizedLaws
import Derived.ChangeShapes
import Derived.WideShapes
import Derived.RowKit
import Derived.OpenShut
set_option linter.unusedVariables false
set_option linter.unusedSimpArgs false
namespace Go.Al
open Go

/-! ### what an operation looks at -/
def opTmps (op : Op) : List Nat := op.operands.toList.filterMap fun | .tmp t => some t | _ => none

def looks (c : CO) : List Nat := opTmps c.op ++ (match c.g with | some (d, _) => [d] | none => [])

theorem opTmps_not {op : Op} {d : Nat} (h : d ∉ opTmps op) : ∀ x ∈ op.operands.toList, x ≠ .tmp d := by
  rintro x hx rfl
  exact h (List.mem_filterMap.2 ⟨_, hx, rfl⟩)

theorem ev_upd {T : Tm} {d : Nat} {v : AV} {x : Operand} (h : x ≠ .tmp d) : ev (upd T d v) x = ev T x := by
  cases x with
  | tmp t =>
    have : t ≠ d := fun e => h (by rw [e])
    simp only [ev, get, upd, if_neg this]
  | _ => rfl

/-- no slot holds an address of slot d's variable, and there is none -/
def NoLoc (d : Nat) (T : Tm) : Prop := (∀ y off, T y ≠ .loc d off) ∧ ∀ cs, T d ≠ .box cs

theorem ev_noloc {T : Tm} {d : Nat} (h : NoLoc d T) {x : Operand} : ∀ off, ev T x ≠ .loc d off := by
  intro off e
  cases x with
  | tmp t =>
    simp only [ev] at e
    split at e
    · rename_i cs hc
      injection e with e1 e2; subst e1; exact h.2 cs hc
    · exact h.1 t off e
  | const v =>
    simp only [ev] at e
    have := ofV_VR (w := default) (O := fun _ => False) v
    rw [e] at this; simp only [VR] at this
  | global g => simp only [ev] at e; cases e
  | func f => simp only [ev] at e; cases e

theorem memLd_upd {T : Tm} {G : Hp} {d : Nat} {v p : AV} (h : ∀ off, p ≠ .loc d off) : memLd (upd T d v) G p = memLd T G p := by
  cases p with
  | loc t off =>
    have : t ≠ d := fun e => h off (by rw [e])
    simp only [memLd, get, upd, if_neg this]
  | _ => rfl

theorem map_ev {α : Type} {ps : List (α × Operand)} {T T' : Tm} (h : ∀ p ∈ ps, ev T' p.2 = ev T p.2) : (ps.map fun p => (p.1, ev T' p.2)) = ps.map fun p => (p.1, ev T p.2) :=
  List.map_congr_left fun p hp => by rw [h p hp]

theorem maps_ev {ps : List Operand} {T T' : Tm} (h : ∀ p ∈ ps, ev T' p = ev T p) : ps.map (ev T') = ps.map (ev T) :=
  List.map_congr_left fun p hp => h p hp

/-- reads it memory? -/
def memR (op : Op) : Bool :=
  match op with
  | .load _ _ => true
  | .convert _ _ _ => true
  | _ => false

theorem pv_congr {P : Program} {op : Op} {T T' : Tm} {G G' : Hp} (h : ∀ x ∈ op.operands.toList, ev T' x = ev T x) (hm : memR op = false) : pv P op T' G' = pv P op T G := by
  cases op <;> simp only [memR] at hm <;> try (cases hm; done)
  case build t ps =>
    have : ∀ p ∈ ps.toList, ev T' p.2 = ev T p.2 := fun p hp => h p.2 (by simp [Op.operands]; exact ⟨p.1, by simpa using hp⟩)
    simp only [pv, map_ev this]
  case buildSlice t n ps =>
    have : ∀ p ∈ ps.toList, ev T' p.2 = ev T p.2 := fun p hp => h p.2 (by simp [Op.operands]; exact ⟨p.1, by simpa using hp⟩)
    simp only [pv, map_ev this]
  case makeFunc fn first caps =>
    have : ∀ p ∈ caps.toList, ev T' p = ev T p := fun p hp => h p (by simp [Op.operands]; exact .inr (by simpa using hp))
    cases fn <;> simp only [pv]
    rw [maps_ev this]
  case makeSlice t l c => simp only [pv, h l (by simp [Op.operands]), h c (by simp [Op.operands])]
  case slice t x lo hi mx =>
    cases mx with
    | some m => rfl
    | none =>
      have hx : ev T' x = ev T x := h x (by simp [Op.operands])
      have hlo : ∀ y, lo = some y → ev T' y = ev T y := fun y e => h y (by subst e; simp [Op.operands])
      have hhi : ∀ y, hi = some y → ev T' y = ev T y := fun y e => h y (by subst e; simp [Op.operands])
      simp only [pv, hx]
      have e1 : lo.map (ev T') = lo.map (ev T) := by cases lo with | none => rfl | some y => simp [hlo y rfl]
      have e2 : hi.map (ev T') = hi.map (ev T) := by cases hi with | none => rfl | some y => simp [hhi y rfl]
      have e3 : (lo.all fun y => (ev T' y).plain) = (lo.all fun y => (ev T y).plain) := by cases lo with | none => rfl | some y => simp [hlo y rfl]
      have e4 : (hi.all fun y => (ev T' y).plain) = (hi.all fun y => (ev T y).plain) := by cases hi with | none => rfl | some y => simp [hhi y rfl]
      rw [e1, e2, e3, e4]
  case call c =>
    have : ∀ p ∈ c.args.toList, ev T' p = ev T p := fun p hp => h p (by simp [Op.operands, Call.operands]; exact .inr (by simpa using hp))
    simp only [pv, maps_ev this]
  case move x => simp only [pv, h x (by simp [Op.operands])]
  case assign x => simp only [pv, h x (by simp [Op.operands])]
  case pick c x y => simp only [pv, h c (by simp [Op.operands]), h x (by simp [Op.operands]), h y (by simp [Op.operands])]
  case alloc => rfl
  case box e x => simp only [pv, h x (by simp [Op.operands])]
  case nilCheck x => simp only [pv, h x (by simp [Op.operands])]
  case binOp op t x y ty => simp only [pv, h x (by simp [Op.operands]), h y (by simp [Op.operands])]
  case unOp op t x => simp only [pv, h x (by simp [Op.operands])]
  case fieldAddr s x f => simp only [pv, h x (by simp [Op.operands])]
  case field s x f => simp only [pv, h x (by simp [Op.operands])]
  case indexAddr s x f => simp only [pv, h x (by simp [Op.operands]), h f (by simp [Op.operands])]
  case index s x f => simp only [pv, h x (by simp [Op.operands]), h f (by simp [Op.operands])]
  case extract x f => simp only [pv, h x (by simp [Op.operands])]
  all_goals rfl

theorem pv_upd {P : Program} {op : Op} {T : Tm} {G : Hp} {d : Nat} {v : AV} (hd : d ∉ opTmps op) (hn : NoLoc d T) : pv P op (upd T d v) G = pv P op T G := by
  have h : ∀ x ∈ op.operands.toList, ev (upd T d v) x = ev T x := fun x hx => ev_upd (opTmps_not hd x hx)
  cases hm : memR op with
  | false => exact pv_congr h hm
  | true =>
    cases op <;> simp only [memR] at hm <;> try (cases hm; done)
    case load t x =>
      have hx := h x (by simp [Op.operands])
      simp only [pv, hx]
      rw [memLd_upd (ev_noloc hn)]
    case convert s t x =>
      have hx := h x (by simp [Op.operands])
      simp only [pv, hx]

theorem upd_comm {T : Tm} {d e : Nat} {v u : AV} (h : d ≠ e) : upd (upd T d v) e u = upd (upd T e u) d v := by
  funext i
  unfold upd
  by_cases h1 : i = d
  · subst h1; simp [h]
  · by_cases h2 : i = e
    · subst h2; simp [h1]
    · simp [h1, h2]

theorem aapp_mono {i : TI} {G : Hp} {x : AV} {n : Nat} {xs : List AV} {k k' : AV → Hp → Prop} (hk : ∀ v G, k v G → k' v G) (h : aapp i G x n xs k) : aapp i G x n xs k' := by
  cases x <;> simp only [aapp] at h ⊢ <;> try (exact h.elim)
  case nils =>
    split at h
    · rename_i h0; rw [if_pos h0]; exact hk _ _ h
    · rename_i h0; rw [if_neg h0]
      obtain ⟨h1, h2, h3⟩ := h
      exact ⟨h1, h2, fun b hb => let ⟨τ, q⟩ := h3 b hb; ⟨τ, hk _ _ q⟩⟩
  case ms b off m sz =>
    obtain ⟨h1, h2, h3⟩ := h
    refine ⟨h1, h2, ?_⟩
    cases hg : G b with
    | none => rw [hg] at h3; exact h3.elim
    | some q =>
      rw [hg] at h3
      obtain ⟨τ, cs⟩ := q
      obtain ⟨q1, q2, q3, q4, q5⟩ := h3
      exact ⟨q1, q2, q3, q4, fun b' hb' => hk _ _ (q5 b' hb')⟩

theorem aappB_mono {P : Program} {ts : List TypeId} {xs : List AV} {G : Hp} {k k' : AV → Hp → Prop} (hk : ∀ v G, k v G → k' v G) (h : aappB P ts xs G k) : aappB P ts xs G k' := by
  unfold aappB at h ⊢
  split at h
  · obtain ⟨h1, h2, h3, h4, h5, h6⟩ := h
    refine ⟨h1, h2, h3, h4, h5, ?_⟩
    split at h6
    · obtain ⟨h7, h8, h9⟩ := h6
      refine ⟨h7, h8, ?_⟩
      split at h9
      · exact aapp_mono hk h9
      · exact h9.elim
    · exact h6.elim
  · exact h.elim

theorem eop_mono {P : Program} {dst : Option Nat} {op : Op} {T : Tm} {G : Hp} {k k' : AV → Tm → Hp → Prop} (hk : ∀ v T G, k v T G → k' v T G) (h : eop P dst op T G k) : eop P dst op T G k' := by
  unfold eop at h ⊢
  split at h
  · obtain ⟨h1, h2, h3, h4, h5, h6⟩ := h
    refine ⟨h1, h2, h3, h4, h5, ?_⟩
    split at h6
    · exact hk _ _ _ h6
    · exact h6.elim
  · obtain ⟨h1, h2⟩ := h
    refine ⟨h1, ?_⟩
    split at h2
    · exact fun b hb => let ⟨τ, q⟩ := h2 b hb; ⟨τ, hk _ _ _ q⟩
    · exact h2.elim
  · obtain ⟨h1, h2⟩ := h
    exact ⟨h1, fun b hb => let ⟨τ, q⟩ := h2 b hb; ⟨τ, hk _ _ _ q⟩⟩
  · obtain ⟨h1, h2, h3, h4⟩ := h
    refine ⟨h1, h2, h3, ?_⟩
    split at h4
    · obtain ⟨h5, h6, h7⟩ := h4
      exact ⟨h5, h6, fun b hb => let ⟨τ, q⟩ := h7 b hb; ⟨τ, hk _ _ _ q⟩⟩
    · exact h4.elim
  · obtain ⟨h1, h2⟩ := h
    refine ⟨h1, ?_⟩
    split at h2
    · obtain ⟨q1, q2, q3, q4, q5, q6⟩ := h2
      refine ⟨q1, q2, q3, q4, q5, ?_⟩
      split at q6
      · obtain ⟨q7, q8⟩ := q6
        exact ⟨q7, fun b hb => let ⟨τ, q⟩ := q8 b hb; ⟨τ, hk _ _ _ q⟩⟩
      · exact q6.elim
    · exact h2.elim
  · split at h
    · split at h
      · obtain ⟨h1, h2, h3⟩ := h
        exact ⟨h1, h2, h3.mono fun r G' q => hk _ _ _ q⟩
      · exact h.elim
    · obtain ⟨h1, h2⟩ := h
      exact ⟨h1, aappB_mono (fun v G q => hk _ _ _ q) h2⟩
    · exact h.elim
  · exact h.elim

/-- another slot has no part in an operation that acts -/
theorem eop_upd {P : Program} {dst : Option Nat} {op : Op} {T : Tm} {G : Hp} {d : Nat} {u : AV} {k : AV → Tm → Hp → Prop} (hd : d ∉ opTmps op) (hn : NoLoc d T) (h : eop P dst op (upd T d u) G k) :
    eop P dst op T G fun v T' G' => NoLoc d T' ∧ k v (upd T' d u) G' := by
  have he : ∀ x ∈ op.operands.toList, ev (upd T d u) x = ev T x := fun x hx => ev_upd (opTmps_not hd x hx)
  cases op <;> simp only [eop] at h ⊢ <;> try (exact h.elim)
  case alloc e =>
    obtain ⟨h1, h2⟩ := h
    refine ⟨h1, ?_⟩
    split at h2
    · exact fun b hb => let ⟨τ, q⟩ := h2 b hb; ⟨τ, hn, q⟩
    · exact h2.elim
  case box e x =>
    rw [he x (by simp [Op.operands])] at h
    obtain ⟨h1, h2⟩ := h
    exact ⟨h1, fun b hb => let ⟨τ, q⟩ := h2 b hb; ⟨τ, hn, q⟩⟩
  case buildSlice t n ps =>
    obtain ⟨h1, h2, h3, h4⟩ := h
    refine ⟨h1, h2, h3, ?_⟩
    split at h4
    · obtain ⟨h5, h6, h7⟩ := h4
      exact ⟨h5, h6, fun b hb => let ⟨τ, q⟩ := h7 b hb; ⟨τ, hn, q⟩⟩
    · exact h4.elim
  case store t x y =>
    have hx := he x (by simp [Op.operands])
    have hy := he y (by simp [Op.operands])
    rw [hx, hy] at h
    obtain ⟨h1, h2, h3, h4, h5, h6⟩ := h
    refine ⟨h1, h2, h3, h4, h5, ?_⟩
    have hnl := ev_noloc hn (x := x)
    generalize ev T x = p at h6 hnl
    cases p with
    | ptr b off =>
      simp only [memSt] at h6 ⊢
      cases hg : G b with
      | none => rw [hg] at h6; exact h6.elim
      | some q =>
        rw [hg] at h6
        simp only at h6 ⊢
        split at h6
        · rename_i T' G' heq
          split at heq
          · rename_i hle
            injection heq with heq; injection heq with e1 e2; subst e1; subst e2
            rw [if_pos hle]
            exact ⟨hn, h6⟩
          · cases heq
        · exact h6.elim
    | loc t' off =>
      have hne : t' ≠ d := fun e => hnl off (by rw [e])
      have hget : get (upd T d u) t' = get T t' := by simp [get, upd, hne]
      simp only [memSt, hget] at h6 ⊢
      cases hg : get T t' with
      | box cs =>
        rw [hg] at h6
        simp only at h6 ⊢
        split at h6
        · rename_i T' G' heq
          split at heq
          · rename_i hle
            injection heq with heq; injection heq with e1 e2; subst e1; subst e2
            rw [if_pos hle]
            refine ⟨?_, ?_⟩
            · refine ⟨fun i o e => ?_, fun cs1 e => ?_⟩
              · unfold upd at e
                split at e
                · cases e
                · exact hn.1 i o e
              · simp only [upd, if_neg (Ne.symm hne)] at e
                exact hn.2 cs1 e
            · rw [upd_comm (Ne.symm hne)] at h6
              exact h6
          · cases heq
        · exact h6.elim
      | _ => rw [hg] at h6; exact h6.elim
    | _ => simp only [memSt] at h6
  case makeSlice t l c =>
    have hl := he l (by simp [Op.operands])
    have hc := he c (by simp [Op.operands])
    rw [hl, hc] at h
    obtain ⟨h1, h2⟩ := h
    refine ⟨h1, ?_⟩
    split at h2
    · obtain ⟨q1, q2, q3, q4, q5, q6⟩ := h2
      refine ⟨q1, q2, q3, q4, q5, ?_⟩
      split at q6
      · obtain ⟨q7, q8⟩ := q6
        exact ⟨q7, fun b hb => let ⟨τ, q⟩ := q8 b hb; ⟨τ, hn, q⟩⟩
      · exact q6.elim
    · exact h2.elim
  case call c =>
    have ha : ∀ p ∈ c.args.toList, ev (upd T d u) p = ev T p := fun p hp => he p (by simp [Op.operands, Call.operands]; exact .inr (by simpa using hp))
    have hf : ∀ f, c.callee = .value f → ev (upd T d u) f = ev T f := fun f e => he f (by simp [Op.operands, Call.operands, e])
    simp only [maps_ev ha] at h
    split at h
    · rename_i f hc
      rw [hf f hc] at h
      split at h
      · obtain ⟨h1, h2, h3⟩ := h
        exact ⟨h1, h2, h3.mono fun r G' q => ⟨hn, q⟩⟩
      · exact h.elim
    · obtain ⟨h1, h2⟩ := h
      exact ⟨h1, aappB_mono (fun v G q => ⟨hn, q⟩) h2⟩
    · exact h.elim

/-- operations whose value may be an address of a variable of the frame -/
def isAddr (op : Op) : Bool :=
  match op with
  | .move _ | .assign _ | .pick _ _ _ | .alloc _ | .box _ _ | .nilCheck _ | .fieldAddr _ _ _ | .indexAddr _ _ _ => true
  | _ => false

theorem pv_loc {P : Program} {op : Op} {T : Tm} {G : Hp} {d off : Nat} (ha : isAddr op = true) (h : pv P op T G = some (.loc d off)) : ∃ x ∈ op.operands.toList, ∃ o, ev T x = .loc d o := by
  cases op <;> simp only [isAddr] at ha <;> try (cases ha; done)
  all_goals simp only [pv] at h
  case move x =>
    split at h
    · cases h
    · injection h with h; exact ⟨x, by simp [Op.operands], off, h⟩
  case assign x =>
    split at h
    · cases h
    · injection h with h; exact ⟨x, by simp [Op.operands], off, h⟩
  case pick c x y =>
    split at h
    · injection h with h
      split at h
      · exact ⟨x, by simp [Op.operands], off, h⟩
      · exact ⟨y, by simp [Op.operands], off, h⟩
    · cases h
  case alloc e =>
    split at h
    · simp only [Option.map_eq_some_iff] at h
      obtain ⟨_, _, h⟩ := h; cases h
    · cases h
  case box e x =>
    split at h
    · cases h
    · cases h
  case nilCheck x =>
    split at h
    · injection h with h; exact ⟨x, by simp [Op.operands], off, h⟩
    · cases h
  case fieldAddr s x f =>
    unfold fldA at h
    split at h
    · split at h
      · cases h
      · rename_i t o hx
        injection h with h; injection h with h1 h2; subst h1
        exact ⟨x, by simp [Op.operands], o, hx⟩
      · cases h
      · cases h
    · cases h
  case indexAddr t x ix =>
    split at h
    · unfold idxA at h
      split at h
      · split at h
        · split at h
          · split at h
            · split at h <;> cases h
            · split at h <;> cases h
            · cases h
          · cases h
        · split at h
          · split at h
            · split at h <;> cases h
            · split at h <;> cases h
            · rename_i d2 o2 hx
              split at h
              · injection h with h; injection h with h1 h2; subst h1
                exact ⟨x, by simp [Op.operands], o2, hx⟩
              · cases h
            · cases h
          · cases h
        · cases h
      · cases h
    · cases h

end Go.Al

set_option linter.unusedVariables false
set_option linter.unusedSimpArgs false
namespace Go.Al
open Go

/-! ### a region that draws its order: the abstract part -/
structure It where
  i : Nat
  c : CO
  oi : List Nat
  ob : List CO

def updO (T : Tm) (dst : Option Nat) (v : AV) : Tm :=
  match dst with
  | none => T
  | some d => upd T d v

def stable (P : Program) (l : CO) (T : Tm) (G : Hp) : Prop := gd T l.g = some true → ∃ d, l.dst = some d ∧ pv P l.op T G = some (T d)

def aopsD (P : Program) (gl : List Nat) : List It → (Tm → Hp → Prop) → Tm → Hp → Prop
  | [], k, T, G => k T G
  | q :: r, k, T, G => match gd T q.c.g with
    | some b => (b = true → if isE gl q.c.dst q.c.op then
          eop P q.c.dst q.c.op T G fun v T' G' => v.plain = true → ((∀ l ∈ q.ob, stable P l (updO T' q.c.dst v) G') ∧ aopsD P gl r k (updO T' q.c.dst v) G')
        else oget (pv P q.c.op T G) fun v => (isAddr q.c.op || v.plain) = true ∧ aopsD P gl r k (updO T q.c.dst v) G) ∧
      (b = false → aopsD P gl r k (updO T q.c.dst (.tup [])) G)
    | none => False

def sep (p q : It) : Prop := ∀ d, q.c.dst = some d → d ∉ looks p.c ∧ p.c.dst ≠ some d
def far (p q : It) : Prop := (∀ d, q.c.dst = some d → p.c.dst ≠ some d) ∧ (memR p.c.op = true → sep p q)
/-- operations that only make what is new -/
def freshOp (op : Op) : Bool :=
  match op with
  | .alloc _ => true
  | .box _ _ => true
  | .buildSlice _ _ _ => true
  | .makeSlice _ _ _ => true
  | _ => false
/-- both only make what is new, or the second one looks at no memory -/
def twoNew (gl : List Nat) (p q : It) : Prop := freshOp p.c.op = true ∧ p.c.g = none ∧ p.ob = [] ∧ (isE gl q.c.dst q.c.op = true → freshOp q.c.op = true ∧ q.ob = []) ∧ (isE gl q.c.dst q.c.op = false → memR q.c.op = false)
def ind (gl : List Nat) (p q : It) : Prop := (∀ d, p.c.dst = some d → d ∉ looks q.c) ∧ ((isE gl p.c.dst p.c.op = false ∧ (isE gl q.c.dst q.c.op = true → memR p.c.op = true → p.c ∈ q.ob)) ∨ (isE gl p.c.dst p.c.op = true ∧ twoNew gl p q))
def selfok (p : It) : Prop := ∀ d, p.c.dst = some d → d ∉ looks p.c

theorem looks_op {c : CO} {d : Nat} (h : d ∉ looks c) : d ∉ opTmps c.op := fun h' => h (List.mem_append.2 (.inl h'))

theorem gd_upd {T : Tm} {c : CO} {d : Nat} {v : AV} (h : d ∉ looks c) : gd (upd T d v) c.g = gd T c.g := by
  unfold gd
  cases hg : c.g with
  | none => rfl
  | some p =>
    obtain ⟨e, want⟩ := p
    have : e ≠ d := by
      rintro rfl
      exact h (List.mem_append.2 (.inr (by rw [hg]; simp)))
    simp only [upd, if_neg this]

/-- only the content of a variable of the frame is another -/
def SameE (T T' : Tm) : Prop := T' = T ∨ ∃ t cs cs', T t = .box cs ∧ T' = upd T t (.box cs')

theorem SameE.ev {T T' : Tm} (h : SameE T T') (x : Operand) : ev T' x = ev T x := by
  rcases h with rfl | ⟨t, cs, cs', h1, rfl⟩
  · rfl
  · cases x with
    | tmp i =>
      by_cases hi : i = t
      · subst hi; simp only [Go.Al.ev, get, upd, if_true, h1]
      · simp only [Go.Al.ev, get, upd, if_neg hi]
    | _ => rfl

theorem SameE.gd {T T' : Tm} (h : SameE T T') (g : Option (Nat × Bool)) : gd T' g = gd T g := by
  rcases h with rfl | ⟨t, cs, cs', h1, rfl⟩
  · rfl
  · unfold Go.Al.gd
    cases g with
    | none => rfl
    | some p =>
      obtain ⟨e, want⟩ := p
      by_cases he : e = t
      · subst he; simp only [upd, if_true, h1]
      · simp only [upd, if_neg he]

theorem SameE.noloc {T T' : Tm} (h : SameE T T') {d : Nat} (hn : NoLoc d T) : NoLoc d T' := by
  rcases h with rfl | ⟨t, cs, cs', h1, rfl⟩
  · exact hn
  · have hne : d ≠ t := by rintro rfl; exact hn.2 cs h1
    refine ⟨fun y off e => ?_, fun cs2 e => ?_⟩
    · unfold upd at e
      split at e
      · cases e
      · exact hn.1 y off e
    · simp only [upd, if_neg hne] at e
      exact hn.2 cs2 e

theorem eop_same {P : Program} {dst : Option Nat} {op : Op} {T : Tm} {G : Hp} {k : AV → Tm → Hp → Prop} (h : eop P dst op T G k) : eop P dst op T G fun v T' G' => SameE T T' ∧ k v T' G' := by
  unfold eop at h ⊢
  split at h
  · obtain ⟨h1, h2, h3, h4, h5, h6⟩ := h
    refine ⟨h1, h2, h3, h4, h5, ?_⟩
    split at h6
    · rename_i T' G' heq
      refine ⟨?_, h6⟩
      unfold memSt at heq
      split at heq
      · split at heq
        · split at heq
          · injection heq with heq; injection heq with e1 e2; exact .inl e1.symm
          · cases heq
        · cases heq
      · split at heq
        · rename_i cs hcs
          split at heq
          · injection heq with heq; injection heq with e1 e2; exact .inr ⟨_, cs, _, hcs, e1.symm⟩
          · cases heq
        · cases heq
      · cases heq
    · exact h6.elim
  · obtain ⟨h1, h2⟩ := h
    refine ⟨h1, ?_⟩
    split at h2
    · exact fun b hb => let ⟨τ, q⟩ := h2 b hb; ⟨τ, .inl rfl, q⟩
    · exact h2.elim
  · obtain ⟨h1, h2⟩ := h
    exact ⟨h1, fun b hb => let ⟨τ, q⟩ := h2 b hb; ⟨τ, .inl rfl, q⟩⟩
  · obtain ⟨h1, h2, h3, h4⟩ := h
    refine ⟨h1, h2, h3, ?_⟩
    split at h4
    · obtain ⟨h5, h6, h7⟩ := h4
      exact ⟨h5, h6, fun b hb => let ⟨τ, q⟩ := h7 b hb; ⟨τ, .inl rfl, q⟩⟩
    · exact h4.elim
  · obtain ⟨h1, h2⟩ := h
    refine ⟨h1, ?_⟩
    split at h2
    · obtain ⟨q1, q2, q3, q4, q5, q6⟩ := h2
      refine ⟨q1, q2, q3, q4, q5, ?_⟩
      split at q6
      · obtain ⟨q7, q8⟩ := q6
        exact ⟨q7, fun b hb => let ⟨τ, q⟩ := q8 b hb; ⟨τ, .inl rfl, q⟩⟩
      · exact q6.elim
    · exact h2.elim
  · split at h
    · split at h
      · obtain ⟨h1, h2, h3⟩ := h
        exact ⟨h1, h2, h3.mono fun r G' q => ⟨.inl rfl, q⟩⟩
      · exact h.elim
    · obtain ⟨h1, h2⟩ := h
      exact ⟨h1, aappB_mono (fun v G q => ⟨.inl rfl, q⟩) h2⟩
    · exact h.elim
  · exact h.elim

theorem noloc_updO {T : Tm} {d : Nat} {dst : Option Nat} {v : AV} (hn : NoLoc d T) (hv : ∀ off, v ≠ .loc d off) (hd : dst ≠ some d ∨ ∀ cs, v ≠ .box cs) : NoLoc d (updO T dst v) := by
  cases dst with
  | none => exact hn
  | some e' =>
    refine ⟨fun y off e => ?_, fun cs e => ?_⟩
    · simp only [updO, upd] at e
      split at e
      · exact hv off e
      · exact hn.1 y off e
    · simp only [updO, upd] at e
      split at e
      · rename_i he
        rcases hd with hd | hd
        · exact hd (by rw [he])
        · exact hd cs e
      · exact hn.2 cs e

theorem plain_noloc {v : AV} (h : v.plain = true) (d off : Nat) : v ≠ .loc d off := by rintro rfl; simp [AV.plain] at h

theorem plain_nobox {v : AV} (h : v.plain = true) (cs : List AV) : v ≠ .box cs := by rintro rfl; simp [AV.plain] at h

theorem pv_noloc {P : Program} {c : CO} {T : Tm} {G : Hp} {v : AV} {d : Nat} (h : pv P c.op T G = some v) (ha : (isAddr c.op || v.plain) = true) (hn : NoLoc d T) : ∀ off, v ≠ .loc d off := by
  intro off e
  subst e
  simp only [AV.plain, Bool.or_false] at ha
  obtain ⟨x, hx, o, ho⟩ := pv_loc ha h
  exact ev_noloc hn o ho

theorem stable_upd {P : Program} {s : CO} {T : Tm} {G : Hp} {d : Nat} {u : AV} (h1 : d ∉ looks s) (h2 : s.dst ≠ some d) (hn : NoLoc d T) (h : stable P s (upd T d u) G) : stable P s T G := by
  intro hg
  obtain ⟨e, he, hp⟩ := h (by rw [gd_upd h1]; exact hg)
  have hne : e ≠ d := by rintro rfl; exact h2 he
  refine ⟨e, he, ?_⟩
  rw [pv_upd (looks_op h1) hn] at hp
  rw [hp]
  simp only [upd, if_neg hne]

theorem updO_comm {T : Tm} {d : Nat} {dst : Option Nat} {v u : AV} (h : dst ≠ some d) : updO (upd T d v) dst u = upd (updO T dst u) d v := by
  cases dst with
  | none => rfl
  | some e => exact upd_comm (fun e' => h (by rw [e']))

theorem gd_updO {T : Tm} {c : CO} {dst : Option Nat} {v : AV} (h : ∀ d, dst = some d → d ∉ looks c) : gd (updO T dst v) c.g = gd T c.g := by
  cases dst with
  | none => rfl
  | some d => exact gd_upd (h d rfl)

theorem pv_updO {P : Program} {op : Op} {T : Tm} {G : Hp} {dst : Option Nat} {v : AV} (hd : ∀ d, dst = some d → d ∉ opTmps op) (hn : ∀ d, dst = some d → NoLoc d T) : pv P op (updO T dst v) G = pv P op T G := by
  cases dst with
  | none => rfl
  | some d => exact pv_upd (hd d rfl) (hn d rfl)

theorem ev_updO {T : Tm} {dst : Option Nat} {v : AV} {op : Op} (hd : ∀ d, dst = some d → d ∉ opTmps op) : ∀ x ∈ op.operands.toList, ev (updO T dst v) x = ev T x := by
  intro x hx
  cases dst with
  | none => rfl
  | some d => exact ev_upd (opTmps_not (hd d rfl) x hx)

/-- what makes something new does so wherever it stands -/
theorem eop_fresh {P : Program} {op : Op} {T : Tm} (hf : freshOp op = true) : ∃ (C : Prop) (mk : Nat → AV) (zs : List AV), (∀ b, (mk b).plain = true) ∧
    ∀ (T' : Tm), (∀ x ∈ op.operands.toList, ev T' x = ev T x) → ∀ (dst : Option Nat) (G : Hp) (k : AV → Tm → Hp → Prop), eop P dst op T' G k ↔ C ∧ ∀ b, G b = none → ∃ _u : Unit, k (mk b) T' (setH G b (some (0, zs))) := by
  cases op <;> simp only [freshOp] at hf <;> try (cases hf; done)
  case alloc e =>
    cases hz : (ti P e).zero with
    | none => exact ⟨False, fun _ => .nil, [], fun _ => rfl, fun T' _ dst G k => by simp only [eop, hz]; simp⟩
    | some zs => exact ⟨(ti P e).ok = true, fun b => .ptr b 0, zs, fun _ => rfl, fun T' _ dst G k => by simp only [eop, hz]⟩
  case box e x =>
    refine ⟨(ev T x).known = true, fun b => .ptr b 0, (ev T x).cells, fun _ => rfl, fun T' h dst G k => ?_⟩
    have hx := h x (by simp [Op.operands])
    simp only [eop, hx]
  case buildSlice t n ps =>
    cases hk : (ti P t).kd with
    | slc e =>
      cases hz : (ti P e).zero with
      | none => exact ⟨False, fun _ => .nil, [], fun _ => rfl, fun T' _ dst G k => by simp only [eop, hk, hz]; simp⟩
      | some z => exact ⟨n = 0 ∧ ps = #[] ∧ (ti P t).ok = true ∧ (ti P e).ok = true, fun b => .ms b 0 0 (ti P e).size, [], fun _ => rfl, fun T' _ dst G k => by simp only [eop, hk, hz]; simp [and_assoc]⟩
    | _ => exact ⟨False, fun _ => .nil, [], fun _ => rfl, fun T' _ dst G k => by simp only [eop, hk]; simp⟩
  case makeSlice t l c =>
    by_cases hh : ∃ e k1 n k2 m zs, (ti P t).kd = .slc e ∧ ev T l = .int k1 n ∧ ev T c = .int k2 m ∧ (ti P e).zero = some zs
    · obtain ⟨e, k1, n, k2, m, zs, h1, h2, h3, h4⟩ := hh
      refine ⟨(ti P t).ok = true ∧ n = m ∧ 0 ≤ n ∧ (ti P e).ok = true ∧ n.toNat ≤ LIM ∧ n.toNat * (ti P e).bytes ≤ LIM ∧ zs.length = (ti P e).size, fun b => .ms b 0 n.toNat (ti P e).size, zerosA zs (n.toNat * (ti P e).size), fun _ => rfl, fun T' h dst G k => ?_⟩
      have hl := h l (by simp [Op.operands])
      have hc := h c (by simp [Op.operands])
      simp only [eop, hl, hc, h1, h2, h3, h4, and_assoc]
    · refine ⟨False, fun _ => .nil, [], fun _ => rfl, fun T' h dst G k => ?_⟩
      have hl := h l (by simp [Op.operands])
      have hc := h c (by simp [Op.operands])
      simp only [false_and, iff_false]
      intro he
      simp only [eop, hl, hc] at he
      obtain ⟨_, he⟩ := he
      split at he
      · rename_i e k1 n k2 m h1 h2 h3
        obtain ⟨_, _, _, _, _, he⟩ := he
        split at he
        · rename_i zs h4; exact hh ⟨e, k1, n, k2, m, zs, h1, h2, h3, h4⟩
        · exact he
      · exact he

/-- what `q` does at once, and the rest behind it -/
def First (P : Program) (gl : List Nat) (q : It) (S : List CO) (r : List It) (k : Tm → Hp → Prop) (T : Tm) (G : Hp) : Prop :=
  ∃ b, gd T q.c.g = some b ∧
    (b = true → if isE gl q.c.dst q.c.op then
        eop P q.c.dst q.c.op T G fun v T' G' => v.plain = true → ((∀ l ∈ S, stable P l (updO T' q.c.dst v) G') ∧ aopsD P gl r k (updO T' q.c.dst v) G')
      else oget (pv P q.c.op T G) fun v => (isAddr q.c.op || v.plain) = true ∧ aopsD P gl r k (updO T q.c.dst v) G) ∧
    (b = false → aopsD P gl r k (updO T q.c.dst (.tup [])) G)

theorem pull {P : Program} {gl : List Nat} {k : Tm → Hp → Prop} (q : It) (L2 : List It) : ∀ (L1 : List It) (S : List CO) (T : Tm) (G : Hp),
    (∀ p ∈ L1, sep p q ∧ ind gl p q ∧ selfok p) → L1.Pairwise far → (∀ p ∈ L1, ∀ d, p.c.dst = some d → NoLoc d T) → (∀ d, q.c.dst = some d → NoLoc d T) →
    (∀ s ∈ S, s ∈ q.ob ∧ ∀ p ∈ L1, ∀ d, p.c.dst = some d → d ∉ looks s ∧ s.dst ≠ some d) → (∃ n, ∀ b, n ≤ b → G b = none) →
    aopsD P gl (L1 ++ q :: L2) k T G → First P gl q S (L1 ++ L2) k T G := by
  intro L1
  induction L1 with
  | nil =>
    intro S T G _ _ _ _ hS _ h
    simp only [List.nil_append, aopsD] at h ⊢
    cases hg : gd T q.c.g with
    | none => rw [hg] at h; exact h.elim
    | some b =>
      rw [hg] at h
      refine ⟨b, hg, fun hb => ?_, h.2⟩
      have h1 := h.1 hb
      split
      · rename_i hE
        rw [if_pos hE] at h1
        exact eop_mono (fun v T' G' hk hp => ⟨fun s hs => (hk hp).1 s (hS s hs).1, (hk hp).2⟩) h1
      · rename_i hE
        rw [if_neg hE] at h1
        exact h1
  | cons p L1 ih =>
    intro S T G hL hpw hnl hnq hS hfin h
    obtain ⟨hsep, hind, hself⟩ := hL p (List.mem_cons_self ..)
    have hpw' := List.pairwise_cons.1 hpw
    simp only [List.cons_append, aopsD] at h
    rcases hind.2 with hE0 | ⟨hEp, htn⟩
    case inr =>
      obtain ⟨hf, hg0, hob, hqE, hqP⟩ := htn
      rw [hg0] at h
      simp only [gd] at h
      have h1 := h.1 trivial
      rw [if_pos hEp] at h1
      obtain ⟨C, mk, zs, hmk, hch⟩ := eop_fresh (P := P) (T := T) hf
      rw [hch T (fun _ _ => rfl)] at h1
      obtain ⟨hC, hb⟩ := h1
      have hqp : ∀ d, q.c.dst = some d → d ∉ looks p.c := fun d hd => (hsep d hd).1
      have hne : ∀ d, p.c.dst = some d → q.c.dst ≠ some d := fun d hd e => (hsep d e).2 hd
      have hgq : ∀ v, gd (updO T p.c.dst v) q.c.g = gd T q.c.g := fun v => gd_updO hind.1
      have comm : ∀ v u, updO (updO T p.c.dst v) q.c.dst u = updO (updO T q.c.dst u) p.c.dst v := by
        intro v u
        cases hd : p.c.dst with
        | none => rfl
        | some d => exact updO_comm (hne d hd)
      have hgT : ∀ u, gd (updO T q.c.dst u) p.c.g = some true := by intro u; rw [hg0]; rfl
      -- behind p
      have step : ∀ b, G b = none → First P gl q S (L1 ++ L2) k (updO T p.c.dst (mk b)) (setH G b (some (0, zs))) := by
        intro b hbn
        obtain ⟨_, hk⟩ := hb b hbn
        have hnv : ∀ d, NoLoc d T → p.c.dst ≠ some d → NoLoc d (updO T p.c.dst (mk b)) := fun d hn hd => noloc_updO hn (plain_noloc (hmk b) d) (.inl hd)
        refine ih S _ _ (fun r hr => hL r (List.mem_cons_of_mem _ hr)) hpw'.2 (fun r hr d hd => hnv d (hnl r (List.mem_cons_of_mem _ hr) d hd) ((hpw'.1 r hr).1 d hd)) (fun d hd => hnv d (hnq d hd) (hsep d hd).2)
          (fun s hs => ⟨(hS s hs).1, fun r hr => (hS s hs).2 r (List.mem_cons_of_mem _ hr)⟩) ?_ (hk (hmk b)).2
        obtain ⟨n, hn⟩ := hfin
        refine ⟨max n (b + 1), fun i hi => ?_⟩
        have h2 : i ≠ b := by omega
        rw [show setH G b (some (0, zs)) i = G i by simp [setH, h2]]
        exact hn i (by omega)
      have hfr : ∃ b, G b = none := by obtain ⟨n, hn⟩ := hfin; exact ⟨n, hn n (Nat.le_refl _)⟩
      -- the list again with p at its head
      have back : ∀ (u : AV) (G' : Hp), (∀ b, G' b = none → aopsD P gl (L1 ++ L2) k (updO (updO T q.c.dst u) p.c.dst (mk b)) (setH G' b (some (0, zs)))) → aopsD P gl ((p :: L1) ++ L2) k (updO T q.c.dst u) G' := by
        intro u G' hh
        simp only [List.cons_append, aopsD, hgT]
        refine ⟨fun _ => ?_, fun e => by cases e⟩
        rw [if_pos hEp, hch (updO T q.c.dst u) (ev_updO (fun d hd => looks_op (hqp d hd)))]
        refine ⟨hC, fun b hbn => ⟨(), fun _ => ⟨fun l hl => ?_, hh b hbn⟩⟩⟩
        rw [hob] at hl; cases hl
      obtain ⟨b0, hb0⟩ := hfr
      obtain ⟨bq, hgb, _, _⟩ := step b0 hb0
      rw [hgq] at hgb
      have same : ∀ b, G b = none → ∃ hh : True, (bq = true → if isE gl q.c.dst q.c.op then
            eop P q.c.dst q.c.op (updO T p.c.dst (mk b)) (setH G b (some (0, zs))) fun v T' G' => v.plain = true → ((∀ l ∈ S, stable P l (updO T' q.c.dst v) G') ∧ aopsD P gl (L1 ++ L2) k (updO T' q.c.dst v) G')
          else oget (pv P q.c.op (updO T p.c.dst (mk b)) (setH G b (some (0, zs)))) fun v => (isAddr q.c.op || v.plain) = true ∧ aopsD P gl (L1 ++ L2) k (updO (updO T p.c.dst (mk b)) q.c.dst v) (setH G b (some (0, zs)))) ∧
          (bq = false → aopsD P gl (L1 ++ L2) k (updO (updO T p.c.dst (mk b)) q.c.dst (.tup [])) (setH G b (some (0, zs)))) := by
        intro b hbn
        obtain ⟨bq', hgb', h1, h2⟩ := step b hbn
        rw [hgq, hgb] at hgb'
        injection hgb' with e; subst e
        exact ⟨trivial, h1, h2⟩
      refine ⟨bq, hgb, fun hbt => ?_, fun hbf => ?_⟩
      · cases hEq : isE gl q.c.dst q.c.op with
        | false =>
          simp only [Bool.false_eq_true, if_false]
          have hm := hqP hEq
          have hpv : ∀ b, pv P q.c.op (updO T p.c.dst (mk b)) (setH G b (some (0, zs))) = pv P q.c.op T G := fun b => pv_congr (ev_updO (fun d hd => looks_op (hind.1 d hd))) hm
          obtain ⟨_, h1, _⟩ := same b0 hb0
          have h2 := h1 hbt
          rw [if_neg (by rw [hEq]; simp), hpv b0] at h2
          obtain ⟨v, hv, ha, _⟩ := oget_some h2
          rw [hv]
          refine ⟨ha, back v G fun b hbn => ?_⟩
          obtain ⟨_, h3, _⟩ := same b hbn
          have h4 := h3 hbt
          rw [if_neg (by rw [hEq]; simp), hpv b, hv] at h4
          rw [← comm]
          exact h4.2
        | true =>
          simp only [if_true]
          obtain ⟨hfq, hobq⟩ := hqE hEq
          obtain ⟨Cq, mkq, zq, hmkq, hchq⟩ := eop_fresh (P := P) (T := T) hfq
          have hev : ∀ b, ∀ x ∈ q.c.op.operands.toList, ev (updO T p.c.dst (mk b)) x = ev T x := fun b => ev_updO (fun d hd => looks_op (hind.1 d hd))
          rw [hchq T (fun _ _ => rfl)]
          have all : ∀ b, G b = none → Cq ∧ ∀ b2, setH G b (some (0, zs)) b2 = none → ∃ _u : Unit, (mkq b2).plain = true → ((∀ l ∈ S, stable P l (updO (updO T p.c.dst (mk b)) q.c.dst (mkq b2)) (setH (setH G b (some (0, zs))) b2 (some (0, zq)))) ∧ aopsD P gl (L1 ++ L2) k (updO (updO T p.c.dst (mk b)) q.c.dst (mkq b2)) (setH (setH G b (some (0, zs))) b2 (some (0, zq)))) := by
            intro b hbn
            obtain ⟨_, h3, _⟩ := same b hbn
            have h4 := h3 hbt
            rw [if_pos hEq, hchq _ (hev b)] at h4
            exact h4
          refine ⟨(all b0 hb0).1, fun b2 hb2 => ⟨(), fun _ => ⟨fun l hl => ?_, ?_⟩⟩⟩
          · have := (hS l hl).1; rw [hobq] at this; cases this
          · refine back (mkq b2) _ fun b hbn => ?_
            have hne2 : b ≠ b2 := by rintro rfl; simp [setH] at hbn
            have hbG : G b = none := by simpa [setH, hne2] using hbn
            have hb2' : setH G b (some (0, zs)) b2 = none := by simp [setH, hne2.symm]; exact hb2
            obtain ⟨_, h5⟩ := (all b hbG).2 b2 hb2'
            have h6 := (h5 (hmkq b2)).2
            rw [comm] at h6
            have e : setH (setH G b (some (0, zs))) b2 (some (0, zq)) = setH (setH G b2 (some (0, zq))) b (some (0, zs)) := by
              funext i; unfold setH
              by_cases i1 : i = b
              · subst i1; simp [hne2]
              · simp [i1]
            rw [e] at h6; exact h6
      · refine back _ G fun b hbn => ?_
        obtain ⟨_, _, h3⟩ := same b hbn
        rw [← comm]; exact h3 hbf
    cases hg : gd T p.c.g with
    | none => rw [hg] at h; exact h.elim
    | some bp =>
      rw [hg] at h
      have hE : isE gl p.c.dst p.c.op = false := hE0.1
      -- p's value
      have hp : ∃ vp, (bp = true → pv P p.c.op T G = some vp ∧ (isAddr p.c.op || vp.plain) = true) ∧ (bp = false → vp = .tup []) ∧ aopsD P gl (L1 ++ q :: L2) k (updO T p.c.dst vp) G := by
        cases bp with
        | true =>
          have h1 := h.1 rfl
          rw [if_neg (by rw [hE]; simp)] at h1
          obtain ⟨v, hv, ha, hk⟩ := oget_some h1
          exact ⟨v, fun _ => ⟨hv, ha⟩, (fun e => by cases e), hk⟩
        | false => exact ⟨.tup [], (fun e => by cases e), fun _ => rfl, h.2 rfl⟩
      obtain ⟨vp, hvt, hvf, hk⟩ := hp
      have hvnl : ∀ d, NoLoc d T → ∀ off, vp ≠ .loc d off := by
        intro d hn
        cases bp with
        | true => exact pv_noloc (hvt rfl).1 (hvt rfl).2 hn
        | false => rw [hvf rfl]; intro off e; cases e
      -- the list again with p at its head
      have back : ∀ (X : Tm) (G' : Hp), gd X p.c.g = some bp → (bp = true → pv P p.c.op X G' = some vp) → aopsD P gl (L1 ++ L2) k (updO X p.c.dst vp) G' → aopsD P gl ((p :: L1) ++ L2) k X G' := by
        intro X G' hgx hpx hax
        simp only [List.cons_append, aopsD, hgx]
        refine ⟨fun hb => ?_, fun hb => ?_⟩
        · rw [if_neg (by rw [hE]; simp), hpx hb]
          exact ⟨(hvt hb).2, hax⟩
        · rw [hvf hb] at hax; exact hax
      have nlT1 : ∀ r ∈ L1, ∀ d, r.c.dst = some d → NoLoc d (updO T p.c.dst vp) := by
        intro r hr d hd
        exact noloc_updO (hnl r (List.mem_cons_of_mem _ hr) d hd) (hvnl d (hnl r (List.mem_cons_of_mem _ hr) d hd)) (.inl ((hpw'.1 r hr).1 d hd))
      have nqT1 : ∀ d, q.c.dst = some d → NoLoc d (updO T p.c.dst vp) := fun d hd => noloc_updO (hnq d hd) (hvnl d (hnq d hd)) (.inl (hsep d hd).2)
      have hgq : gd (updO T p.c.dst vp) q.c.g = gd T q.c.g := gd_updO hind.1
      have hqp : ∀ d, q.c.dst = some d → d ∉ looks p.c := fun d hd => (hsep d hd).1
      have hne : ∀ d, p.c.dst = some d → q.c.dst ≠ some d := fun d hd e => (hsep d e).2 hd
      -- S, with p where it must be stable
      let S' : List CO := if memR p.c.op = true ∧ isE gl q.c.dst q.c.op = true then p.c :: S else S
      have hS' : ∀ s ∈ S', s ∈ q.ob ∧ ∀ r ∈ L1, ∀ d, r.c.dst = some d → d ∉ looks s ∧ s.dst ≠ some d := by
        intro s hs
        have old : s ∈ S → s ∈ q.ob ∧ ∀ r ∈ L1, ∀ d, r.c.dst = some d → d ∉ looks s ∧ s.dst ≠ some d := fun h => ⟨(hS s h).1, fun r hr => (hS s h).2 r (List.mem_cons_of_mem _ hr)⟩
        simp only [S'] at hs
        split at hs
        · rename_i hm
          rcases List.mem_cons.1 hs with rfl | hs
          · exact ⟨hE0.2 hm.2 hm.1, fun r hr d hd => (hpw'.1 r hr).2 hm.1 d hd⟩
          · exact old hs
        · exact old hs
      obtain ⟨b, hb, ht, hf⟩ := ih S' (updO T p.c.dst vp) G (fun r hr => hL r (List.mem_cons_of_mem _ hr)) hpw'.2 nlT1 nqT1 hS' hfin hk
      rw [hgq] at hb
      refine ⟨b, hb, fun hbt => ?_, fun hbf => ?_⟩
      · have h1 := ht hbt
        cases hEq : isE gl q.c.dst q.c.op with
        | false =>
          rw [hEq] at h1
          simp only [Bool.false_eq_true, if_false] at h1 ⊢
          obtain ⟨v, hv, ha, hr⟩ := oget_some h1
          rw [pv_updO (fun d hd => looks_op (hind.1 d hd)) (fun d hd => hnl p (List.mem_cons_self ..) d hd)] at hv
          rw [hv]
          refine ⟨ha, back _ _ ?_ ?_ ?_⟩
          · rw [gd_updO hqp]; exact hg
          · intro hbp
            rw [pv_updO (fun d hd => looks_op (hqp d hd)) hnq]
            exact (hvt hbp).1
          · cases hd : p.c.dst with
            | none => rw [hd] at hr; exact hr
            | some d =>
              rw [hd] at hr
              simp only [updO] at hr ⊢
              have := updO_comm (T := T) (v := vp) (u := v) (hne d hd)
              simp only [updO] at this
              rw [← this]; exact hr
        | true =>
          rw [hEq] at h1
          simp only [if_true] at h1 ⊢
          have main : eop P q.c.dst q.c.op T G fun v T' G' => SameE T T' ∧ (v.plain = true → ((∀ l ∈ S', stable P l (updO (updO T' p.c.dst vp) q.c.dst v) G') ∧ aopsD P gl (L1 ++ L2) k (updO (updO T' p.c.dst vp) q.c.dst v) G')) := by
            cases hd : p.c.dst with
            | none => rw [hd] at h1; exact eop_same h1
            | some d =>
              rw [hd] at h1
              exact eop_mono (fun v T' G' hh => ⟨hh.1, hh.2.2⟩) (eop_same (eop_upd (looks_op (hind.1 d hd)) (hnl p (List.mem_cons_self ..) d hd) h1))
          refine eop_mono ?_ main
          rintro v T' G' ⟨hsame, hkk⟩ hpl
          obtain ⟨hst, hr⟩ := hkk hpl
          have nlX : ∀ d, NoLoc d T → NoLoc d (updO T' q.c.dst v) := fun d hn => noloc_updO (hsame.noloc hn) (plain_noloc hpl d) (.inr (plain_nobox hpl))
          have comm : updO (updO T' p.c.dst vp) q.c.dst v = updO (updO T' q.c.dst v) p.c.dst vp := by
            cases hd : p.c.dst with
            | none => rfl
            | some d => exact updO_comm (hne d hd)
          rw [comm] at hr
          have drop : ∀ s, (∀ d, p.c.dst = some d → d ∉ looks s ∧ s.dst ≠ some d) → stable P s (updO (updO T' p.c.dst vp) q.c.dst v) G' → stable P s (updO T' q.c.dst v) G' := by
            intro s hs hh
            rw [comm] at hh
            cases hd : p.c.dst with
            | none => rw [hd] at hh; exact hh
            | some d =>
              rw [hd] at hh
              exact stable_upd (hs d hd).1 (hs d hd).2 (nlX d (hnl p (List.mem_cons_self ..) d hd)) hh
          refine ⟨fun s hs => drop s (fun d hd => (hS s hs).2 p (List.mem_cons_self ..) d hd) (hst s ?_), back _ _ ?_ ?_ hr⟩
          · simp only [S']; split
            · exact List.mem_cons_of_mem _ hs
            · exact hs
          · rw [gd_updO hqp, hsame.gd]; exact hg
          · intro hbp
            cases hm : memR p.c.op with
            | false =>
              rw [← (hvt hbp).1]
              refine pv_congr (fun x hx => ?_) hm
              rw [ev_updO (fun d hd => looks_op (hqp d hd)) x hx, hsame.ev]
            | true =>
              have hs := hst p.c (by simp only [S']; rw [if_pos ⟨hm, hEq⟩]; exact List.mem_cons_self ..)
              rw [comm] at hs
              have hgX : gd (updO (updO T' q.c.dst v) p.c.dst vp) p.c.g = some true := by
                rw [gd_updO hself, gd_updO hqp, hsame.gd, hg, hbp]
              obtain ⟨d, hd, hpd⟩ := hs hgX
              rw [pv_updO (fun d hd => looks_op (hself d hd)) (fun d hd => nlX d (hnl p (List.mem_cons_self ..) d hd))] at hpd
              rw [hpd, hd]
              simp [updO, upd]
      · have h1 := hf hbf
        refine back _ _ ?_ ?_ ?_
        · rw [gd_updO hqp]; exact hg
        · intro hbp
          rw [pv_updO (fun d hd => looks_op (hqp d hd)) hnq]
          exact (hvt hbp).1
        · cases hd : p.c.dst with
          | none => rw [hd] at h1; exact h1
          | some d =>
            rw [hd] at h1
            simp only [updO] at h1 ⊢
            have := updO_comm (T := T) (v := vp) (u := .tup []) (hne d hd)
            simp only [updO] at this
            rw [← this]; exact h1

end Go.Al

set_option linter.unusedVariables false
set_option linter.unusedSimpArgs false
namespace Go.Al
open Go

/-! ### a region that draws its order -/
def preds (ops : Array Oper) (i : Nat) : List Nat :=
  match ops[i]? with
  | some o => o.after.toList.filterMap fun e => if Region.binds .any e then some e.on else none
  | none => []

def pairB (gl : List Nat) (pr : Nat → List Nat) (anc : List Nat) (p q : It) : Bool :=
  (q.c.dst.all fun d => p.c.dst != some d) && !(pr p.i).contains q.i && p.i != q.i &&
  (!memR p.c.op || (q.c.dst.all fun d => !(looks p.c).contains d)) &&
  ((anc.getD q.i 0).testBit p.i || ((q.c.dst.all fun d => !(looks p.c).contains d) && (p.c.dst.all fun d => !(looks q.c).contains d) && ((!isE gl p.c.dst p.c.op && (!isE gl q.c.dst q.c.op || !memR p.c.op || q.oi.contains p.i)) ||
    (isE gl p.c.dst p.c.op && (freshOp p.c.op && (p.c.g.isNone && (p.ob.isEmpty && ((!isE gl q.c.dst q.c.op || (freshOp q.c.op && q.ob.isEmpty)) && (isE gl q.c.dst q.c.op || !memR q.c.op)))))))))

def allPairs (f : It → It → Bool) : List It → Bool
  | [] => true
  | p :: r => r.all (f p) && allPairs f r

def ancB (pr : Nat → List Nat) (anc : List Nat) (n : Nat) : Bool :=
  (List.range n).all fun i => (pr i).all (fun m => decide (m < i)) && anc.getD i 0 == (pr i).foldl (fun s m => s ||| (2 ^ m ||| anc.getD m 0)) 0

def mkIt (ops : Array Oper) (x : Nat × List Nat) : Option It := do
  let o ← ops[x.1]?
  let c ← co ops o
  let ob ← x.2.mapM fun j => (ops[j]?).bind (co ops)
  some ⟨x.1, c, x.2, ob⟩

def drawB (gl : List Nat) (n : Nat) (ops : Array Oper) (anc : List Nat) (L : List It) : Bool :=
  allPairs (pairB gl (preds ops) anc) L && L.all (fun p => dstOk n p.c && p.c.dst.all fun d => !(looks p.c).contains d) && (List.range ops.size).all (fun i => L.any fun p => p.i == i) && ancB (preds ops) anc ops.size

theorem foldl_bit : ∀ (l : List Nat) (anc : List Nat) (s : Nat) (j : Nat), (l.foldl (fun s m => s ||| (2 ^ m ||| anc.getD m 0)) s).testBit j = true → s.testBit j = true ∨ ∃ m ∈ l, j = m ∨ (anc.getD m 0).testBit j = true
  | [], anc, s, j, h => .inl h
  | m :: l, anc, s, j, h => by
    simp only [List.foldl_cons] at h
    rcases foldl_bit l anc _ j h with h | ⟨m', h1, h2⟩
    · rw [Nat.testBit_or, Nat.testBit_or, Bool.or_eq_true, Bool.or_eq_true] at h
      rcases h with h | h | h
      · exact .inl h
      · right
        refine ⟨m, List.mem_cons_self .., .inl ?_⟩
        rw [Nat.testBit_two_pow] at h
        simpa [eq_comm] using h
      · exact .inr ⟨m, List.mem_cons_self .., .inr h⟩
    · exact .inr ⟨m', List.mem_cons_of_mem _ h1, h2⟩

theorem allPairs_pw {f : It → It → Bool} : ∀ {L : List It}, allPairs f L = true → L.Pairwise fun p q => f p q = true
  | [], _ => .nil
  | p :: r, h => by
    simp only [allPairs, Bool.and_eq_true] at h
    exact List.pairwise_cons.2 ⟨fun q hq => List.all_eq_true.1 h.1 q hq, allPairs_pw h.2⟩

theorem mapM_mem {α β : Type} {f : α → Option β} : ∀ {l : List α} {r : List β}, l.mapM f = some r → ∀ y ∈ r, ∃ x ∈ l, f x = some y
  | [], r, h, y, hy => by simp at h; subst h; cases hy
  | x :: l, r, h, y, hy => by
    simp only [List.mapM_cons, Option.bind_eq_bind, Option.bind_eq_some_iff] at h
    obtain ⟨z, hz, r', hr, h⟩ := h
    simp only [Option.pure_def, Option.some.injEq] at h; subst h
    rcases List.mem_cons.1 hy with rfl | hy
    · exact ⟨x, List.mem_cons_self .., hz⟩
    · obtain ⟨x', h1, h2⟩ := mapM_mem hr y hy
      exact ⟨x', List.mem_cons_of_mem _ h1, h2⟩

theorem mapM_img {α β : Type} {f : α → Option β} : ∀ {l : List α} {r : List β}, l.mapM f = some r → ∀ x ∈ l, ∃ y ∈ r, f x = some y
  | [], r, h, x, hx => by cases hx
  | z :: l, r, h, x, hx => by
    simp only [List.mapM_cons, Option.bind_eq_bind, Option.bind_eq_some_iff] at h
    obtain ⟨y, hy, r', hr, h⟩ := h
    simp only [Option.pure_def, Option.some.injEq] at h; subst h
    rcases List.mem_cons.1 hx with rfl | hx
    · exact ⟨y, List.mem_cons_self .., hy⟩
    · obtain ⟨y', h1, h2⟩ := mapM_img hr x hx
      exact ⟨y', List.mem_cons_of_mem _ h1, h2⟩

/-- what is known of an item -/
def ItOk (ops : Array Oper) (p : It) : Prop := ∃ o, ops[p.i]? = some o ∧ co ops o = some p.c ∧ ∀ j ∈ p.oi, ∀ o', ops[j]? = some o' → ∀ c', co ops o' = some c' → c' ∈ p.ob

theorem mkIt_ok {ops : Array Oper} {x : Nat × List Nat} {p : It} (h : mkIt ops x = some p) : ItOk ops p := by
  unfold mkIt at h
  simp only [Option.bind_eq_bind, Option.bind_eq_some_iff] at h
  obtain ⟨o, ho, c, hc, ob, hob, h⟩ := h
  simp only [Option.some.injEq] at h; subst h
  refine ⟨o, ho, hc, fun j hj o' ho' c' hc' => ?_⟩
  obtain ⟨y, hy, he⟩ := mapM_img hob j hj
  rw [ho'] at he
  simp only [Option.bind_some, hc', Option.some.injEq] at he
  subst he; exact hy

section
variable {P : Program} {gl : List Nat} {E : En} {ops : Array Oper} {anc : List Nat} {Q : Exit → Act → World → Prop} {k : Tm → Hp → Prop}

theorem kill_noloc {T : Tm} {d : Nat} (h : NoLoc d T) : kill d T = T := by
  funext i
  unfold kill killv
  split
  · rename_i t off he
    split
    · rename_i e; subst e; exact absurd he (h.1 i off)
    · exact he.symm
  · rfl

theorem putT_updO {T : Tm} {dst : Option Nat} {v : AV} (h : ∀ d, dst = some d → NoLoc d T) : putT T dst v = updO T dst v := by
  cases dst with
  | none => rfl
  | some d =>
    unfold putT updO
    cases v <;> first | rfl | (simp only [kill_noloc (h d rfl)])

theorem draw_any (hanc : ancB (preds ops) anc ops.size = true) (hQ : ∀ T G a w, Rel E T G a w → k T G → Q .normal a w) :
    ∀ (fuel : Nat) (L : List It) (listed : Array Bool) (T : Tm) (G : Hp) (a : Act) (w : World),
      L.length ≤ fuel → listed.size = ops.size →
      (∀ p ∈ L, ItOk ops p ∧ p.i < ops.size ∧ dstOk E.n p.c = true ∧ selfok p) →
      (L.Pairwise fun p q => far p q ∧ q.i ∉ preds ops p.i ∧ p.i ≠ q.i ∧ ((anc.getD q.i 0).testBit p.i = true ∨ (sep p q ∧ ind gl p q))) →
      (∀ i, i < ops.size → (listed.getD i true = false ↔ ∃ p ∈ L, p.i = i)) →
      (∀ m, m < ops.size → listed.getD m true = true → ∀ j ∈ preds ops m, listed.getD j true = true) →
      (∀ p ∈ L, ∀ d, p.c.dst = some d → NoLoc d T) →
      Rel E T G a w → aopsD P gl L k T G → wpAny P .any ops Q fuel listed a w := by
  have hpl : ∀ i, i < ops.size → ∀ m ∈ preds ops i, m < i := by
    intro i hi m hm
    have := List.all_eq_true.1 hanc i (List.mem_range.2 hi)
    simp only [Bool.and_eq_true] at this
    simpa using List.all_eq_true.1 this.1 m hm
  have hbit : ∀ i, i < ops.size → ∀ j, (anc.getD i 0).testBit j = true → ∃ m ∈ preds ops i, j = m ∨ (anc.getD m 0).testBit j = true := by
    intro i hi j hj
    have := List.all_eq_true.1 hanc i (List.mem_range.2 hi)
    simp only [Bool.and_eq_true, beq_iff_eq] at this
    rw [this.2] at hj
    rcases foldl_bit _ _ _ _ hj with h | h
    · simp at h
    · exact h
  intro fuel
  induction fuel with
  | zero =>
    intro L listed T G a w hlen hls hL hpw hli hdc hnl R ha
    have : L = [] := List.eq_nil_of_length_eq_zero (by omega)
    subst this
    simp only [wpAny]
    refine ⟨?_, hQ _ _ _ _ R ha⟩
    unfold Region.ready
    rw [List.filter_eq_nil_iff]
    intro i hi
    have hi' := List.mem_range.1 hi
    cases hg : listed.getD i true with
    | true => simp
    | false => obtain ⟨p, hp, _⟩ := (hli i hi').1 hg; cases hp
  | succ fuel ih =>
    intro L listed T G a w hlen hls hL hpw hli hdc hnl R ha
    simp only [wpAny]
    have hready : ∀ i, i ∈ Region.ready .any ops listed ↔ i < ops.size ∧ listed.getD i true = false ∧ ∃ o, ops[i]? = some o ∧ ∀ e ∈ o.after.toList, Region.binds .any e = true → listed.getD e.on false = true := by
      intro i
      unfold Region.ready
      simp only [List.mem_filter, List.mem_range, Bool.and_eq_true, Bool.not_eq_true']
      constructor
      · rintro ⟨h1, h2, h3⟩
        refine ⟨h1, h2, ?_⟩
        cases ho : ops[i]? with
        | none => rw [ho] at h3; simp at h3
        | some o =>
          rw [ho] at h3
          simp only [Option.map_some, Option.getD_some] at h3
          refine ⟨o, rfl, fun e he hb => ?_⟩
          have := Array.all_eq_true'.1 h3 e (by simpa using he)
          simpa [hb] using this
      · rintro ⟨h1, h2, o, ho, h3⟩
        refine ⟨h1, h2, ?_⟩
        rw [ho]
        simp only [Option.map_some, Option.getD_some]
        refine Array.all_eq_true'.2 fun e he => ?_
        cases hb : Region.binds .any e with
        | false => simp
        | true => simpa using h3 e (by simpa using he) hb
    have hpreds : ∀ i o, ops[i]? = some o → ∀ j, j ∈ preds ops i ↔ ∃ e ∈ o.after.toList, Region.binds .any e = true ∧ e.on = j := by
      intro i o ho j
      unfold preds
      rw [ho]
      simp only [List.mem_filterMap]
      constructor
      · rintro ⟨e, he, h⟩
        split at h
        · rename_i hb; injection h with h; exact ⟨e, he, hb, h⟩
        · cases h
      · rintro ⟨e, he, hb, rfl⟩
        exact ⟨e, he, by rw [if_pos hb]⟩
    have gd2 : ∀ j, j < ops.size → listed.getD j false = listed.getD j true := by
      intro j hj
      simp [Array.getD_eq_getD_getElem?, Array.getElem?_eq_getElem (show j < listed.size by omega)]
    refine ⟨fun hempty => ?_, fun i hi => ?_⟩
    · cases L with
      | nil => exact hQ _ _ _ _ R ha
      | cons q L' =>
        exfalso
        obtain ⟨⟨o, ho, _⟩, hqs, _⟩ := hL q (List.mem_cons_self ..)
        have : q.i ∈ Region.ready .any ops listed := by
          rw [hready]
          refine ⟨hqs, (hli q.i hqs).2 ⟨q, List.mem_cons_self .., rfl⟩, o, ho, fun e he hb => ?_⟩
          have hep : e.on ∈ preds ops q.i := (hpreds q.i o ho e.on).2 ⟨e, he, hb, rfl⟩
          have hlt := hpl q.i hqs e.on hep
          rw [gd2 e.on (by omega)]
          cases hg : listed.getD e.on true with
          | true => rfl
          | false =>
            obtain ⟨p, hp, hpi⟩ := (hli e.on (by omega)).1 hg
            rcases List.mem_cons.1 hp with rfl | hp
            · omega
            · have := (List.pairwise_cons.1 hpw).1 p hp
              rw [hpi] at this
              exact absurd hep this.2.1
        rw [hempty] at this; cases this
    · rw [hready] at hi
      obtain ⟨hi1, hi2, o, ho, hi3⟩ := hi
      obtain ⟨q, hq, hqi⟩ := (hli i hi1).1 hi2
      subst hqi
      obtain ⟨L1, L2, rfl⟩ := List.append_of_mem hq
      obtain ⟨⟨o', ho', hco, hobs⟩, _, hdst, hself⟩ := hL q hq
      rw [ho] at ho'; injection ho' with ho'; subst ho'
      -- whatever an ancestor is, it is listed
      have anclist : ∀ m, m < ops.size → listed.getD m true = true → ∀ j, (anc.getD m 0).testBit j = true → listed.getD j true = true := by
        intro m
        induction m using Nat.strongRecOn with
        | _ m ihm =>
          intro hm hlm j hj
          obtain ⟨m', hm', h⟩ := hbit m hm j hj
          have hlm' := hdc m hm hlm m' hm'
          rcases h with rfl | h
          · exact hlm'
          · have hlt := hpl m hm m' hm'
            exact ihm m' hlt (by omega) hlm' j h
      have hpq : ∀ p ∈ L1, sep p q ∧ ind gl p q ∧ selfok p := by
        intro p hp
        have hpm : p ∈ L1 ++ q :: L2 := List.mem_append.2 (.inl hp)
        have := (List.pairwise_append.1 hpw).2.2 p hp q (List.mem_cons_self ..)
        suffices h : sep p q ∧ ind gl p q from ⟨h.1, h.2, (hL p hpm).2.2.2⟩
        rcases this.2.2.2 with h | h
        · exfalso
          obtain ⟨m, hm, hj⟩ := hbit q.i hi1 p.i h
          obtain ⟨e, he, hb, rfl⟩ := (hpreds q.i o ho m).1 hm
          have hlt := hpl q.i hi1 e.on hm
          have hl := hi3 e he hb
          rw [gd2 e.on (by omega)] at hl
          have hlp : listed.getD p.i true = false := (hli p.i (hL p hpm).2.1).2 ⟨p, hpm, rfl⟩
          rcases hj with hj | hj
          · rw [hj, hl] at hlp; cases hlp
          · rw [anclist e.on (by omega) hl p.i hj] at hlp; cases hlp
        · exact h
      have hfirst := pull q L2 L1 [] T G hpq ((List.pairwise_append.1 hpw).1.imp fun h => h.1) (fun p hp => hnl p (List.mem_append.2 (.inl hp))) (hnl q hq) (fun s hs => by cases hs) ⟨w.heap.size, fun b hb => (by
        cases hg : G b with
        | none => rfl
        | some o => have := (R.gr b o.1 o.2 hg).2.1; omega)⟩ ha
      -- the rest
      have rest : ∀ (v : AV) (T' : Tm) (G' : Hp) (a' : Act) (w' : World), SameE T T' → (∀ p ∈ L1 ++ L2, ∀ d, p.c.dst = some d → (∀ off, v ≠ .loc d off) ∧ (q.c.dst ≠ some d ∨ ∀ cs, v ≠ .box cs)) → Rel E (updO T' q.c.dst v) G' a' w' → aopsD P gl (L1 ++ L2) k (updO T' q.c.dst v) G' →
          wpAny P .any ops Q fuel (listed.setIfInBounds q.i true) a' w' := by
        intro v T' G' a' w' hsame hv R' ha'
        have hmem : ∀ p, p ∈ L1 ++ L2 → p ∈ L1 ++ q :: L2 := by
          intro p hp
          rcases List.mem_append.1 hp with h | h
          · exact List.mem_append.2 (.inl h)
          · exact List.mem_append.2 (.inr (List.mem_cons_of_mem _ h))
        have hpw2 := List.pairwise_append.1 hpw
        have hgs : ∀ j, (listed.setIfInBounds q.i true).getD j true = if j = q.i then true else listed.getD j true := by
          intro j
          simp only [Array.getD_eq_getD_getElem?, Array.getElem?_setIfInBounds]
          by_cases hj : q.i = j
          · subst hj; simp [show q.i < listed.size by omega]
          · simp [hj, Ne.symm hj]
        refine ih (L1 ++ L2) _ _ G' a' w' (by simp at hlen ⊢; omega) (by simpa using hls) (fun p hp => hL p (hmem p hp)) ?_ ?_ ?_ ?_ R' ha'
        · refine List.pairwise_append.2 ⟨hpw2.1, (List.pairwise_cons.1 hpw2.2.1).2, fun p hp r hr => hpw2.2.2 p hp r (List.mem_cons_of_mem _ hr)⟩
        · intro j hj
          rw [hgs]
          by_cases hjq : j = q.i
          · rw [if_pos hjq]
            constructor
            · intro h; cases h
            · rintro ⟨p, hp, hpi⟩
              exfalso
              subst hjq
              rcases List.mem_append.1 hp with h | h
              · exact (hpw2.2.2 p h q (List.mem_cons_self ..)).2.2.1 hpi
              · exact ((List.pairwise_cons.1 hpw2.2.1).1 p h).2.2.1 hpi.symm
          · rw [if_neg hjq, hli j hj]
            constructor
            · rintro ⟨p, hp, hpi⟩
              refine ⟨p, ?_, hpi⟩
              rcases List.mem_append.1 hp with h | h
              · exact List.mem_append.2 (.inl h)
              · rcases List.mem_cons.1 h with rfl | h
                · exact absurd hpi.symm hjq
                · exact List.mem_append.2 (.inr h)
            · rintro ⟨p, hp, hpi⟩
              exact ⟨p, hmem p hp, hpi⟩
        · intro m hm hlm j hj
          rw [hgs] at hlm ⊢
          split
          · rfl
          · rename_i hjq
            by_cases hmq : m = q.i
            · subst hmq
              obtain ⟨e, he, hb, rfl⟩ := (hpreds q.i o ho j).1 hj
              have hlt := hpl q.i hi1 e.on hj
              rw [← gd2 e.on (by omega)]
              exact hi3 e he hb
            · rw [if_neg hmq] at hlm
              exact hdc m hm hlm j hj
        · intro p hp d hd
          exact noloc_updO (hsame.noloc (hnl p (hmem p hp) d hd)) (hv p hp d hd).1 (hv p hp d hd).2
      obtain ⟨b, hb, ht, hf⟩ := hfirst
      obtain ⟨e1, e2⟩ := co_eq hco
      have hdlt := dstOk_lt hdst
      have hdlt' : ∀ d, o.dst = some d → d < E.n := fun d h => hdlt d (e1.trans h)
      have hw := gd_sound R hco hb
      unfold wpOp
      rw [ho]
      simp only
      cases b with
      | false =>
        rw [if_neg (by rw [hw]; simp)]
        have h1 := hf rfl
        refine rest (.tup []) T G _ _ (.inl rfl) (fun _ _ _ _ => ⟨(fun _ e => by cases e), .inr (fun _ e => by cases e)⟩) ?_ h1
        rw [← putT_updO (hnl q hq), ← e1]
        exact R.skip hdlt
      | true =>
        rw [if_pos (by rw [hw])]
        left
        have h1 := ht rfl
        cases hE : isE gl q.c.dst q.c.op with
        | true =>
          rw [hE] at h1
          simp only [if_true] at h1
          rw [e1, e2] at h1
          refine Oper.wp_mono (fun a' w' h => ?_) (eop_sound (Q := Q) R hdlt' (eop_same h1))
          obtain ⟨v, T', G', R', hpl, hsame, hk⟩ := h
          have hk := (hk hpl).2
          have hput : putT T' o.dst v = updO T' o.dst v := putT_updO (fun d hd => hsame.noloc (hnl q hq d (e1.trans hd)))
          rw [hput] at R'
          rw [← e1] at hk R'
          exact rest v T' G' a' w' hsame (fun _ _ d _ => ⟨plain_noloc hpl d, .inr (plain_nobox hpl)⟩) R' hk
        | false =>
          rw [hE] at h1
          simp only [Bool.false_eq_true, if_false] at h1
          obtain ⟨v, hv, hap, hk⟩ := oget_some h1
          rw [e2] at hv
          have := pv_sound (Q := Q) (k := fun v' T' G' => v' = v ∧ T' = T ∧ G' = G) R hdlt' hv ⟨rfl, rfl, rfl⟩
          refine Oper.wp_mono (fun a' w' h => ?_) this
          obtain ⟨v', T', G', R', rfl, rfl, rfl⟩ := h
          have hput : putT T' o.dst v' = updO T' o.dst v' := putT_updO (fun d hd => hnl q hq d (e1.trans hd))
          rw [hput, ← e1] at R'
          refine rest v' T' G' a' w' (.inl rfl) ?_ R' hk
          intro p hp d hd
          have hpm : p ∈ L1 ++ q :: L2 := by
            rcases List.mem_append.1 hp with h | h
            · exact List.mem_append.2 (.inl h)
            · exact List.mem_append.2 (.inr (List.mem_cons_of_mem _ h))
          rw [← e2] at hv
          refine ⟨pv_noloc hv hap (hnl p hpm d hd), .inl ?_⟩
          rcases List.mem_append.1 hp with h | h
          · intro e
            exact (hpq p h).1 d e |>.2 hd
          · exact ((List.pairwise_cons.1 (List.pairwise_append.1 hpw).2.1).1 p h).1.1 d hd

theorem goes_draw {T : Tm} {G : Hp} {id : Nat} {QQ : Exit → Tm → Hp → Prop} (hm : P.follows .mixedOrders = true) {ord : List (Nat × List Nat)} {L : List It} (hL : ord.mapM (mkIt ops) = some L) (hok : drawB gl E.n ops anc L = true)
    (hlen : L.length ≤ ops.size) (hn : ∀ p ∈ L, ∀ d, p.c.dst = some d → NoLoc d T) (h : aopsD P gl L (QQ .normal) T G) : Goes P E (.region id ops true) QQ T G := by
  intro a w R
  refine wp_region_any hm ?_
  unfold drawB at hok
  simp only [Bool.and_eq_true] at hok
  obtain ⟨⟨⟨h1, h2⟩, h3⟩, h4⟩ := hok
  have hit : ∀ p ∈ L, ItOk ops p := fun p hp => by
    obtain ⟨x, _, hx⟩ := mapM_mem hL p hp
    exact mkIt_ok hx
  have hpi : ∀ p ∈ L, p.i < ops.size := fun p hp => by
    obtain ⟨o, ho, _⟩ := hit p hp
    exact (Array.getElem?_eq_some_iff.1 ho).1
  refine draw_any (E := E) (k := QQ .normal) h4 (fun T G a w R h => ⟨T, G, R, h⟩) ops.size L _ T G a _ hlen (by simp) ?_ ?_ ?_ ?_ hn R.drew h
  · intro p hp
    have := List.all_eq_true.1 h2 p hp
    simp only [Bool.and_eq_true] at this
    refine ⟨hit p hp, hpi p hp, this.1, fun d hd => ?_⟩
    have h5 := this.2
    rw [hd] at h5
    simpa using h5
  · have hpw := allPairs_pw h1
    have : L.Pairwise fun p q => (p ∈ L ∧ q ∈ L) ∧ pairB gl (preds ops) anc p q = true := by
      refine List.Pairwise.and ?_ hpw
      exact List.pairwise_of_forall_mem_list fun p hp q hq => ⟨hp, hq⟩
    refine this.imp ?_
    rintro p q ⟨⟨hp, hq⟩, hb⟩
    unfold pairB at hb
    simp only [Bool.and_eq_true, Bool.or_eq_true, Bool.not_eq_true', bne_iff_ne, ne_eq] at hb
    obtain ⟨⟨⟨⟨b1, b2⟩, b3⟩, b8⟩, b4⟩ := hb
    have hdd : ∀ d, q.c.dst = some d → p.c.dst ≠ some d := by
      intro d hd; rw [hd] at b1; simpa using b1
    refine ⟨⟨hdd, fun hm d hd => ?_⟩, ?_, b3, ?_⟩
    · rcases b8 with b8 | b8
      · rw [hm] at b8; cases b8
      · rw [hd] at b8
        exact ⟨by simpa using b8, hdd d hd⟩
    · intro hc
      have : (preds ops p.i).contains q.i = true := by simpa using hc
      rw [this] at b2; cases b2
    · rcases b4 with b4 | ⟨⟨b0, b5⟩, b9⟩
      · exact .inl b4
      · refine .inr ⟨fun d hd => ?_, fun d hd => ?_, ?_⟩
        · rw [hd] at b0
          exact ⟨by simpa using b0, hdd d hd⟩
        · rw [hd] at b5
          simpa using b5
        · rcases b9 with ⟨b6, b7⟩ | ⟨c1, c2, c3, c4, c5, c6⟩
          case inr =>
            refine .inr ⟨c1, c2, by simpa using c3, by simpa using c4, fun hE => ?_, fun hE => ?_⟩
            · rcases c5 with c5 | c5
              · rw [hE] at c5; cases c5
              · exact ⟨c5.1, by simpa using c5.2⟩
            · rcases c6 with c6 | c6
              · rw [hE] at c6; cases c6
              · exact c6
          refine .inl ⟨b6, fun hE hm => ?_⟩
          rcases b7 with (b7 | b7) | b7
          · rw [hE] at b7; cases b7
          · rw [hm] at b7; cases b7
          · obtain ⟨o, ho, hc, _⟩ := hit p hp
            obtain ⟨_, _, _, hobs⟩ := hit q hq
            exact hobs p.i (by simpa using b7) o ho p.c hc
  · intro i hi
    have h0 : (Array.replicate ops.size false).getD i true = false := by simp [Array.getD_eq_getD_getElem?, hi]
    rw [h0]
    constructor
    · intro _
      have := List.all_eq_true.1 h3 i (List.mem_range.2 hi)
      obtain ⟨p, hp, hpe⟩ := List.any_eq_true.1 this
      exact ⟨p, hp, by simpa using hpe⟩
    · intro _; rfl
  · intro m hm hl
    have h0 : (Array.replicate ops.size false).getD m true = false := by simp [Array.getD_eq_getD_getElem?, hm]
    rw [h0] at hl; cases hl

end

end Go.Al

set_option linter.unusedVariables false
set_option linter.unusedSimpArgs false
namespace Go.Al
open Go

/-! ### code, with what the logic looks at -/
inductive CC where
  | skip | ret
  | reg (l : List CO) (live : List Nat)
  | drw (l : List It) (ds : List Nat) (live : List Nat)
  | seq (a b : CC)
  | cond (c : Operand) (a b : CC)
  | block (id : Nat) (a : CC)
  | loop (a : CC)
  | exit (id : Nat)
  | fz

/-- what is known of a region beside its text: the slots that live on, its operations' ancestors, an order -/
structure RI where
  live : List Nat
  anc : List Nat := []
  ord : List (Nat × List Nat) := []

def dsts (L : List It) : List Nat := L.filterMap fun p => p.c.dst

def toCC (gl : List Nat) (n : Nat) (inf : Nat → RI) : Code → Option CC
  | .skip => some .skip
  | .ret => some .ret
  | .exit id => some (.exit id)
  | .region id ops false => match ops.toList.mapM (co ops) with
    | some l => if l.all (dstOk n) then some (if (inf id).ord.isEmpty then .reg l (inf id).live else .seq (.reg l (inf id).live) .fz) else none
    | none => none
  | .region id ops true => match (inf id).ord.mapM (mkIt ops) with
    | some L => if drawB gl n ops (inf id).anc L && decide (L.length ≤ ops.size) then some (.drw L (dsts L) (inf id).live) else none
    | none => none
  | .seq a b => match toCC gl n inf a, toCC gl n inf b with
    | some x, some y => some (.seq x y)
    | _, _ => none
  | .cond c a b => match toCC gl n inf a, toCC gl n inf b with
    | some x, some y => some (.cond c x y)
    | _, _ => none
  | .block id a => (toCC gl n inf a).map (.block id)
  | .loop a => (toCC gl n inf a).map .loop
  | _ => none

def ofL : List (Nat × AV) → Tm
  | [], _ => .any
  | (j, v) :: r, i => if i = j then v else ofL r i

def prune (live : List Nat) (T : Tm) : Tm := ofL (live.map fun i => (i, T i))

def killvs (ds : List Nat) : AV → AV
  | .loc t off => if ds.contains t then .any else .loc t off
  | v => v

def unbox : AV → AV
  | .box _ => .any
  | v => v

def kills (ds : List Nat) (T : Tm) : Tm := fun i => if ds.contains i then unbox (killvs ds (T i)) else killvs ds (T i)

/-- a region's end -/
def PK (Q : Exit → Tm → Hp → Prop) (live : List Nat) (T : Tm) (G : Hp) : Prop := Q .normal (prune live T) G


/-- ghost steps within a function: owned slices in slots are frozen -/
inductive FS : Tm → Hp → Tm → Hp → Prop where
  | refl (T : Tm) (G : Hp) : FS T G T G
  | step (T : Tm) (G : Hp) (i : Nat) (y : AV) (G1 : Hp) (T2 : Tm) (G2 : Hp) : (get T i).plain = true → sub G1 G → Frz G G1 (get T i) y → FS (upd T i y) G1 T2 G2 → FS T G T2 G2

theorem Frz.nobox {G G' : Hp} {x y : AV} (h : Frz G G' x y) (hx : x.plain = true) : (∀ cs, y ≠ .box cs) ∧ ∀ t off, y ≠ .loc t off := by
  cases h with
  | refl => refine ⟨fun cs e => ?_, fun t off e => ?_⟩ <;> (subst e; cases hx)
  | _ => exact ⟨fun cs e => (by cases e), fun t off e => (by cases e)⟩

theorem SlotR_plain {w : World} {O : Nat → Prop} {T : Tm} {tm : Array Value} {x : AV} {v : Value} (hx : x.plain = true) (h : SlotR w O T tm x v) : VR w O x v := by
  cases x <;> first | exact h | cases hx
theorem SlotR_of {w : World} {O : Nat → Prop} {T : Tm} {tm : Array Value} {x : AV} {v : Value} (hx : (∀ cs, x ≠ .box cs) ∧ ∀ t off, x ≠ .loc t off) (h : VR w O x v) : SlotR w O T tm x v := by
  cases x <;> first | exact h | exact absurd rfl (hx.1 _) | exact absurd rfl (hx.2 _ _)

theorem Rel.frz {E : En} {T : Tm} {G G' : Hp} {a : Act} {w : World} {i : Nat} {y : AV} (R : Rel E T G a w) (hp : (get T i).plain = true) (hs : sub G' G) (hz : Frz G G' (get T i) y) : Rel E (upd T i y) G' a w := by
  have hy := hz.nobox hp
  have hn : ∀ b, G b = none → G' b = none := by
    intro b hb
    cases hq : G' b with
    | none => rfl
    | some o => rw [hs b o hq] at hb; cases hb
  have ho : ∀ b, G' b ≠ none → G b ≠ none := fun b hb h => hb (hn b h)
  have box : ∀ t cs, get (upd T i y) t = .box cs → get T t = .box cs := by
    intro t cs e
    by_cases h : t = i
    · subst h
      rw [show get (upd T t y) t = y by simp [get, upd]] at e
      exact absurd e (hy.1 cs)
    · rwa [show get (upd T i y) t = get T t by simp [get, upd, h]] at e
  have sO : ∀ b, Own E.X G' (upd T i y) a.tmps b → Own E.X G T a.tmps b := by
    intro b hb
    rcases hb with hb | hb | ⟨t, cs, h1, h2⟩
    · exact .inl hb
    · exact .inr (.inl (ho b hb))
    · exact .inr (.inr ⟨t, cs, box t cs h1, h2⟩)
  have S : Stab w (Own E.X G T a.tmps) w (Own E.X G' (upd T i y) a.tmps) := Stab.sub sO
  refine ⟨R.defers, R.size, R.xb, ?_, ?_, ?_, ?_, ?_⟩
  · exact ⟨R.tr.os, R.tr.tape, R.tr.output, R.tr.size, fun b hb h0 => ⟨(R.tr.blk b hb h0).1, hn b (R.tr.blk b hb h0).2⟩, R.tr.shape⟩
  · intro b τ cs hb
    obtain ⟨h1, h2, c, ty, vs, rest, h3, h4, h5⟩ := R.gr b τ cs (hs b _ hb)
    exact ⟨h1, h2, c, ty, vs, rest, h3, h4, VRs_stab S _ _ h5⟩
  · intro t cs ht
    obtain ⟨b, h4, h5, h6, h7, c, ty, h8, h9⟩ := R.bx t cs (box t cs ht)
    exact ⟨b, h4, h5, h6, hn b h7, c, ty, h8, VRs_stab S _ _ h9⟩
  · intro t t' cs cs' hne h1 h2
    exact R.inj t t' cs cs' hne (box t cs h1) (box t' cs' h2)
  · intro j
    by_cases h : j = i
    · subst h
      rw [show get (upd T j y) j = y by simp [get, upd]]
      refine SlotR_of hy ?_
      have hv := SlotR_plain hp (R.slot j)
      have hnb : ∀ b o, G b = some o → ¬ Bx T a.tmps b := by
        rintro b o hb ⟨t, cs, h1, h2⟩
        obtain ⟨b', h4, _, _, h7, _⟩ := R.bx t cs h1
        rw [h4] at h2
        injection h2 with h2; injection h2 with h2; injection h2 with h2
        subst h2
        rw [h7] at hb; cases hb
      have hg : GR w (fun b => (E.X b ∨ Bx T a.tmps b) ∨ G b ≠ none) (fun b => E.X b ∨ Bx T a.tmps b) G := by
        intro b τ cs hb
        obtain ⟨h1, h2, c, ty, vs, rest, h3, h4, h5⟩ := R.gr b τ cs hb
        refine ⟨fun h => h.elim h1 (hnb b _ hb), h2, c, ty, vs, rest, h3, h4, VRs_stab (Stab.sub ?_) _ _ h5⟩
        rintro b ((h | h) | h)
        · exact .inl h
        · exact .inr (.inr h)
        · exact .inr (.inl h)
      have hv' : VR w (fun b => (E.X b ∨ Bx T a.tmps b) ∨ G b ≠ none) (get T j) (a.tmps.getD j undef) := by
        refine VR_stab (Stab.sub ?_) _ _ hv
        rintro b ((h | h) | h)
        · exact .inl h
        · exact .inr (.inr h)
        · exact .inr (.inl h)
      refine VR_stab (Stab.sub ?_) _ _ (Frz.vr hs hg hz hv')
      rintro b (h | h | ⟨t, cs, h1, h2⟩)
      · exact .inl (.inl h)
      · exact .inr h
      · exact .inl (.inr ⟨t, cs, box t cs h1, h2⟩)
    · rw [show get (upd T i y) j = get T j by simp [get, upd, h]]
      have hs := R.slot j
      generalize get T j = x at hs
      cases x with
      | loc t off =>
        obtain ⟨b, h1, h2⟩ := hs
        exact ⟨b, h1, fun cs hc => h2 cs (box t cs hc)⟩
      | box cs => trivial
      | _ => exact VR_stab S _ _ hs

theorem Rel.fs {E : En} {T T' : Tm} {G G' : Hp} (h : FS T G T' G') : ∀ {a : Act} {w : World}, Rel E T G a w → Rel E T' G' a w := by
  induction h with
  | refl => exact fun R => R
  | step T G i y G1 T2 G2 h1 h2 h3 _ ih => exact fun R => ih (R.frz h1 h2 h3)

def awp (P : Program) (gl : List Nat) : CC → (Exit → Tm → Hp → Prop) → Tm → Hp → Prop
  | .skip, Q, T, G => Q .normal T G
  | .ret, Q, T, G => Q .ret T G
  | .exit id, Q, T, G => Q (.exit id) T G
  | .fz, Q, T, G => ∃ T' G', FS T G T' G' ∧ Q .normal T' G'
  | .reg l live, Q, T, G => aops P gl l (PK Q live) T G
  | .drw L ds live, Q, T, G => aopsD P gl L (PK Q live) (kills ds T) G
  | .seq a b, Q, T, G => awp P gl a (thn (awp P gl b Q) Q) T G
  | .cond c a b, Q, T, G => match ev T c with
    | .bool t => (t = true → awp P gl a Q T G) ∧ (t = false → awp P gl b Q T G)
    | _ => False
  | .block id a, Q, T, G => awp P gl a (inB id Q) T G
  | .loop a, Q, T, G => ∃ (I : Nat → Tm → Hp → Prop) (n : Nat), I n T G ∧ ∀ n T G, I n T G → awp P gl a (thn (fun T' G' => ∃ m, m < n ∧ I m T' G') Q) T G

theorem Rel.forget {E : En} {T T' : Tm} {G : Hp} {a : Act} {w : World} (R : Rel E T G a w) (h : ∀ i, T' i = T i ∨ T' i = .any) : Rel E T' G a w := by
  have box : ∀ t cs, get T' t = .box cs → get T t = .box cs := by
    intro t cs e
    rcases h t with h | h
    · exact (show T t = .box cs from h.symm.trans e)
    · rw [show get T' t = _ from h] at e; cases e
  have S : Stab w (Own E.X G T a.tmps) w (Own E.X G T' a.tmps) := Stab.sub fun b hb => by
    rcases hb with hb | hb | ⟨t, cs, h1, h2⟩
    · exact .inl hb
    · exact .inr (.inl hb)
    · exact .inr (.inr ⟨t, cs, box t cs h1, h2⟩)
  refine ⟨R.defers, R.size, R.xb, R.tr, ?_, ?_, ?_, ?_⟩
  · intro b τ cs hb
    obtain ⟨h1, h2, c, ty, vs, rest, h3, h4, h5⟩ := R.gr b τ cs hb
    exact ⟨h1, h2, c, ty, vs, rest, h3, h4, VRs_stab S _ _ h5⟩
  · intro t cs ht
    obtain ⟨b, h4, h5, h6, h7, c, ty, h8, h9⟩ := R.bx t cs (box t cs ht)
    exact ⟨b, h4, h5, h6, h7, c, ty, h8, VRs_stab S _ _ h9⟩
  · intro t t' cs cs' hne h1 h2
    exact R.inj t t' cs cs' hne (box t cs h1) (box t' cs' h2)
  · intro i
    rcases h i with hi | hi
    · have hs := R.slot i
      rw [show get T' i = get T i from hi]
      generalize get T i = x at hs
      cases x with
      | loc t off =>
        obtain ⟨b, h1, h2⟩ := hs
        exact ⟨b, h1, fun cs hc => h2 cs (box t cs hc)⟩
      | box cs => trivial
      | _ => exact VR_stab S _ _ hs
    · rw [show get T' i = _ from hi]
      simp only [SlotR, VR]

theorem ofL_map (live : List Nat) (T : Tm) (i : Nat) : prune live T i = T i ∨ prune live T i = .any := by
  unfold prune
  induction live with
  | nil => exact .inr rfl
  | cons j r ih =>
    simp only [List.map_cons, ofL]
    split
    · rename_i h; subst h; exact .inl rfl
    · exact ih

theorem kills_or (ds : List Nat) (T : Tm) (i : Nat) : kills ds T i = T i ∨ kills ds T i = .any := by
  unfold kills
  have h1 : killvs ds (T i) = T i ∨ killvs ds (T i) = .any := by
    unfold killvs
    split
    · rename_i t off h
      split
      · exact .inr rfl
      · exact .inl h.symm
    · exact .inl rfl
  have h2 : ∀ v, unbox v = v ∨ unbox v = .any := by
    intro v; cases v <;> first | exact .inl rfl | exact .inr rfl
  split
  · rcases h2 (killvs ds (T i)) with h | h
    · rw [h]; exact h1
    · exact .inr h
  · exact h1

theorem kills_noloc {ds : List Nat} {T : Tm} {d : Nat} (hd : d ∈ ds) : NoLoc d (kills ds T) := by
  have hc : ds.contains d = true := by simpa using hd
  have hk : ∀ v off, killvs ds v ≠ .loc d off := by
    intro v off e
    unfold killvs at e
    split at e
    · split at e
      · cases e
      · rename_i h
        injection e with e1 e2
        subst e1
        exact h hc
    · rename_i h; exact h d off e
  refine ⟨fun y off e => ?_, fun cs e => ?_⟩
  · unfold kills at e
    split at e
    · have := hk (T y) off
      generalize killvs ds (T y) = v at e this
      cases v <;> simp only [unbox] at e <;> first | exact this e | cases e
    · exact hk (T y) off e
  · unfold kills at e
    rw [if_pos hc] at e
    generalize killvs ds (T d) = v at e
    cases v <;> simp only [unbox] at e <;> cases e

theorem Goes.post {P : Program} {E : En} {c : Code} {Q Q' : Exit → Tm → Hp → Prop} {T : Tm} {G : Hp} (h : Goes P E c Q T G) (k : ∀ e T G, Q e T G → ∃ T', (∀ i, T' i = T i ∨ T' i = .any) ∧ Q' e T' G) : Goes P E c Q' T G := by
  intro a w R
  refine wp_mono (h a w R) ?_
  rintro e a' w' ⟨T', G', R', q⟩
  obtain ⟨T'', h1, h2⟩ := k _ _ _ q
  exact ⟨T'', G', R'.forget h1, h2⟩

def onlyN (k : Tm → Hp → Prop) : Exit → Tm → Hp → Prop
  | .normal, T, G => k T G
  | _, _, _ => False

theorem awp_sound {P : Program} {gl : List Nat} {E : En} (hm : P.follows .mixedOrders = true) (inf : Nat → RI) : ∀ (c : Code) (cc : CC), toCC gl E.n inf c = some cc → ∀ {Q : Exit → Tm → Hp → Prop} {T : Tm} {G : Hp}, awp P gl cc Q T G → Goes P E c Q T G := by
  intro c
  induction c with
  | skip => intro cc h Q T G ha; simp only [toCC, Option.some.injEq] at h; subst h; exact goes_skip ha
  | ret => intro cc h Q T G ha; simp only [toCC, Option.some.injEq] at h; subst h; exact goes_ret ha
  | exit id => intro cc h Q T G ha; simp only [toCC, Option.some.injEq] at h; subst h; exact goes_exit ha
  | seq a b iha ihb =>
    intro cc h Q T G ha
    simp only [toCC] at h
    split at h
    · rename_i x y hx hy
      injection h with h; subst h
      simp only [awp] at ha
      refine goes_seq ((iha x hx ha).mono ?_)
      intro e T G q
      cases e <;> first | exact ihb y hy q | exact q
    · cases h
  | cond c a b iha ihb =>
    intro cc h Q T G ha
    simp only [toCC] at h
    split at h
    · rename_i x y hx hy
      injection h with h; subst h
      simp only [awp] at ha
      split at ha
      · rename_i t ht
        exact goes_cond ht (fun e => iha x hx (ha.1 e)) (fun e => ihb y hy (ha.2 e))
      · exact ha.elim
    · cases h
  | block id a iha =>
    intro cc h Q T G ha
    simp only [toCC, Option.map_eq_some_iff] at h
    obtain ⟨x, hx, rfl⟩ := h
    exact goes_block (iha x hx ha)
  | loop a iha =>
    intro cc h Q T G ha
    simp only [toCC, Option.map_eq_some_iff] at h
    obtain ⟨x, hx, rfl⟩ := h
    obtain ⟨I, n, h0, hr⟩ := ha
    exact goes_loop I n h0 fun n T G hI => iha x hx (hr n T G hI)
  | region id ops draw =>
    intro cc h Q T G ha
    cases draw with
    | false =>
      simp only [toCC] at h
      split at h
      · rename_i l hl
        split at h
        · rename_i hd
          injection h with h
          have key : ∀ {Q' : Exit → Tm → Hp → Prop}, awp P gl (.reg l (inf id).live) Q' T G → Goes P E (.region id ops false) Q' T G := by
            intro Q' ha
            refine (goes_region (gl := gl) (Q := onlyN fun T G => Q' .normal (prune (inf id).live T) G) hl hd ha).post ?_
            intro e T G q
            cases e <;> first | exact ⟨_, ofL_map _ T, q⟩ | exact q.elim
          split at h
          · subst h; exact key ha
          · subst h
            simp only [awp] at ha
            intro a w R
            refine wp_mono (key ha a w R) ?_
            rintro e a' w' ⟨T', G', R', q⟩
            cases e with
            | normal =>
              obtain ⟨T2, G2, h1, h2⟩ := q
              exact ⟨T2, G2, Rel.fs h1 R', h2⟩
            | _ => exact ⟨T', G', R', q⟩
        · cases h
      · cases h
    | true =>
      simp only [toCC] at h
      split at h
      · rename_i L hL
        split at h
        · rename_i hd
          simp only [Bool.and_eq_true, decide_eq_true_eq] at hd
          injection h with h; subst h
          simp only [awp] at ha
          have g := goes_draw (P := P) (gl := gl) (E := E) (id := id) (QQ := onlyN fun T G => Q .normal (prune (inf id).live T) G) (T := kills (dsts L) T) (G := G) hm hL hd.1 hd.2
            (fun p hp d hpd => kills_noloc (List.mem_filterMap.2 ⟨p, hp, hpd⟩)) ha
          have g' : Goes P E (.region id ops true) Q (kills (dsts L) T) G := g.post (by
            intro e T G q
            cases e <;> first | exact ⟨_, ofL_map _ T, q⟩ | exact q.elim)
          exact fun a w R => g' a w (R.forget (kills_or _ T))
        · cases h
      · cases h
  | _ => intro cc h; simp [toCC] at h


/-! ### what is known of the lengths of what comes in -/
mutual
def BD : AV → Prop
  | .sl n cs => n ≤ LIM ∧ BDs cs
  | .ms _ _ n _ => n ≤ LIM
  | .str s => s.size ≤ LIM
  | .agg cs => BDs cs
  | .tup cs => BDs cs
  | .iptr cs => BDs cs
  | _ => True
def BDs : List AV → Prop
  | [] => True
  | x :: xs => BD x ∧ BDs xs
end

mutual
theorem VR_BD {w : World} {O : Nat → Prop} : ∀ (x : AV) (v : Value), VR w O x v → BD x
  | .sl n cs, v, h => by
    simp only [VR] at h
    obtain ⟨a, cap, _, _, h3, h4⟩ := h
    simp only [BD]
    exact ⟨h3, MR_BD cs a 0 h4⟩
  | .ms _ _ n _, v, h => by
    simp only [VR] at h
    obtain ⟨cap, _, _, h3, _⟩ := h
    simpa only [BD] using h3
  | .str s, v, h => by simp only [VR] at h; simpa only [BD] using h.2
  | .agg cs, v, h => by
    simp only [VR] at h
    obtain ⟨a, _, h2⟩ := h
    simpa only [BD] using VRs_BD cs _ h2
  | .tup cs, v, h => by
    simp only [VR] at h
    obtain ⟨a, _, h2⟩ := h
    simpa only [BD] using VRs_BD cs _ h2
  | .iptr cs, v, h => by
    simp only [VR] at h
    obtain ⟨a, _, h2⟩ := h
    simpa only [BD] using MR_BD cs a 0 h2
  | .int _ _, _, _ => by simp only [BD]
  | .bool _, _, _ => by simp only [BD]
  | .nil, _, _ => by simp only [BD]
  | .ptr _ _, _, _ => by simp only [BD]
  | .loc _ _, _, _ => by simp only [BD]
  | .nils, _, _ => by simp only [BD]
  | .fn _ _, _, _ => by simp only [BD]
  | .box _, _, _ => by simp only [BD]
  | .any, _, _ => by simp only [BD]
theorem VRs_BD {w : World} {O : Nat → Prop} : ∀ (xs : List AV) (vs : List Value), VRs w O xs vs → BDs xs
  | [], _, _ => by simp only [BDs]
  | x :: xs, _, h => by
    simp only [VRs] at h
    obtain ⟨v, vs', _, h2, h3⟩ := h
    simp only [BDs]
    exact ⟨VR_BD x v h2, VRs_BD xs vs' h3⟩
theorem MR_BD {w : World} {O : Nat → Prop} : ∀ (xs : List AV) (a : Addr) (j : Nat), MR w O xs a j → BDs xs
  | [], _, _, _ => by simp only [BDs]
  | x :: xs, a, j, h => by
    simp only [MR] at h
    obtain ⟨⟨_, _, v, _, h4⟩, h5⟩ := h
    simp only [BDs]
    exact ⟨VR_BD x v h4, MR_BD xs a (j + 1) h5⟩
end

theorem ACalls.bd {P : Program} {f : FuncId} {args : List AV} {G : Hp} {post : AV → Hp → Prop} (h : BDs args → ACalls P f args G post) : ACalls P f args G post :=
  fun X w cargs hX hG hA => h (VRs_BD _ _ hA) X w cargs hX hG hA

/-- a function's contract, out of its code -/
theorem acalls_cc {P : Program} {f : FuncId} {fn : Func} {c : Code} {cc : CC} {gl : List Nat} {inf : Nat → RI} {rs : List ResultVar} {n : Nat} {args : List AV} {G : Hp} {post : AV → Hp → Prop} (hf : P.funcs[f]? = some fn) (hb : fn.body = some c)
    (hrs : fn.results.toList = rs) (hnt : fn.ntmps = n) (hcc : toCC gl n inf c = some cc) (hm : P.follows .mixedOrders = true) (hargs : args.all AV.plain = true) (hn : args.length ≤ n)
    (h : BDs args → awp P gl cc (AEnds P rs post) (initT args) G) : ACalls P f args G post := by
  subst hrs; subst hnt
  exact ACalls.bd fun hbd => acalls_intro hf hb hargs hn fun E hE => awp_sound (E := E) hm inf c cc (by rw [hE]; exact hcc) (h hbd)

/-- results bear their bounds, too -/
theorem ACalls.post_bd {P : Program} {f : FuncId} {args : List AV} {G : Hp} {post : AV → Hp → Prop} (h : ACalls P f args G post) : ACalls P f args G fun r G' => BD r ∧ r.plain = true ∧ post r G' :=
  fun X w cargs hX hG hA => Calls.mono (h X w cargs hX hG hA) fun e w' ⟨r, cr, G', a, b, c, d, hp⟩ => ⟨r, cr, G', a, b, c, d, VR_BD r cr d, VR_plain d, hp⟩

end Go.Al

set_option linter.unusedVariables false
set_option linter.unusedSimpArgs false
namespace Go.Al
open Go

section
variable {P : Program} {gl : List Nat} {Q : Exit → Tm → Hp → Prop} {T : Tm} {G : Hp}

theorem awp_seq {a b : CC} (h : ∀ K : Tm → Hp → Prop, (∀ T G, awp P gl b Q T G → K T G) → awp P gl a (thn K Q) T G) : awp P gl (.seq a b) Q T G := h _ fun _ _ h => h

theorem awp_cond {c : Operand} {a b : CC} {t : Bool} (hc : ev T c = .bool t) (h1 : t = true → awp P gl a Q T G) (h2 : t = false → awp P gl b Q T G) : awp P gl (.cond c a b) Q T G := by
  simp only [awp, hc]; exact ⟨h1, h2⟩

theorem awp_block {id : Nat} {a : CC} (h : awp P gl a (inB id Q) T G) : awp P gl (.block id a) Q T G := h

theorem awp_loop {a : CC} (I : Nat → Tm → Hp → Prop) (n : Nat) (h0 : I n T G) (h : ∀ n T G, I n T G → awp P gl a (thn (fun T' G' => ∃ m, m < n ∧ I m T' G') Q) T G) : awp P gl (.loop a) Q T G := ⟨I, n, h0, h⟩

end

theorem gd_none (T : Tm) : gd T none = some true := nrfl rfl
theorem gd_some (T : Tm) (d : Nat) (w : Bool) : gd T (some (d, w)) = match T d with
    | .bool b => some (b == w)
    | .tup [] => some false
    | _ => none := nrfl rfl

theorem putT_none (T : Tm) (v : AV) : putT T none v = T := nrfl rfl
theorem putT_some (T : Tm) (d : Nat) (v : AV) : putT T (some d) v = match v with
    | .box cs => upd (kill d T) d (.box cs)
    | v => upd T d v := nrfl rfl

theorem upd_at (T : Tm) (d : Nat) (v : AV) (i : Nat) : upd T d v i = if i = d then v else T i := nrfl rfl
theorem ofL_nil (i : Nat) : ofL [] i = .any := nrfl rfl
theorem ofL_cons (j : Nat) (v : AV) (r : List (Nat × AV)) (i : Nat) : ofL ((j, v) :: r) i = if i = j then v else ofL r i := nrfl rfl
theorem initT_at (args : List AV) (i : Nat) : initT args i = (args[i]?).getD .any := nrfl rfl
theorem kill_at (d : Nat) (T : Tm) (i : Nat) : kill d T i = killv d (T i) := nrfl rfl
theorem kills_at (ds : List Nat) (T : Tm) (i : Nat) : kills ds T i = if ds.contains i then unbox (killvs ds (T i)) else killvs ds (T i) := nrfl rfl

theorem intBool (x y : Bool) (c : Prop) [Decidable c] : (if c then AV.bool x else AV.bool y) = AV.bool (if c then x else y) := by split <;> rfl
theorem intInt (k : IntKind) (x y : Int) (c : Prop) [Decidable c] : (if c then AV.int k x else AV.int k y) = AV.int k (if c then x else y) := by split <;> rfl

end Go.Al

set_option linter.unusedVariables false
set_option linter.unusedSimpArgs false
namespace Go.Al
open Go

/-! ### evaluation, as rules for simp -/
def bindO (o : Option AV) (k : AV → Prop) : Prop :=
  match o with
  | some v => k v
  | none => False

def gdB (o : Option Bool) (k : Bool → Prop) : Prop :=
  match o with
  | some b => k b
  | none => False

def memB (o : Option (Tm × Hp)) (k : Tm → Hp → Prop) : Prop :=
  match o with
  | some p => k p.1 p.2
  | none => False

theorem bindO_some (v : AV) (k : AV → Prop) : bindO (some v) k = k v := nrfl rfl
theorem gdB_some (b : Bool) (k : Bool → Prop) : gdB (some b) k = k b := nrfl rfl
theorem memB_some (T : Tm) (G : Hp) (k : Tm → Hp → Prop) : memB (some (T, G)) k = k T G := nrfl rfl

section
variable (P : Program) (gl : List Nat)

def VK (r : List CO) (k : Tm → Hp → Prop) (dst : Option Nat) (T : Tm) (G : Hp) (v : AV) : Prop := aops P gl r k (putT T dst v) G

def GK (dst : Option Nat) (op : Op) (r : List CO) (k : Tm → Hp → Prop) (T : Tm) (G : Hp) : Bool → Prop
  | true => match isE gl dst op with
    | true => eop P dst op T G (EK P gl r k dst)
    | false => bindO (pv P op T G) (VK P gl r k dst T G)
  | false => aops P gl r k (putT T dst (.tup [])) G

theorem GK_true (dst : Option Nat) (op : Op) (r : List CO) (k : Tm → Hp → Prop) (T : Tm) (G : Hp) : GK P gl dst op r k T G true = match isE gl dst op with
    | true => eop P dst op T G (EK P gl r k dst)
    | false => bindO (pv P op T G) (VK P gl r k dst T G) := nrfl rfl
theorem GK_false (dst : Option Nat) (op : Op) (r : List CO) (k : Tm → Hp → Prop) (T : Tm) (G : Hp) : GK P gl dst op r k T G false = aops P gl r k (putT T dst (.tup [])) G := nrfl rfl
theorem VK_app (r : List CO) (k : Tm → Hp → Prop) (dst : Option Nat) (T : Tm) (G : Hp) (v : AV) : VK P gl r k dst T G v = aops P gl r k (putT T dst v) G := nrfl rfl

theorem step_g (dst : Option Nat) (d : Nat) (b : Bool) (op : Op) (r : List CO) (k : Tm → Hp → Prop) (T : Tm) (G : Hp) : aops P gl (⟨dst, some (d, b), op⟩ :: r) k T G = gdB (gd T (some (d, b))) (GK P gl dst op r k T G) := by
  rw [aops_cons]
  cases gd T (some (d, b)) with
  | none => rfl
  | some b' => cases b' <;> rfl

theorem step_n (dst : Option Nat) (op : Op) (r : List CO) (k : Tm → Hp → Prop) (T : Tm) (G : Hp) : aops P gl (⟨dst, none, op⟩ :: r) k T G = GK P gl dst op r k T G true := nrfl rfl

/-! the drawn ones -/
def VD (q : It) (r : List It) (k : Tm → Hp → Prop) (T : Tm) (G : Hp) (v : AV) : Prop := (isAddr q.c.op || v.plain) = true ∧ aopsD P gl r k (updO T q.c.dst v) G
def ED (ob : List CO) (r : List It) (k : Tm → Hp → Prop) (dst : Option Nat) (v : AV) (T : Tm) (G : Hp) : Prop := v.plain = true → ((∀ l ∈ ob, stable P l (updO T dst v) G) ∧ aopsD P gl r k (updO T dst v) G)
def VDc (addr : Bool) (r : List It) (k : Tm → Hp → Prop) (dst : Option Nat) (T : Tm) (G : Hp) (v : AV) : Prop := (addr || v.plain) = true ∧ aopsD P gl r k (updO T dst v) G
def GD (dst : Option Nat) (op : Op) (ob : List CO) (r : List It) (k : Tm → Hp → Prop) (T : Tm) (G : Hp) : Bool → Prop
  | true => match isE gl dst op with
    | true => eop P dst op T G (ED P gl ob r k dst)
    | false => bindO (pv P op T G) (VDc P gl (isAddr op) r k dst T G)
  | false => aopsD P gl r k (updO T dst (.tup [])) G

theorem GD_true (dst : Option Nat) (op : Op) (ob : List CO) (r : List It) (k : Tm → Hp → Prop) (T : Tm) (G : Hp) : GD P gl dst op ob r k T G true = match isE gl dst op with
    | true => eop P dst op T G (ED P gl ob r k dst)
    | false => bindO (pv P op T G) (VDc P gl (isAddr op) r k dst T G) := nrfl rfl
theorem GD_false (dst : Option Nat) (op : Op) (ob : List CO) (r : List It) (k : Tm → Hp → Prop) (T : Tm) (G : Hp) : GD P gl dst op ob r k T G false = aopsD P gl r k (updO T dst (.tup [])) G := nrfl rfl
theorem VDc_app (addr : Bool) (r : List It) (k : Tm → Hp → Prop) (dst : Option Nat) (T : Tm) (G : Hp) (v : AV) : VDc P gl addr r k dst T G v = ((addr || v.plain) = true ∧ aopsD P gl r k (updO T dst v) G) := nrfl rfl
theorem ED_app (ob : List CO) (r : List It) (k : Tm → Hp → Prop) (dst : Option Nat) (v : AV) (T : Tm) (G : Hp) : ED P gl ob r k dst v T G = (v.plain = true → ((∀ l ∈ ob, stable P l (updO T dst v) G) ∧ aopsD P gl r k (updO T dst v) G)) := nrfl rfl

theorem stepD (i : Nat) (dst : Option Nat) (g : Option (Nat × Bool)) (op : Op) (oi : List Nat) (ob : List CO) (r : List It) (k : Tm → Hp → Prop) (T : Tm) (G : Hp) :
    aopsD P gl (⟨i, ⟨dst, g, op⟩, oi, ob⟩ :: r) k T G = gdB (gd T g) (GD P gl dst op ob r k T G) := by
  simp only [aopsD]
  cases gd T g with
  | none => rfl
  | some b' =>
    cases b' with
    | false => simp [gdB, GD]
    | true =>
      simp only [gdB, GD, true_implies, Bool.true_eq_false, false_implies, and_true]
      cases isE gl dst op with
      | true => rfl
      | false => simp [oget, bindO, VDc]; rfl
theorem aopsD_nil (k : Tm → Hp → Prop) (T : Tm) (G : Hp) : aopsD P gl [] k T G = k T G := nrfl rfl

theorem awp_reg (l : List CO) (live : List Nat) (Q : Exit → Tm → Hp → Prop) (T : Tm) (G : Hp) : awp P gl (.reg l live) Q T G = aops P gl l (PK Q live) T G := nrfl rfl
theorem awp_drw (L : List It) (ds live : List Nat) (Q : Exit → Tm → Hp → Prop) (T : Tm) (G : Hp) : awp P gl (.drw L ds live) Q T G = aopsD P gl L (PK Q live) (kills ds T) G := nrfl rfl
theorem awp_skip (Q : Exit → Tm → Hp → Prop) (T : Tm) (G : Hp) : awp P gl .skip Q T G = Q .normal T G := nrfl rfl
theorem awp_ret (Q : Exit → Tm → Hp → Prop) (T : Tm) (G : Hp) : awp P gl .ret Q T G = Q .ret T G := nrfl rfl
theorem awp_exit (id : Nat) (Q : Exit → Tm → Hp → Prop) (T : Tm) (G : Hp) : awp P gl (.exit id) Q T G = Q (.exit id) T G := nrfl rfl
theorem PK_app (Q : Exit → Tm → Hp → Prop) (live : List Nat) (T : Tm) (G : Hp) : PK Q live T G = Q .normal (prune live T) G := nrfl rfl
theorem thn_n (K : Tm → Hp → Prop) (Q : Exit → Tm → Hp → Prop) (T : Tm) (G : Hp) : thn K Q .normal T G = K T G := nrfl rfl
theorem thn_r (K : Tm → Hp → Prop) (Q : Exit → Tm → Hp → Prop) (T : Tm) (G : Hp) : thn K Q .ret T G = Q .ret T G := nrfl rfl
theorem thn_e (K : Tm → Hp → Prop) (Q : Exit → Tm → Hp → Prop) (T : Tm) (G : Hp) (i : Nat) : thn K Q (.exit i) T G = Q (.exit i) T G := nrfl rfl
theorem inB_n (id : Nat) (Q : Exit → Tm → Hp → Prop) (T : Tm) (G : Hp) : inB id Q .normal T G = Q .normal T G := nrfl rfl
theorem inB_r (id : Nat) (Q : Exit → Tm → Hp → Prop) (T : Tm) (G : Hp) : inB id Q .ret T G = Q .ret T G := nrfl rfl
theorem inB_e (id : Nat) (Q : Exit → Tm → Hp → Prop) (T : Tm) (G : Hp) (i : Nat) : inB id Q (.exit i) T G = if i = id then Q .normal T G else Q (.exit i) T G := nrfl rfl
end

def unb (t : Nat) (v : AV) : AV := match v with
    | .box _ => .loc t 0
    | v => v
theorem unb_plain {t : Nat} {v : AV} (h : v.plain = true) : unb t v = v := by cases v <;> first | rfl | cases h
theorem unb_box (t : Nat) (cs : List AV) : unb t (.box cs) = .loc t 0 := nrfl rfl
theorem unb_loc (t d o : Nat) : unb t (.loc d o) = .loc d o := nrfl rfl
theorem ev_tmp (T : Tm) (t : Nat) : ev T (.tmp t) = unb t (T t) := nrfl rfl
def unbx (v : AV) : Option AV := match v with
    | .box _ => none
    | v => some v
theorem unbx_plain {v : AV} (h : v.plain = true) : unbx v = some v := by cases v <;> first | rfl | cases h
theorem unbx_loc (d o : Nat) : unbx (.loc d o) = some (.loc d o) := nrfl rfl
theorem putT_plain (T : Tm) (d : Nat) {v : AV} (h : v.plain = true) : putT T (some d) v = upd T d v := by cases v <;> first | rfl | cases h
theorem putT_box (T : Tm) (d : Nat) (cs : List AV) : putT T (some d) (.box cs) = upd (kill d T) d (.box cs) := nrfl rfl
theorem putT_loc (T : Tm) (d : Nat) (e o : Nat) : putT T (some d) (.loc e o) = upd T d (.loc e o) := nrfl rfl
theorem ev_const (T : Tm) (v : Value) : ev T (.const v) = ofV v := nrfl rfl
theorem ev_func (T : Tm) (f : Nat) : ev T (.func f) = .fn f [] := nrfl rfl
theorem prune_nil (T : Tm) : prune [] T = ofL [] := nrfl rfl
def PR : List Nat → Tm → List (Nat × AV)
  | [], _ => []
  | j :: r, T => (j, T j) :: PR r T
theorem PR_nil (T : Tm) : PR [] T = [] := nrfl rfl
theorem PR_cons (j : Nat) (r : List Nat) (T : Tm) : PR (j :: r) T = (j, T j) :: PR r T := nrfl rfl
theorem prune_eq (l : List Nat) (T : Tm) : prune l T = ofL (PR l T) := by
  unfold prune
  congr 1
  induction l with
  | nil => rfl
  | cons j r ih => simp only [List.map_cons, PR, ih]

/-! ### types, field by field -/
def TI.el (i : TI) : Nat := match i.kd with
  | .slc e => e
  | _ => 0
def TI.isS (i : TI) : Bool := match i.kd with
  | .slc _ => true
  | _ => false
def TI.isP (i : TI) : Bool := match i.kd with
  | .ptr _ => true
  | _ => false
def TI.zs (i : TI) : List AV := i.zero.getD []
def TI.hasz (i : TI) : Bool := i.zero.isSome
def TI.fl (i : TI) : List (Nat × Nat) := i.flds.getD []
def TI.hasf (i : TI) : Bool := i.flds.isSome

theorem isS_kd {i : TI} (h : i.isS = true) : i.kd = .slc i.el := by
  unfold TI.isS at h; unfold TI.el
  cases hk : i.kd <;> rw [hk] at h <;> first | rfl | cases h
def TI.isA (i : TI) : Bool := match i.kd with
  | .arr _ _ => true
  | _ => false
def TI.an (i : TI) : Nat := match i.kd with
  | .arr n _ => n
  | _ => 0
def TI.ae (i : TI) : Nat := match i.kd with
  | .arr _ e => e
  | _ => 0
theorem isA_kd {i : TI} (h : i.isA = true) : i.kd = .arr i.an i.ae := by
  unfold TI.isA at h; unfold TI.an TI.ae
  cases hk : i.kd <;> rw [hk] at h <;> first | rfl | cases h
theorem isP_kd {i : TI} (h : i.isP = true) : ∃ e, i.kd = .ptr e := by
  unfold TI.isP at h
  cases hk : i.kd <;> rw [hk] at h <;> first | exact ⟨_, rfl⟩ | cases h
theorem hasz_zero {i : TI} (h : i.hasz = true) : i.zero = some i.zs := by
  unfold TI.hasz at h; unfold TI.zs
  cases hk : i.zero <;> rw [hk] at h <;> first | rfl | cases h
theorem hasf_flds {i : TI} (h : i.hasf = true) : i.flds = some i.fl := by
  unfold TI.hasf at h; unfold TI.fl
  cases hk : i.flds <;> rw [hk] at h <;> first | rfl | cases h

def KL (ds : List Nat) : List (Nat × AV) → List (Nat × AV)
  | [] => []
  | (j, v) :: r => (j, if ds.contains j then unbox (killvs ds v) else killvs ds v) :: KL ds r
theorem kills_ofL (ds : List Nat) (l : List (Nat × AV)) : kills ds (ofL l) = ofL (KL ds l) := by
  funext i
  induction l with
  | nil =>
    simp only [kills, ofL, KL]
    split <;> rfl
  | cons p r ih =>
    obtain ⟨j, v⟩ := p
    simp only [KL, ofL_cons]
    by_cases h : i = j
    · subst h
      rw [if_pos rfl]
      simp only [kills, ofL_cons, if_true]
    · rw [if_neg h, ← ih]
      simp only [kills, ofL_cons, if_neg h]
def kl1 (b : Bool) (ds : List Nat) (v : AV) : AV := if b then unbox (killvs ds v) else killvs ds v
theorem kl1_plain {b : Bool} {ds : List Nat} {v : AV} (h : v.plain = true) : kl1 b ds v = v := by
  unfold kl1
  cases v <;> first | (split <;> rfl) | cases h
theorem kl1_true (ds : List Nat) (v : AV) : kl1 true ds v = unbox (killvs ds v) := nrfl rfl
theorem kl1_false (ds : List Nat) (v : AV) : kl1 false ds v = killvs ds v := nrfl rfl
theorem KL_nil (ds : List Nat) : KL ds [] = [] := nrfl rfl
theorem KL_cons (ds : List Nat) (j : Nat) (v : AV) (r : List (Nat × AV)) : KL ds ((j, v) :: r) = (j, kl1 (ds.contains j) ds v) :: KL ds r := nrfl rfl

/-! ### effects, as one constant each -/
def FreshK (G : Hp) (zs : List AV) (mk : Nat → AV) (k : AV → Tm → Hp → Prop) (T : Tm) : Prop := ∀ b, G b = none → ∃ _u : Unit, k (mk b) T (setH G b (some (0, zs)))
def CallK (P : Program) (g : Nat) (args : List AV) (G : Hp) (k : AV → Tm → Hp → Prop) (T : Tm) : Prop := ACalls P g args G fun r G' => k r T G'
def AppK (P : Program) (t u : TypeId) (x y : AV) (G : Hp) (k : AV → Tm → Hp → Prop) (T : Tm) : Prop := aappB P [t, u] [x, y] G fun v G' => k v T G'

section
variable {P : Program}

theorem CallK.use {g : Nat} {args : List AV} {G : Hp} {k : AV → Tm → Hp → Prop} {T : Tm} {post : AV → Hp → Prop} (h : ACalls P g args G post) (hk : ∀ r G', BD r → r.plain = true → post r G' → k r T G') : CallK P g args G k T :=
  (ACalls.post_bd h).mono fun r G' ⟨h1, h2, h3⟩ => hk r G' h1 h2 h3

theorem eop_store (dst : Option Nat) (t : TypeId) (x y : Operand) (T : Tm) (G : Hp) (k : AV → Tm → Hp → Prop) : eop P dst (.store t x y) T G k =
    (dst = none ∧ (ev T y).known = true ∧ (ev T y).cells.all AV.scal = true ∧ (ti P t).ok = true ∧ (ti P t).size = (ev T y).cells.length ∧ memB (memSt T G (ev T x) (ev T y).cells) (k .any)) := by
  simp only [eop, memB]
  cases memSt T G (ev T x) (ev T y).cells <;> rfl

theorem eop_alloc (dst : Option Nat) (e : TypeId) (T : Tm) (G : Hp) (k : AV → Tm → Hp → Prop) (h : (ti P e).hasz = true) : eop P dst (.alloc e) T G k = ((ti P e).ok = true ∧ FreshK G (ti P e).zs (fun b => .ptr b 0) k T) := by
  simp only [eop, hasz_zero h, FreshK]

theorem eop_box (dst : Option Nat) (e : TypeId) (x : Operand) (T : Tm) (G : Hp) (k : AV → Tm → Hp → Prop) : eop P dst (.box e x) T G k = ((ev T x).known = true ∧ FreshK G (ev T x).cells (fun b => .ptr b 0) k T) := by
  simp only [eop, FreshK]

theorem eop_bs0 (dst : Option Nat) (t : TypeId) (T : Tm) (G : Hp) (k : AV → Tm → Hp → Prop) (h : (ti P t).isS = true) (hz : (ti P (ti P t).el).hasz = true) :
    eop P dst (.buildSlice t 0 #[]) T G k = ((ti P t).ok = true ∧ (ti P (ti P t).el).ok = true ∧ FreshK G [] (fun b => .ms b 0 0 (ti P (ti P t).el).size) k T) := by
  simp only [eop, isS_kd h, hasz_zero hz, FreshK, true_and]

/-- the length that is asked for -/
def msN (x y : AV) : Option Nat := match x, y with
  | .int _ n, .int _ m => if n = m ∧ 0 ≤ n then some n.toNat else none
  | _, _ => none
theorem msN_int {k1 k2 : IntKind} {n : Int} (h : 0 ≤ n) : msN (.int k1 n) (.int k2 n) = some n.toNat := by simp [msN, h]
def msE (P : Program) (e : TypeId) (o : Option Nat) (G : Hp) (k : AV → Tm → Hp → Prop) (T : Tm) : Prop := match o with
  | some n => n ≤ LIM ∧ n * (ti P e).bytes ≤ LIM ∧ FreshK G (zerosA (ti P e).zs (n * (ti P e).size)) (fun b => .ms b 0 n (ti P e).size) k T
  | none => False
theorem msE_some (e : TypeId) (n : Nat) (G : Hp) (k : AV → Tm → Hp → Prop) (T : Tm) : msE P e (some n) G k T = (n ≤ LIM ∧ n * (ti P e).bytes ≤ LIM ∧ FreshK G (zerosA (ti P e).zs (n * (ti P e).size)) (fun b => .ms b 0 n (ti P e).size) k T) := nrfl rfl
theorem eop_ms (dst : Option Nat) (t : TypeId) (l c : Operand) (T : Tm) (G : Hp) (k : AV → Tm → Hp → Prop) (hok : (ti P t).ok = true) (h : (ti P t).isS = true) (he : (ti P (ti P t).el).ok = true) (hz : (ti P (ti P t).el).hasz = true) (hs : (ti P (ti P t).el).zs.length = (ti P (ti P t).el).size) :
    eop P dst (.makeSlice t l c) T G k = msE P (ti P t).el (msN (ev T l) (ev T c)) G k T := by
  simp only [eop, isS_kd h, hasz_zero hz, hok, he, true_and]
  cases ev T l <;> try rfl
  cases ev T c <;> try rfl
  simp only [msN]
  rename_i k1 n k2 m
  by_cases hc : n = m ∧ 0 ≤ n
  · rw [if_pos hc]
    obtain ⟨rfl, h0⟩ := hc
    simp [msE, hs, FreshK, h0, he, hasz_zero hz]
  · rw [if_neg hc]
    simp only [msE]
    refine propext ⟨fun h => hc ⟨h.1, h.2.1⟩, fun h => h.elim⟩

theorem eop_callF (dst : Option Nat) (g : Nat) (xs : Array Operand) (ts : Array TypeId) (T : Tm) (G : Hp) (k : AV → Tm → Hp → Prop) :
    eop P dst (.call { callee := .value (.func g), args := xs, argTypes := ts }) T G k = (callable P g = true ∧ (xs.toList.map (ev T)).all AV.plain = true ∧ CallK P g (xs.toList.map (ev T)) G k T) := by
  simp only [eop, ev, CallK, List.append_nil]

theorem eop_append (dst : Option Nat) (x y : Operand) (t u : TypeId) (T : Tm) (G : Hp) (k : AV → Tm → Hp → Prop) :
    eop P dst (.call { callee := .builtin .append, args := #[x, y], argTypes := #[t, u] }) T G k = ((ev T x).plain = true ∧ (ev T y).plain = true ∧ AppK P t u (ev T x) (ev T y) G k T) := by
  simp only [eop, AppK, List.map_cons, List.map_nil, List.all_cons, List.all_nil, Bool.and_true, Bool.and_eq_true, and_assoc]

/-! ### the operations' values -/
def pickB (c x y : AV) : Option AV := match c with
  | .bool t => some (if t then x else y)
  | _ => none
theorem pickB_bool (t : Bool) (x y : AV) : pickB (.bool t) x y = some (if t then x else y) := nrfl rfl
def ldB (i : TI) (o : Option (List AV)) : Option AV := match o with
  | some cs => ldV i cs
  | none => none
theorem ldB_some (i : TI) (cs : List AV) : ldB i (some cs) = ldV i cs := nrfl rfl
def whenB (c : Bool) (o : Option AV) : Option AV := if c then o else none
theorem whenB_true (o : Option AV) : whenB true o = o := nrfl rfl
def extB (v : AV) (i : Nat) : Option AV := match v with
  | .tup vs => vs[i]?
  | _ => none
theorem extB_tup (vs : List AV) (i : Nat) : extB (.tup vs) i = vs[i]? := nrfl rfl
def nilB (v : AV) : Option AV := if nilA v then some v else none
theorem nilB_ptr (b o : Nat) : nilB (.ptr b o) = some (.ptr b o) := nrfl rfl
theorem nilB_loc (b o : Nat) : nilB (.loc b o) = some (.loc b o) := nrfl rfl
theorem nilB_iptr (cs : List AV) : nilB (.iptr cs) = some (.iptr cs) := nrfl rfl

section
variable (T : Tm) (G : Hp)
theorem pv_move (x : Operand) : pv P (.move x) T G = unbx (ev T x) := nrfl rfl
theorem pv_assign (x : Operand) : pv P (.assign x) T G = unbx (ev T x) := nrfl rfl
theorem pv_pick (c x y : Operand) : pv P (.pick c x y) T G = pickB (ev T c) (ev T x) (ev T y) := nrfl rfl
theorem pv_alloc (e : TypeId) (hok : (ti P e).ok = true) (hz : (ti P e).hasz = true) : pv P (.alloc e) T G = some (.box (ti P e).zs) := by simp only [pv, hok, hasz_zero hz, if_true, Option.map_some]
theorem pv_box (e : TypeId) (x : Operand) : pv P (.box e x) T G = whenB (ev T x).known (some (.box (ev T x).cells)) := nrfl rfl
theorem pv_load (t : TypeId) (x : Operand) : pv P (.load t x) T G = ldB (ti P t) (memLd T G (ev T x)) := nrfl rfl
theorem pv_nilCheck (x : Operand) : pv P (.nilCheck x) T G = nilB (ev T x) := nrfl rfl
theorem pv_binOp (op : BinOp) (t : TypeId) (x y : Operand) (u : TypeId) : pv P (.binOp op t x y u) T G = whenB ((ev T x).plain && (ev T y).plain) (bin P op t (ev T x) (ev T y)) := nrfl rfl
theorem pv_unOp (op : UnOp) (t : TypeId) (x : Operand) : pv P (.unOp op t x) T G = whenB (ev T x).plain (un op (ev T x)) := nrfl rfl
theorem pv_convert (s d : TypeId) (x : Operand) : pv P (.convert s d x) T G = whenB (ev T x).plain (conv P G s d (ev T x)) := nrfl rfl
theorem pv_fieldAddr (s : TypeId) (x : Operand) (f : Nat) : pv P (.fieldAddr s x f) T G = fldA P s (ev T x) f := nrfl rfl
theorem pv_field (t : TypeId) (x : Operand) (f : Nat) : pv P (.field t x f) T G = whenB (ev T x).plain (fieldA P t (ev T x) f) := nrfl rfl
theorem pv_indexAddr (t : TypeId) (x y : Operand) : pv P (.indexAddr t x y) T G = whenB (((ev T x).plain || locB (ev T x)) && (ev T y).plain) (idxA P t (ev T x) (ev T y)) := nrfl rfl
theorem pv_index (t : TypeId) (x y : Operand) : pv P (.index t x y) T G = whenB ((ev T x).plain && (ev T y).plain) (atA P t (ev T x) (ev T y)) := nrfl rfl
theorem pv_extract (x : Operand) (i : Nat) : pv P (.extract x i) T G = extB (ev T x) i := nrfl rfl
theorem pv_slice (t : TypeId) (x : Operand) (lo hi : Option Operand) : pv P (.slice t x lo hi none) T G = whenB ((ev T x).plain && (lo.all fun y => (ev T y).plain) && (hi.all fun y => (ev T y).plain)) (aslc P t (ev T x) (lo.map (ev T)) (hi.map (ev T))) := nrfl rfl
theorem pv_len (t : TypeId) (x : Operand) : pv P (.call { callee := .builtin .len, args := #[x], argTypes := #[t] }) T G = whenB ((ev T x).plain) (alen P t (ev T x)) := by simp [pv, whenB, bval]
theorem pv_max (xs : Array Operand) (ts : Array TypeId) : pv P (.call { callee := .builtin .max, args := xs, argTypes := ts }) T G = whenB ((xs.toList.map (ev T)).all AV.plain) (mm true (xs.toList.map (ev T))) := by simp [pv, whenB, bval]
theorem pv_min (xs : Array Operand) (ts : Array TypeId) : pv P (.call { callee := .builtin .min, args := xs, argTypes := ts }) T G = whenB ((xs.toList.map (ev T)).all AV.plain) (mm false (xs.toList.map (ev T))) := by simp [pv, whenB, bval]
theorem pv_build (t : TypeId) (ps : Array (Nat × Operand)) (hok : (ti P t).ok = true) (hk : (ti P t).kd = .struct) (hf : (ti P t).hasf = true) (hz : (ti P t).hasz = true) :
    pv P (.build t ps) T G = (fillA (fun i => (ti P t).fl[i]?) (ti P t).zs (ps.toList.map fun p => (p.1, ev T p.2))).map AV.agg := by simp [pv, hok, hk, hasf_flds hf, hasz_zero hz]
theorem pv_buildA (t : TypeId) (ps : Array (Nat × Operand)) (hok : (ti P t).ok = true) (hk : (ti P t).isA = true) (he : (ti P (ti P t).ae).ok = true) (hz : (ti P t).hasz = true) :
    pv P (.build t ps) T G = (fillA (fun i => some (i * (ti P (ti P t).ae).size, (ti P (ti P t).ae).size)) (ti P t).zs (ps.toList.map fun p => (p.1, ev T p.2))).map AV.agg := by simp [pv, hok, isA_kd hk, he, hasz_zero hz]
theorem pv_bs (t : TypeId) (n : Nat) (ps : Array (Nat × Operand)) (hok : (ti P t).ok = true) (hk : (ti P t).isS = true) (he : (ti P (ti P t).el).ok = true) (hz : (ti P (ti P t).el).hasz = true) (hs : (ti P (ti P t).el).zs.length = (ti P (ti P t).el).size) (h1 : n ≤ 16777216) (h2 : n * (ti P (ti P t).el).size ≤ 16777216) :
    pv P (.buildSlice t n ps) T G = (fillA (fun i => some (i * (ti P (ti P t).el).size, (ti P (ti P t).el).size)) (zerosA (ti P (ti P t).el).zs (n * (ti P (ti P t).el).size)) (ps.toList.map fun p => (p.1, ev T p.2))).map (AV.sl n) := by simp [pv, hok, isS_kd hk, he, hasz_zero hz, hs, h1, h2]
theorem fillA_seq (sz : Nat) : ∀ (vs : List AV) (k : Nat) (cs : List AV), (∀ v ∈ vs, v.known = true ∧ v.cells.length = sz) → cs.length = (k + vs.length) * sz →
    fillA (fun i => some (i * sz, sz)) cs ((vs.zipIdx k).map fun p => (p.2, p.1)) = some (cs.take (k * sz) ++ vs.flatMap AV.cells)
  | [], k, cs, _, hl => by
    simp only [List.zipIdx_nil, List.map_nil, fillA, List.flatMap_nil, List.append_nil, Option.some.injEq]
    rw [List.take_of_length_le]; simp at hl; omega
  | v :: vs, k, cs, h, hl => by
    obtain ⟨h1, h2⟩ := h v List.mem_cons_self
    have hl' : k * sz + sz ≤ cs.length := by rw [hl, List.length_cons, ← Nat.succ_mul]; exact Nat.mul_le_mul_right _ (by omega)
    have hs : (splice cs (k * sz) v.cells).length = cs.length := by simp [splice]; omega
    simp only [List.zipIdx_cons, List.map_cons, fillA]
    rw [if_pos ⟨h1, h2, hl'⟩, fillA_seq sz vs (k + 1) _ (fun u hu => h u (List.mem_cons_of_mem _ hu)) (by rw [hs, hl, List.length_cons]; congr 1; omega)]
    have e : (splice cs (k * sz) v.cells).take ((k + 1) * sz) = cs.take (k * sz) ++ v.cells := by
      have e1 : (cs.take (k * sz) ++ v.cells).length = (k + 1) * sz := by simp [h2, Nat.succ_mul]; omega
      unfold splice
      rw [← e1, List.take_left]
    rw [e, List.flatMap_cons, List.append_assoc]

theorem map_zipIdx {α β : Type} (f : α → β) (ps : List (Nat × α)) (k : Nat) (h : ps.map Prod.fst = List.range' k ps.length) : (ps.map fun p => (p.1, f p.2)) = ((ps.map fun p => f p.2).zipIdx k).map fun p => (p.2, p.1) := by
  induction ps generalizing k with
  | nil => rfl
  | cons p r ih =>
    simp only [List.map_cons, List.length_cons, List.range'_succ, List.cons.injEq] at h
    simp only [List.map_cons, List.zipIdx_cons, List.cons.injEq]
    exact ⟨by rw [h.1], ih (k + 1) h.2⟩

def idxOk : Nat → List (Nat × Operand) → Bool
  | _, [] => true
  | k, p :: r => (p.1 == k) && idxOk (k + 1) r
theorem idxOk_nil (k : Nat) : idxOk k [] = true := by simp only [idxOk]
theorem idxOk_cons (k i : Nat) (x : Operand) (r : List (Nat × Operand)) : idxOk k ((i, x) :: r) = ((i == k) && idxOk (k + 1) r) := by simp only [idxOk]
theorem idxOk_map : ∀ (ps : List (Nat × Operand)) (k : Nat), idxOk k ps = true → ps.map Prod.fst = List.range' k ps.length
  | [], _, _ => rfl
  | p :: r, k, h => by
    simp only [idxOk, Bool.and_eq_true, beq_iff_eq] at h
    simp only [List.map_cons, List.length_cons, List.range'_succ, h.1, idxOk_map r (k + 1) h.2]
/-- a literal with all its elements -/
theorem pv_bsA (t : TypeId) (n : Nat) (ps : Array (Nat × Operand)) (hok : (ti P t).ok = true) (hk : (ti P t).isS = true) (he : (ti P (ti P t).el).ok = true) (hz : (ti P (ti P t).el).hasz = true) (hs : (ti P (ti P t).el).zs.length = (ti P (ti P t).el).size) (h1 : n ≤ 16777216) (h2 : n * (ti P (ti P t).el).size ≤ 16777216)
    (hn : ps.toList.length = n) (hp : idxOk 0 ps.toList = true) (hv : ∀ v ∈ ps.toList.map fun p => ev T p.2, v.known = true ∧ v.cells.length = (ti P (ti P t).el).size) :
    pv P (.buildSlice t n ps) T G = some (.sl n ((ps.toList.map fun p => ev T p.2).flatMap AV.cells)) := by
  have hp := idxOk_map _ _ hp
  rw [pv_bs (T := T) (G := G) (t := t) (n := n) (ps := ps) hok hk he hz hs h1 h2, map_zipIdx (ev T) ps.toList 0 hp, fillA_seq _ _ _ _ hv (by simp [zerosA, ← hn])]
  simp

theorem zerosA_one (x : AV) (n : Nat) : zerosA [x] n = List.replicate n x := by
  unfold zerosA
  refine List.ext_getElem (by simp) fun i h1 h2 => ?_
  simp [Nat.mod_one]
def kik : KD → IntKind
  | .int k => k
  | _ => .i64
theorem kik_int (k : IntKind) : kik (.int k) = k := by simp only [kik]
theorem conv_ii {s d : TypeId} {k : IntKind} {n : Int} (h1 : (ti P s).ok = true) (h2 : (ti P d).ok = true) (h3 : (ti P d).kd = .int (kik (ti P d).kd)) : conv P G s d (.int k n) = some (.int (kik (ti P d).kd) ((kik (ti P d).kd).wrap n)) := by
  unfold conv; rw [h1, h2]
  generalize hq : kik (ti P d).kd = q at h3
  rw [h3]; rfl
theorem conv_ss {s d : TypeId} {x : ByteArray} (h1 : (ti P s).ok = true) (h2 : (ti P d).ok = true) (h3 : (ti P d).kd = .str) : conv P G s d (.str x) = some (.str x) := by
  unfold conv; rw [h1, h2, h3]; rfl
theorem pv_mkf (f : Nat) (caps : Array Operand) : pv P (.makeFunc (.func f) #[] caps) T G = whenB ((caps.toList.map (ev T)).all AV.plain) (some (.fn f (caps.toList.map (ev T)))) := by simp [pv, whenB]
def msV (P : Program) (e : TypeId) (o : Option Nat) : Option AV := match o with
  | some n => if n ≤ LIM ∧ n * (ti P e).bytes ≤ LIM then some (.sl n (zerosA (ti P e).zs (n * (ti P e).size))) else none
  | none => none
theorem msV_some {e : TypeId} {n : Nat} (h1 : n ≤ LIM) (h2 : n * (ti P e).bytes ≤ LIM) : msV P e (some n) = some (.sl n (zerosA (ti P e).zs (n * (ti P e).size))) := by simp [msV, h1, h2]
theorem pv_ms (t : TypeId) (l c : Operand) (hok : (ti P t).ok = true) (h : (ti P t).isS = true) (he : (ti P (ti P t).el).ok = true) (hz : (ti P (ti P t).el).hasz = true) (hs : (ti P (ti P t).el).zs.length = (ti P (ti P t).el).size) :
    pv P (.makeSlice t l c) T G = msV P (ti P t).el (msN (ev T l) (ev T c)) := by
  simp only [pv, isS_kd h, hok, he, true_and, if_true]
  cases ev T l <;> try rfl
  cases ev T c <;> try rfl
  simp only [msN]
  rename_i k1 n k2 m
  by_cases hc : n = m ∧ 0 ≤ n
  · rw [if_pos hc]
    obtain ⟨rfl, h0⟩ := hc
    simp [msV, hs, hasz_zero hz, he, h0]
  · rw [if_neg hc]
    simp only [msV]
    rw [if_neg (fun h => hc ⟨h.1, h.2.1⟩)]
end

theorem alen_nils {t : TypeId} (hok : (ti P t).ok = true) (hk : (ti P t).isS = true) : alen P t .nils = some (.int .i64 0) := by simp [alen, hok, isS_kd hk]
theorem alen_sl {t : TypeId} {n : Nat} {cs : List AV} (hok : (ti P t).ok = true) (hk : (ti P t).isS = true) : alen P t (.sl n cs) = some (.int .i64 n) := by simp [alen, hok, isS_kd hk]
theorem alen_ms {t : TypeId} {b o n z : Nat} (hok : (ti P t).ok = true) (hk : (ti P t).isS = true) : alen P t (.ms b o n z) = some (.int .i64 n) := by simp [alen, hok, isS_kd hk]
theorem alen_str {t : TypeId} {s : ByteArray} (hok : (ti P t).ok = true) (hk : (ti P t).kd = .str) : alen P t (.str s) = some (.int .i64 s.size) := by simp [alen, hok, hk]
theorem bin_int (op : BinOp) (t : TypeId) (k k' : IntKind) (a b : Int) : bin P op t (.int k a) (.int k' b) = ibin op k a k' b := nrfl rfl
theorem bin_str (op : BinOp) (t : TypeId) (a b : ByteArray) : bin P op t (.str a) (.str b) = sbin op a b := nrfl rfl
theorem bin_bool (t : TypeId) (x : AV) (b : Bool) : bin P .eql t x (.bool b) = (eqv P t x (.bool b)).map AV.bool := by cases x <;> rfl
theorem bin_booln (t : TypeId) (x : AV) (b : Bool) : bin P .neq t x (.bool b) = (eqv P t x (.bool b)).map fun b => AV.bool (!b) := by cases x <;> rfl
theorem bin_nil (t : TypeId) (x : AV) : bin P .eql t x .nil = (eqv P t x .nil).map AV.bool := by cases x <;> rfl
theorem bin_niln (t : TypeId) (x : AV) : bin P .neq t x .nil = (eqv P t x .nil).map fun b => AV.bool (!b) := by cases x <;> rfl
theorem bin_nils (t : TypeId) (x : AV) : bin P .eql t x .nils = (eqv P t x .nils).map AV.bool := by cases x <;> rfl
theorem bin_nilsn (t : TypeId) (x : AV) : bin P .neq t x .nils = (eqv P t x .nils).map fun b => AV.bool (!b) := by cases x <;> rfl
theorem bin_agg (t : TypeId) (x : AV) (cs : List AV) : bin P .eql t x (.agg cs) = (eqv P t x (.agg cs)).map AV.bool := by cases x <;> rfl
theorem bin_aggn (t : TypeId) (x : AV) (cs : List AV) : bin P .neq t x (.agg cs) = (eqv P t x (.agg cs)).map fun b => AV.bool (!b) := by cases x <;> rfl
theorem ibin_add (k : IntKind) (a b : Int) : ibin .add k a k b = some (.int k (k.wrap (a + b))) := by simp only [ibin, if_true]
theorem ibin_sub (k : IntKind) (a b : Int) : ibin .sub k a k b = some (.int k (k.wrap (a - b))) := by simp only [ibin, if_true]
theorem ibin_mul (k : IntKind) (a b : Int) : ibin .mul k a k b = some (.int k (k.wrap (a * b))) := by simp only [ibin, if_true]
theorem ibin_quo {k : IntKind} {a b : Int} (h : b ≠ 0) : ibin .quo k a k b = some (.int k (k.wrap (a.tdiv b))) := by simp only [ibin, if_true, if_neg h]
theorem ibin_rem {k : IntKind} {a b : Int} (h : b ≠ 0) : ibin .rem k a k b = some (.int k (a.tmod b)) := by simp only [ibin, if_true, if_neg h]
theorem ibin_eql (k : IntKind) (a b : Int) : ibin .eql k a k b = some (.bool (decide (a = b))) := by simp only [ibin, if_true]
theorem ibin_neq (k : IntKind) (a b : Int) : ibin .neq k a k b = some (.bool (!decide (a = b))) := by simp only [ibin, if_true]
theorem ibin_lss (k : IntKind) (a b : Int) : ibin .lss k a k b = some (.bool (decide (a < b))) := by simp only [ibin, if_true]
theorem ibin_leq (k : IntKind) (a b : Int) : ibin .leq k a k b = some (.bool (decide (a ≤ b))) := by simp only [ibin, if_true]
theorem ibin_gtr (k : IntKind) (a b : Int) : ibin .gtr k a k b = some (.bool (decide (b < a))) := by simp only [ibin, if_true]
theorem ibin_geq (k : IntKind) (a b : Int) : ibin .geq k a k b = some (.bool (decide (b ≤ a))) := by simp only [ibin, if_true]
theorem ibin_and (k : IntKind) (a b : Int) : ibin .and k a k b = (ibits .and k a b).map (AV.int k) := by simp only [ibin, if_true]
theorem ibin_or (k : IntKind) (a b : Int) : ibin .or k a k b = (ibits .or k a b).map (AV.int k) := by simp only [ibin, if_true]
theorem ibin_xor (k : IntKind) (a b : Int) : ibin .xor k a k b = (ibits .xor k a b).map (AV.int k) := by simp only [ibin, if_true]
theorem ibin_andNot (k : IntKind) (a b : Int) : ibin .andNot k a k b = (ibits .andNot k a b).map (AV.int k) := by simp only [ibin, if_true]
theorem min_le' {b : Int} {n : Nat} (h : b ≤ n) : min b.toNat n = b.toNat := by omega
theorem shr_u8 {k : IntKind} {a b : Int} (h : 0 ≤ b) (h2 : b ≤ 8) : ibin .shr .u8 a k b = some (.int .u8 (a.fdiv (2 ^ b.toNat))) := by
  simp only [ibin, if_neg (show ¬ b < 0 by omega), IntKind.bits, min_le' (n := 8) h2]
theorem shr_u32 {k : IntKind} {a b : Int} (h : 0 ≤ b) (h2 : b ≤ 32) : ibin .shr .u32 a k b = some (.int .u32 (a.fdiv (2 ^ b.toNat))) := by
  simp only [ibin, if_neg (show ¬ b < 0 by omega), IntKind.bits, min_le' (n := 32) h2]
theorem shr_u64 {k : IntKind} {a b : Int} (h : 0 ≤ b) (h2 : b ≤ 64) : ibin .shr .u64 a k b = some (.int .u64 (a.fdiv (2 ^ b.toNat))) := by
  simp only [ibin, if_neg (show ¬ b < 0 by omega), IntKind.bits, min_le' (n := 64) h2]
theorem shl_u8 {k : IntKind} {a b : Int} (h : 0 ≤ b) (h2 : b ≤ 8) : ibin .shl .u8 a k b = some (.int .u8 (IntKind.u8.wrap (a * 2 ^ b.toNat))) := by
  simp only [ibin, if_neg (show ¬ b < 0 by omega), IntKind.bits, min_le' (n := 8) h2]
theorem shl_u32 {k : IntKind} {a b : Int} (h : 0 ≤ b) (h2 : b ≤ 32) : ibin .shl .u32 a k b = some (.int .u32 (IntKind.u32.wrap (a * 2 ^ b.toNat))) := by
  simp only [ibin, if_neg (show ¬ b < 0 by omega), IntKind.bits, min_le' (n := 32) h2]
theorem shl_u64 {k : IntKind} {a b : Int} (h : 0 ≤ b) (h2 : b ≤ 64) : ibin .shl .u64 a k b = some (.int .u64 (IntKind.u64.wrap (a * 2 ^ b.toNat))) := by
  simp only [ibin, if_neg (show ¬ b < 0 by omega), IntKind.bits, min_le' (n := 64) h2]
theorem un_not (b : Bool) : un .not (.bool b) = some (.bool (!b)) := nrfl rfl
theorem un_neg (k : IntKind) (n : Int) : un .neg (.int k n) = some (.int k (k.wrap (0 - n))) := nrfl rfl
theorem bnd_none (d : Nat) : bnd none d = some d := nrfl rfl
theorem bnd_int {k : IntKind} {i : Int} {d : Nat} (h : 0 ≤ i) : bnd (some (.int k i)) d = some i.toNat := by simp [bnd, h]
theorem aslc_sl {t : TypeId} {n : Nat} {cs : List AV} {x y : Option AV} (hok : (ti P t).ok = true) (hk : (ti P t).isS = true) (he : (ti P (ti P t).el).ok = true) : aslc P t (.sl n cs) x y = slcA (ti P (ti P t).el) (.sl n cs) x y := by unfold aslc; rw [if_pos hok, isS_kd hk]; simp only [he, if_true]
theorem aslc_ms {t : TypeId} {b o n z : Nat} {x y : Option AV} (hok : (ti P t).ok = true) (hk : (ti P t).isS = true) (he : (ti P (ti P t).el).ok = true) : aslc P t (.ms b o n z) x y = slcA (ti P (ti P t).el) (.ms b o n z) x y := by unfold aslc; rw [if_pos hok, isS_kd hk]; simp only [he, if_true]
theorem aslc_nils {t : TypeId} {x y : Option AV} (hok : (ti P t).ok = true) (hk : (ti P t).isS = true) (he : (ti P (ti P t).el).ok = true) : aslc P t .nils x y = slcA (ti P (ti P t).el) .nils x y := by unfold aslc; rw [if_pos hok, isS_kd hk]; simp only [he, if_true]
theorem aslc_str {t : TypeId} {s : ByteArray} {x y : Option AV} (hok : (ti P t).ok = true) (hk : (ti P t).kd = .str) : aslc P t (.str s) x y = slcA (ti P t) (.str s) x y := by unfold aslc; rw [if_pos hok, hk]
def stP (T : Tm) (G : Hp) (b off : Nat) (vs : List AV) (o : Option (Nat × List AV)) : Option (Tm × Hp) := match o with
  | some (τ, cs) => if off + vs.length ≤ cs.length then some (T, setH G b (some (τ, splice cs off vs))) else none
  | none => none
theorem stP_some {T : Tm} {G : Hp} {b off : Nat} {vs : List AV} {τ : Nat} {cs : List AV} (h : off + vs.length ≤ cs.length) : stP T G b off vs (some (τ, cs)) = some (T, setH G b (some (τ, splice cs off vs))) := by simp only [stP, if_pos h]
theorem memSt_ptr (T : Tm) (G : Hp) (b off : Nat) (vs : List AV) : memSt T G (.ptr b off) vs = stP T G b off vs (G b) := nrfl rfl
def stL (T : Tm) (G : Hp) (t off : Nat) (vs : List AV) (o : AV) : Option (Tm × Hp) := match o with
  | .box cs => if off + vs.length ≤ cs.length then some (upd T t (.box (splice cs off vs)), G) else none
  | _ => none
theorem stL_box {T : Tm} {G : Hp} {t off : Nat} {vs cs : List AV} (h : off + vs.length ≤ cs.length) : stL T G t off vs (.box cs) = some (upd T t (.box (splice cs off vs)), G) := by simp only [stL, if_pos h]
theorem memSt_loc (T : Tm) (G : Hp) (t off : Nat) (vs : List AV) : memSt T G (.loc t off) vs = stL T G t off vs (T t) := nrfl rfl
theorem kill_plain {d : Nat} {v : AV} (h : v.plain = true) : killv d v = v := by cases v <;> first | rfl | cases h
theorem killvs_plain {ds : List Nat} {v : AV} (h : v.plain = true) : killvs ds v = v := by cases v <;> first | rfl | cases h
theorem unbox_plain {v : AV} (h : v.plain = true) : unbox v = v := by cases v <;> first | rfl | cases h
theorem unbox_box (cs : List AV) : unbox (.box cs) = .any := nrfl rfl
theorem unbox_loc (d o : Nat) : unbox (.loc d o) = .loc d o := nrfl rfl
theorem killv_loc (d t o : Nat) : killv d (.loc t o) = if t = d then .any else .loc t o := nrfl rfl
theorem killvs_loc (ds : List Nat) (t o : Nat) : killvs ds (.loc t o) = if ds.contains t then .any else .loc t o := nrfl rfl
theorem killv_box (d : Nat) (cs : List AV) : killv d (.box cs) = .box cs := nrfl rfl
theorem killvs_box (d : List Nat) (cs : List AV) : killvs d (.box cs) = .box cs := nrfl rfl

/-! ### values, with their conditions -/
theorem idxA_sl {t : TypeId} {k : IntKind} {i : Int} {n : Nat} {cs : List AV} (hok : (ti P t).ok = true) (hk : (ti P t).isS = true) (he : (ti P (ti P t).el).ok = true) (h0 : 0 ≤ i) (h1 : i < n) :
    idxA P t (.sl n cs) (.int k i) = some (.iptr ((cs.drop (i.toNat * (ti P (ti P t).el).size)).take (ti P (ti P t).el).size)) := by
  simp only [idxA, hok, isS_kd hk, he, if_true]
  rw [if_pos ⟨h0, h1⟩]

theorem idxA_ms {t : TypeId} {k : IntKind} {i : Int} {b off n sz : Nat} (hok : (ti P t).ok = true) (hk : (ti P t).isS = true) (he : (ti P (ti P t).el).ok = true) (hs : sz = (ti P (ti P t).el).size) (h0 : 0 ≤ i) (h1 : i < n) :
    idxA P t (.ms b off n sz) (.int k i) = some (.ptr b (off + i.toNat * sz)) := by
  subst hs
  simp only [idxA, hok, isS_kd hk, he, if_true]
  rw [if_pos ⟨h0, h1, trivial⟩]

theorem idxA_arr {t : TypeId} {k : IntKind} {i : Int} {b off : Nat} (hok : (ti P t).ok = true) (hk : (ti P t).isA = true) (he : (ti P (ti P t).ae).ok = true) (h0 : 0 ≤ i) (h1 : i < (ti P t).an) :
    idxA P t (.ptr b off) (.int k i) = some (.ptr b (off + i.toNat * (ti P (ti P t).ae).size)) := by
  simp only [idxA, hok, isA_kd hk, he, if_true]
  rw [if_pos ⟨h0, h1⟩]
theorem idxA_loc {t : TypeId} {k : IntKind} {i : Int} {b off : Nat} (hok : (ti P t).ok = true) (hk : (ti P t).isA = true) (he : (ti P (ti P t).ae).ok = true) (h0 : 0 ≤ i) (h1 : i < (ti P t).an) :
    idxA P t (.loc b off) (.int k i) = some (.loc b (off + i.toNat * (ti P (ti P t).ae).size)) := by
  simp only [idxA, hok, isA_kd hk, he, if_true]
  rw [if_pos ⟨h0, h1⟩]
theorem locB_loc (b off : Nat) : locB (.loc b off) = true := nrfl rfl
theorem atA_arr {t : TypeId} {k : IntKind} {i : Int} {cs : List AV} (hok : (ti P t).ok = true) (hk : (ti P t).isA = true) (h0 : 0 ≤ i) (h1 : i < (ti P t).an) :
    atA P t (.agg cs) (.int k i) = partA (ti P (ti P t).ae) cs (i.toNat * (ti P (ti P t).ae).size) := by
  simp only [atA, hok, isA_kd hk, if_true]
  rw [if_pos ⟨h0, h1⟩]

theorem take1 {cs : List AV} {i : Nat} (h : i < cs.length) : (cs.drop i).take 1 = [cs[i]] := by
  rw [List.drop_eq_getElem_cons h]; rfl

theorem i64w {n : Int} (h0 : -9223372036854775808 ≤ n) (h1 : n ≤ 9223372036854775807) : IntKind.i64.wrap n = n := IntWalk.i64_in n ⟨h0, h1⟩
theorem u8w {n : Int} (h0 : 0 ≤ n) (h1 : n ≤ 255) : IntKind.u8.wrap n = n := IntWalk.u8_in n ⟨h0, h1⟩
theorem u16w {n : Int} (h0 : 0 ≤ n) (h1 : n ≤ 65535) : IntKind.u16.wrap n = n := IntWalk.u16_in n ⟨h0, h1⟩
theorem u32w {n : Int} (h0 : 0 ≤ n) (h1 : n ≤ 4294967295) : IntKind.u32.wrap n = n := IntWalk.u32_in n ⟨h0, h1⟩
theorem u64w {n : Int} (h0 : 0 ≤ n) (h1 : n ≤ 18446744073709551615) : IntKind.u64.wrap n = n := IntWalk.u64_in n ⟨h0, h1⟩
theorem i32w {n : Int} (h0 : -2147483648 ≤ n) (h1 : n ≤ 2147483647) : IntKind.i32.wrap n = n := IntWalk.i32_in n ⟨h0, h1⟩


theorem eqv_bool {t : TypeId} {a b : Bool} (hok : (ti P t).ok = true) (hk : (ti P t).kd = .bool) : eqv P t (.bool a) (.bool b) = some (a == b) := by unfold eqv; rw [if_pos hok, hk]
theorem eqv_nn {t : TypeId} (hok : (ti P t).ok = true) (hk : (ti P t).isP = true) : eqv P t .nil .nil = some true := by obtain ⟨e, he⟩ := isP_kd hk; unfold eqv; rw [if_pos hok, he]
theorem eqv_np {t : TypeId} {b off : Nat} (hok : (ti P t).ok = true) (hk : (ti P t).isP = true) : eqv P t .nil (.ptr b off) = some false := by obtain ⟨e, he⟩ := isP_kd hk; unfold eqv; rw [if_pos hok, he]; simp [isPtr]
theorem eqv_pn {t : TypeId} {b off : Nat} (hok : (ti P t).ok = true) (hk : (ti P t).isP = true) : eqv P t (.ptr b off) .nil = some false := by obtain ⟨e, he⟩ := isP_kd hk; unfold eqv; rw [if_pos hok, he]; simp [isPtr]
theorem eqv_snn {t : TypeId} (hok : (ti P t).ok = true) (hk : (ti P t).isS = true) : eqv P t .nils .nils = some true := by unfold eqv; rw [if_pos hok, isS_kd hk]
theorem eqv_ssn {t : TypeId} {n : Nat} {cs : List AV} (hok : (ti P t).ok = true) (hk : (ti P t).isS = true) : eqv P t (.sl n cs) .nils = some false := by unfold eqv; rw [if_pos hok, isS_kd hk]; simp [isSlc]
theorem eqv_smn {t : TypeId} {b off n sz : Nat} (hok : (ti P t).ok = true) (hk : (ti P t).isS = true) : eqv P t (.ms b off n sz) .nils = some false := by unfold eqv; rw [if_pos hok, isS_kd hk]; simp [isSlc]
theorem eqv_struct {t : TypeId} {xs ys : List AV} (hok : (ti P t).ok = true) (hk : (ti P t).kd = .struct) (hg : (ti P t).eqg = false) : eqv P t (.agg xs) (.agg ys) = eqA P 10000 t (.agg xs) (.agg ys) := by unfold eqv; rw [if_pos hok, hk]; simp [hg]
end

theorem plain_int (k : IntKind) (n : Int) : ((AV.int k n)).plain = true := by simp only [AV.plain]
theorem plain_bool (b : Bool) : ((AV.bool b)).plain = true := by simp only [AV.plain]
theorem plain_str (s : ByteArray) : ((AV.str s)).plain = true := by simp only [AV.plain]
theorem plain_nil  : (AV.nil).plain = true := by simp only [AV.plain]
theorem plain_ptr (b o : Nat) : ((AV.ptr b o)).plain = true := by simp only [AV.plain]
theorem plain_loc (t o : Nat) : ((AV.loc t o)).plain = false := by simp only [AV.plain]
theorem plain_iptr (cs : List AV) : ((AV.iptr cs)).plain = true := by simp only [AV.plain]
theorem plain_nils  : (AV.nils).plain = true := by simp only [AV.plain]
theorem plain_sl (n : Nat) (cs : List AV) : ((AV.sl n cs)).plain = true := by simp only [AV.plain]
theorem plain_ms (b o n z : Nat) : ((AV.ms b o n z)).plain = true := by simp only [AV.plain]
theorem plain_agg (cs : List AV) : ((AV.agg cs)).plain = true := by simp only [AV.plain]
theorem plain_tup (cs : List AV) : ((AV.tup cs)).plain = true := by simp only [AV.plain]
theorem plain_fn (f : Nat) (cs : List AV) : ((AV.fn f cs)).plain = true := by simp only [AV.plain]
theorem plain_box (cs : List AV) : ((AV.box cs)).plain = false := by simp only [AV.plain]
theorem plain_any  : (AV.any).plain = true := by simp only [AV.plain]
theorem known_int (k : IntKind) (n : Int) : ((AV.int k n)).known = true := by simp only [AV.known]
theorem known_bool (b : Bool) : ((AV.bool b)).known = true := by simp only [AV.known]
theorem known_str (s : ByteArray) : ((AV.str s)).known = true := by simp only [AV.known]
theorem known_nil  : (AV.nil).known = true := by simp only [AV.known]
theorem known_ptr (b o : Nat) : ((AV.ptr b o)).known = true := by simp only [AV.known]
theorem known_loc (t o : Nat) : ((AV.loc t o)).known = false := by simp only [AV.known]
theorem known_iptr (cs : List AV) : ((AV.iptr cs)).known = true := by simp only [AV.known]
theorem known_nils  : (AV.nils).known = true := by simp only [AV.known]
theorem known_sl (n : Nat) (cs : List AV) : ((AV.sl n cs)).known = true := by simp only [AV.known]
theorem known_ms (b o n z : Nat) : ((AV.ms b o n z)).known = true := by simp only [AV.known]
theorem known_agg (cs : List AV) : ((AV.agg cs)).known = true := by simp only [AV.known]
theorem known_tup (cs : List AV) : ((AV.tup cs)).known = true := by simp only [AV.known]
theorem known_fn (f : Nat) (cs : List AV) : ((AV.fn f cs)).known = true := by simp only [AV.known]
theorem known_box (cs : List AV) : ((AV.box cs)).known = false := by simp only [AV.known]
theorem known_any  : (AV.any).known = false := by simp only [AV.known]
theorem scal_int (k : IntKind) (n : Int) : ((AV.int k n)).scal = true := by simp only [AV.scal]
theorem scal_bool (b : Bool) : ((AV.bool b)).scal = true := by simp only [AV.scal]
theorem scal_str (s : ByteArray) : ((AV.str s)).scal = true := by simp only [AV.scal]
theorem scal_nil  : (AV.nil).scal = true := by simp only [AV.scal]
theorem scal_ptr (b o : Nat) : ((AV.ptr b o)).scal = true := by simp only [AV.scal]
theorem scal_loc (t o : Nat) : ((AV.loc t o)).scal = false := by simp only [AV.scal]
theorem scal_iptr (cs : List AV) : ((AV.iptr cs)).scal = true := by simp only [AV.scal]
theorem scal_nils  : (AV.nils).scal = true := by simp only [AV.scal]
theorem scal_sl (n : Nat) (cs : List AV) : ((AV.sl n cs)).scal = true := by simp only [AV.scal]
theorem scal_ms (b o n z : Nat) : ((AV.ms b o n z)).scal = true := by simp only [AV.scal]
theorem scal_agg (cs : List AV) : ((AV.agg cs)).scal = false := by simp only [AV.scal]
theorem scal_tup (cs : List AV) : ((AV.tup cs)).scal = false := by simp only [AV.scal]
theorem scal_fn (f : Nat) (cs : List AV) : ((AV.fn f cs)).scal = true := by simp only [AV.scal]
theorem scal_box (cs : List AV) : ((AV.box cs)).scal = false := by simp only [AV.scal]
theorem scal_any  : (AV.any).scal = false := by simp only [AV.scal]
theorem cells_int (k : IntKind) (n : Int) : ((AV.int k n)).cells = [AV.int k n] := by simp only [AV.cells]
theorem cells_bool (b : Bool) : ((AV.bool b)).cells = [AV.bool b] := by simp only [AV.cells]
theorem cells_str (s : ByteArray) : ((AV.str s)).cells = [AV.str s] := by simp only [AV.cells]
theorem cells_nil  : (AV.nil).cells = [AV.nil] := by simp only [AV.cells]
theorem cells_ptr (b o : Nat) : ((AV.ptr b o)).cells = [AV.ptr b o] := by simp only [AV.cells]
theorem cells_loc (t o : Nat) : ((AV.loc t o)).cells = [AV.loc t o] := by simp only [AV.cells]
theorem cells_iptr (cs : List AV) : ((AV.iptr cs)).cells = [AV.iptr cs] := by simp only [AV.cells]
theorem cells_nils  : (AV.nils).cells = [AV.nils] := by simp only [AV.cells]
theorem cells_sl (n : Nat) (cs : List AV) : ((AV.sl n cs)).cells = [AV.sl n cs] := by simp only [AV.cells]
theorem cells_ms (b o n z : Nat) : ((AV.ms b o n z)).cells = [AV.ms b o n z] := by simp only [AV.cells]
theorem cells_agg (cs : List AV) : ((AV.agg cs)).cells = cs := by simp only [AV.cells]
theorem cells_tup (cs : List AV) : ((AV.tup cs)).cells = [AV.tup cs] := by simp only [AV.cells]
theorem cells_fn (f : Nat) (cs : List AV) : ((AV.fn f cs)).cells = [AV.fn f cs] := by simp only [AV.cells]
theorem cells_box (cs : List AV) : ((AV.box cs)).cells = [AV.box cs] := by simp only [AV.cells]
theorem cells_any  : (AV.any).cells = [AV.any] := by simp only [AV.cells]

/-! ### what follows, without its text -/
theorem ACalls.hide {P : Program} {f : FuncId} {args : List AV} {G : Hp} {post : AV → Hp → Prop} (h : ∀ post' : AV → Hp → Prop, (∀ r G', post r G' → post' r G') → ACalls P f args G post') : ACalls P f args G post := h post fun _ _ h => h

theorem awp_loop' {P : Program} {gl : List Nat} {Q : Exit → Tm → Hp → Prop} {T : Tm} {G : Hp} {a : CC} (I : Nat → Tm → Hp → Prop) (n : Nat) (h0 : I n T G)
    (h : ∀ n T G, I n T G → ∀ N : Tm → Hp → Prop, (∀ m T' G', m < n → I m T' G' → N T' G') → awp P gl a (thn N Q) T G) : awp P gl (.loop a) Q T G :=
  ⟨I, n, h0, fun n T G hI => h n T G hI _ fun m T' G' hm hi => ⟨m, hm, hi⟩⟩

/-! ### the end of a function -/
theorem rets_nil (P : Program) (T : Tm) (G : Hp) : rets P [] T G = [] := nrfl rfl
theorem rets_tmp (P : Program) (t : Nat) (rs : List ResultVar) (T : Tm) (G : Hp) : rets P (.tmp t :: rs) T G = T t :: rets P rs T G := nrfl rfl
def cellV (o : Option AV) : AV := match o with
  | some v => v
  | none => .box []
theorem cellV_some (v : AV) : cellV (some v) = v := nrfl rfl
theorem rets_cell (P : Program) (a t : Nat) (rs : List ResultVar) (T : Tm) (G : Hp) : rets P (.cell a t :: rs) T G = cellV (ldB (ti P t) (memLd T G (unb a (T a)))) :: rets P rs T G := by
  unfold rets
  simp only [List.map_cons, List.cons.injEq, and_true, ev_tmp]
  cases memLd T G (unb a (T a)) with
  | none => rfl
  | some cs =>
    simp only [ldB, cellV]
    cases ldV (ti P t) cs <;> rfl

section
variable {P : Program} {rs : List ResultVar} {post : AV → Hp → Prop} {T : Tm} {G : Hp}

theorem ends_one {x : AV} (h : rets P rs T G = [x]) (hx : x.plain = true) (hp : post x G) : AEnds P rs post .ret T G :=
  ⟨.inl rfl, by rw [h]; simpa using hx, x, G, sub.refl G, by rw [h]; exact Frz.refl x, hp⟩

theorem ends_many {x y : AV} {zs : List AV} (h : rets P rs T G = x :: y :: zs) (hx : (x :: y :: zs).all AV.plain = true) (hp : post (.tup (x :: y :: zs)) G) : AEnds P rs post .ret T G :=
  ⟨.inl rfl, by rw [h]; exact hx, _, G, sub.refl G, by rw [h]; exact Frz.refl _, hp⟩

theorem ends_none (h : rets P rs T G = []) (hp : post (.tup []) G) : AEnds P rs post .ret T G :=
  ⟨.inl rfl, by rw [h]; rfl, _, G, sub.refl G, by rw [h]; exact Frz.refl _, hp⟩

/-- a slice of a block of its own is handed back: it is frozen -/
theorem ends_frz {b n sz τ : Nat} {cs : List AV} (h : rets P rs T G = [.ms b 0 n sz]) (hG : G b = some (τ, cs)) (hl : cs.length = n * sz) (hp : post (.sl n cs) (setH G b none)) (hpl : ∀ x ∈ cs, x.plain = true) : AEnds P rs post .ret T G := by
  refine ⟨.inl rfl, by rw [h]; rfl, .sl n cs, setH G b none, ?_, ?_, hp⟩
  · intro c o hc
    unfold setH at hc
    split at hc
    · cases hc
    · exact hc
  · rw [h]
    refine Frz.ms b 0 n sz τ cs cs hG (by simp [setH]) ?_
    have : (cs.drop 0).take (n * sz) = cs := by rw [List.drop_zero, ← hl, List.take_length]
    rw [this]
    exact Frzs.refl cs
end

theorem setH_undo {G : Hp} {b : Nat} {o : Option (Nat × List AV)} (h : G b = none) : setH (setH G b o) b none = G := by
  funext c
  unfold setH
  by_cases hc : c = b
  · subst hc; simp [h]
  · simp [hc]

attribute [simp] bindO_some gdB_some memB_some GK_true GK_false VK_app step_g step_n GD_true GD_false VDc_app ED_app stepD aopsD_nil aops_nil EK_app awp_reg awp_drw awp_skip awp_ret awp_exit PK_app thn_n thn_r thn_e inB_n inB_r inB_e
  ev_tmp ev_const ev_func unb_plain unb_box unb_loc unbx_plain unbx_loc putT_plain putT_box putT_loc prune_eq PR_nil PR_cons gd_none gd_some isE putT_none upd_at ofL_nil ofL_cons initT_at kill_at kills_at kills_ofL KL_nil KL_cons kl1_plain kl1_true kl1_false updO eop_store eop_alloc eop_box eop_bs0 eop_ms msN_int msE_some msV_some eop_callF eop_append memSt_ptr stP_some memSt_loc stL_box memLd ldV ofV known_int known_bool known_str known_nil known_ptr known_loc known_iptr known_nils known_sl known_ms known_agg known_tup known_fn known_box known_any plain_int plain_bool plain_str plain_nil plain_ptr plain_loc plain_iptr plain_nils plain_sl plain_ms plain_agg plain_tup plain_fn plain_box plain_any scal_int scal_bool scal_str scal_nil scal_ptr scal_loc scal_iptr scal_nils scal_sl scal_ms scal_agg scal_tup scal_fn scal_box scal_any cells_int cells_bool cells_str cells_nil cells_ptr cells_loc cells_iptr cells_nils cells_sl cells_ms cells_agg cells_tup cells_fn cells_box cells_any
  pickB_bool ldB_some whenB_true extB_tup nilB_ptr nilB_loc nilB_iptr pv_move pv_assign pv_pick pv_alloc pv_box pv_load pv_nilCheck pv_binOp pv_unOp pv_convert pv_fieldAddr pv_field pv_indexAddr pv_index pv_extract pv_slice pv_len pv_max pv_min pv_build pv_buildA pv_bsA idxOk_nil idxOk_cons kik_int conv_ii conv_ss pv_mkf pv_ms
  kill_plain killvs_plain unbox_plain unbox_box unbox_loc killv_box killvs_box killv_loc killvs_loc
  fldA alen_nils alen_sl alen_ms alen_str mm ibin_add ibin_sub ibin_mul ibin_quo ibin_rem ibin_eql ibin_neq ibin_lss ibin_leq ibin_gtr ibin_geq ibin_and ibin_or ibin_xor ibin_andNot shr_u8 shr_u32 shr_u64 shl_u8 shl_u32 shl_u64 bin_int bin_str bin_bool bin_booln bin_nil bin_niln bin_nils bin_nilsn bin_agg bin_aggn un_not un_neg eqv_bool eqv_nn eqv_np eqv_pn eqv_snn eqv_ssn eqv_smn eqv_struct slcA bnd_none bnd_int aslc_sl aslc_ms aslc_nils aslc_str fieldA atA partA fillA splice zerosA_one i64w u8w u16w u32w u64w i32w setH_same setH_ne idxA_sl idxA_ms idxA_arr idxA_loc locB_loc take1 rets_nil rets_tmp rets_cell cellV_some

end Go.Al

set_option linter.unusedVariables false
set_option linter.unusedSimpArgs false
namespace Go.Al
open Go

/-! ### slices that nobody owns, as lists -/
section
variable {α : Type}

/-- a slice of things of which each has these cells; none: nil -/
def ofS (f : α → List AV) (s : Option (List α)) : AV :=
  match s with
  | none => .nils
  | some l => .sl l.length (l.flatMap f)

def LL (s : Option (List α)) : List α := s.getD []
@[simp] theorem LL_none : LL (none : Option (List α)) = [] := by simp only [LL, Option.getD_none]
@[simp] theorem LL_some (l : List α) : LL (some l) = l := by simp only [LL, Option.getD_some]

variable {P : Program} {f : α → List AV} {s : Option (List α)}

@[simp] theorem ofS_plain : (ofS f s).plain = true := by cases s <;> simp [ofS]
@[simp] theorem ofS_known : (ofS f s).known = true := by cases s <;> simp [ofS]
@[simp] theorem ofS_scal : (ofS f s).scal = true := by cases s <;> simp [ofS]
@[simp] theorem ofS_cells : (ofS f s).cells = [ofS f s] := by cases s <;> simp [ofS]
theorem ofS_none : ofS f none = .nils := rfl

@[simp] theorem ofS_len {t : TypeId} (hok : (ti P t).ok = true) (hk : (ti P t).isS = true) : alen P t (ofS f s) = some (.int .i64 (LL s).length) := by
  cases s
  · rw [ofS, alen_nils hok hk]; rfl
  · rw [ofS, alen_sl hok hk]; rfl

theorem flat_len {sz : Nat} (hf : ∀ x, (f x).length = sz) (l : List α) : (l.flatMap f).length = l.length * sz := by
  induction l with
  | nil => simp
  | cons x l ih => simp [hf, ih, Nat.succ_mul, Nat.add_comm]

theorem flat_drop {sz : Nat} (hf : ∀ x, (f x).length = sz) (l : List α) (i : Nat) : (l.flatMap f).drop (i * sz) = (l.drop i).flatMap f := by
  induction l generalizing i with
  | nil => simp
  | cons x l ih =>
    cases i with
    | zero => simp
    | succ i =>
      rw [List.flatMap_cons, Nat.succ_mul, Nat.add_comm, List.drop_append, hf x, List.drop_of_length_le (by rw [hf x]; omega)]
      rw [show sz + i * sz - sz = i * sz by omega, ih]
      simp

theorem flat_take {sz : Nat} (hf : ∀ x, (f x).length = sz) (l : List α) (i : Nat) : (l.flatMap f).take (i * sz) = (l.take i).flatMap f := by
  induction l generalizing i with
  | nil => simp
  | cons x l ih =>
    cases i with
    | zero => simp
    | succ i =>
      rw [List.flatMap_cons, Nat.succ_mul, Nat.add_comm, List.take_append, hf x, List.take_of_length_le (by rw [hf x]; omega)]
      rw [show sz + i * sz - sz = i * sz by omega, ih]
      simp

theorem flat_at {sz : Nat} (hf : ∀ x, (f x).length = sz) (l : List α) (i : Nat) (h : i < l.length) : ((l.flatMap f).drop (i * sz)).take sz = f l[i] := by
  rw [flat_drop hf, List.drop_eq_getElem_cons h, List.flatMap_cons]
  rw [← hf l[i], List.take_left]

theorem ofS_idx {t : TypeId} {k : IntKind} {i : Int} (hf : ∀ x, (f x).length = (ti P (ti P t).el).size) (hok : (ti P t).ok = true) (hk : (ti P t).isS = true) (he : (ti P (ti P t).el).ok = true) (h0 : 0 ≤ i) (h1 : i.toNat < (LL s).length) :
    idxA P t (ofS f s) (.int k i) = some (.iptr (f ((LL s)[i.toNat]))) := by
  cases s with
  | none => simp at h1
  | some l =>
    have h1' : i.toNat < l.length := h1
    have : i < (l.length : Int) := by omega
    rw [ofS, idxA_sl hok hk he h0 this, flat_at hf l _ h1']
    rfl

theorem ofS_src {G : Hp} {sz : Nat} (hf : ∀ x, (f x).length = sz) : srcCells G sz (ofS f s) = some ((LL s).length, (LL s).flatMap f) := by
  cases s with
  | none => simp [ofS, srcCells]
  | some l => simp [ofS, srcCells, flat_len hf]

/-- s[lo:hi], both known -/
theorem ofS_slc {i : TI} {x y : Option AV} {lo hi : Nat} (hf : ∀ x, (f x).length = i.size) (hok : i.ok = true) (hx : bnd x 0 = some lo) (hy : bnd y (LL s).length = some hi) (h1 : lo ≤ hi) (h2 : hi ≤ (LL s).length) :
    slcA i (ofS f s) x y = some (ofS f (s.map fun l => (l.take hi).drop lo)) := by
  cases s with
  | none =>
    simp only [LL_none, List.length_nil] at hy h2
    have : hi = 0 := by omega
    subst this
    have : lo = 0 := by omega
    subst this
    simp only [ofS, slcA, hx, hy, Option.map_none, Nat.le_refl, and_self, if_true]
  | some l =>
    simp only [LL_some] at hy h2
    simp only [ofS, slcA, hx, hy, h1, h2, hok, and_self, if_true, Option.map_some]
    congr 2
    · simp; omega
    · rw [flat_drop hf, flat_take hf]
      congr 1
      rw [List.drop_take]

theorem ofS_aslc {t : TypeId} {x y : Option AV} {lo hi : Nat} (hf : ∀ x, (f x).length = (ti P (ti P t).el).size) (hok : (ti P t).ok = true) (hk : (ti P t).isS = true) (he : (ti P (ti P t).el).ok = true) (hx : bnd x 0 = some lo) (hy : bnd y (LL s).length = some hi) (h1 : lo ≤ hi) (h2 : hi ≤ (LL s).length) :
    aslc P t (ofS f s) x y = some (ofS f (s.map fun l => (l.take hi).drop lo)) := by
  rw [← ofS_slc hf he hx hy h1 h2]
  unfold aslc
  rw [if_pos hok, isS_kd hk]
  simp only [he, if_true]
  cases s <;> rfl

/-! ### a slice that grows in a block of its own -/
/-- out has l, in a block of its own beside G0 -/
def Grow (f : α → List AV) (sz : Nat) (G0 G : Hp) (out : AV) (l : List α) : Prop :=
  (out = .nils ∧ l = [] ∧ G = G0) ∨ ∃ b τ, G0 b = none ∧ out = .ms b 0 l.length sz ∧ G = setH G0 b (some (τ, l.flatMap f))

theorem Grow.nil (G : Hp) (sz : Nat) : Grow f sz G G .nils [] := .inl ⟨rfl, rfl, rfl⟩
theorem Grow.plain {sz : Nat} {G0 G : Hp} {out : AV} {l : List α} (h : Grow f sz G0 G out l) : out.plain = true := by
  rcases h with ⟨rfl, _⟩ | ⟨b, τ, _, rfl, _⟩ <;> simp

theorem Grow.len {sz : Nat} {G0 G : Hp} {out : AV} {l : List α} {t : TypeId} (h : Grow f sz G0 G out l) (hok : (ti P t).ok = true) (hk : (ti P t).isS = true) : alen P t out = some (.int .i64 l.length) := by
  rcases h with ⟨rfl, rfl, _⟩ | ⟨b, τ, _, rfl, _⟩
  · rw [alen_nils hok hk]; rfl
  · rw [alen_ms hok hk]

theorem Grow.app {sz : Nat} {G0 G : Hp} {out y : AV} {l xs : List α} {t u : TypeId} {k : AV → Tm → Hp → Prop} {T : Tm} (h : Grow f sz G0 G out l) 
    (hs : srcCells G sz y = some (xs.length, xs.flatMap f)) (hsc : (xs.flatMap f).all AV.scal = true) (hb : (l.length + xs.length) * ((ti P (ti P t).el).bytes + 1) ≤ LIM)
    (hk' : ∀ v G', Grow f sz G0 G' v (l ++ xs) → k v T G') (hf : ∀ x, (f x).length = sz := by simp)
    (hok : (ti P t).ok = true := by simp) (hk : (ti P t).isS = true := by simp) (he : (ti P (ti P t).el).ok = true := by simp) (hz : (ti P (ti P t).el).hasz = true := by simp) (hzs : (ti P (ti P t).el).zs.length = sz := by simp) (hsz : (ti P (ti P t).el).size = sz := by simp) (hou : (ti P u).ok = true := by simp)
    (hku : (ti P u).isS = true ∨ (ti P u).kd = .str := by simp) (hy : y.plain = true := by simp) : AppK P t u out y G k T := by
  have hb1 : l.length + xs.length ≤ LIM := Nat.le_trans (Nat.le_mul_of_pos_right _ (by omega)) hb
  have hb2 : (l.length + xs.length) * (ti P (ti P t).el).bytes ≤ LIM := Nat.le_trans (Nat.mul_le_mul_left _ (by omega)) hb
  unfold AppK
  simp only [aappB, hok, hou, hy, h.plain, true_and, isS_kd hk, he, hasz_zero hz, hsz, hzs]
  refine ⟨?_, ?_⟩
  · rcases hku with hku | hku
    · rw [isS_kd hku]; trivial
    · rw [hku]; trivial
  · rw [hs]
    rcases h with ⟨rfl, rfl, rfl⟩ | ⟨b, τ, hb0, rfl, rfl⟩
    · simp only [aapp]
      by_cases hn : xs.length = 0
      · rw [if_pos hn]
        have : xs = [] := List.eq_nil_of_length_eq_zero hn
        subst this
        exact hk' _ _ (.inl ⟨rfl, rfl, rfl⟩)
      · rw [if_neg hn]
        simp only [List.length_nil, Nat.zero_add] at hb1 hb2
        refine ⟨hb1, hb2, fun b hb => ⟨0, hk' _ _ (.inr ⟨b, 0, hb, ?_, ?_⟩)⟩⟩
        · simp [hsz]
        · simp
    · simp only [aapp, setH_same, hsz]
      refine ⟨trivial, trivial, flat_len hf l, hsc, hb1, hb2, fun b' hb' => hk' _ _ (.inr ⟨b', τ, ?_, ?_, ?_⟩)⟩
      · rcases hb' with rfl | hb'
        · exact hb0
        · unfold setH at hb'
          split at hb'
          · cases hb'
          · exact hb'
      · simp
      · rw [setH_undo hb0]; simp

theorem Grow.app1 {sz : Nat} {G0 G : Hp} {out : AV} {cs : List AV} {l : List α} {x : α} {t u : TypeId} {k : AV → Tm → Hp → Prop} {T : Tm} (h : Grow f sz G0 G out l) (hcs : cs = f x)
    (hsc : (f x).all AV.scal = true) (hb : (l.length + 1) * ((ti P (ti P t).el).bytes + 1) ≤ LIM)
    (hk' : ∀ v G', Grow f sz G0 G' v (l ++ [x]) → k v T G') (hf : ∀ x, (f x).length = sz := by simp)
    (hok : (ti P t).ok = true := by simp) (hk : (ti P t).isS = true := by simp) (he : (ti P (ti P t).el).ok = true := by simp) (hz : (ti P (ti P t).el).hasz = true := by simp) (hzs : (ti P (ti P t).el).zs.length = sz := by simp) (hsz : (ti P (ti P t).el).size = sz := by simp) (hou : (ti P u).ok = true := by simp)
    (hku : (ti P u).isS = true ∨ (ti P u).kd = .str := by simp) : AppK P t u out (.sl 1 cs) G k T := by
  subst hcs
  exact h.app (xs := [x]) (by simp [srcCells, hf]) (by simpa using hsc) (by simpa using hb) hk' hf hok hk he hz hzs hsz hou hku (by simp)

/-- it is handed back -/
theorem Grow.ends {sz : Nat} {G0 G : Hp} {out : AV} {l : List α} (h : Grow f sz G0 G out l) (hf : ∀ x, (f x).length = sz) (hpl : ∀ x, ∀ y ∈ f x, y.plain = true) {rs : List ResultVar} {post : AV → Hp → Prop} {T : Tm} (hr : rets P rs T G = [out])
    (hp : ∀ s : Option (List α), LL s = l → post (ofS f s) G0) : AEnds P rs post .ret T G := by
  rcases h with ⟨rfl, rfl, rfl⟩ | ⟨b, τ, hb, rfl, rfl⟩
  · exact ends_one hr (by simp) (hp none rfl)
  · refine ends_frz hr (setH_same ..) (flat_len hf l) ?_ ?_
    · rw [setH_undo hb]; exact hp (some l) rfl
    · intro x hx
      obtain ⟨y, _, hy⟩ := List.mem_flatMap.1 hx
      exact hpl y x hy
end

def cI (n : Int) : List AV := [.int .i64 n]
@[simp] theorem cI_len (n : Int) : (cI n).length = 1 := by simp only [cI, List.length_cons, List.length_nil]
def cU (n : Int) : List AV := [.int .u64 n]
@[simp] theorem cU_len (n : Int) : (cU n).length = 1 := by simp only [cU, List.length_cons, List.length_nil]
def cB (n : Int) : List AV := [.int .u8 n]
@[simp] theorem cB_len (n : Int) : (cB n).length = 1 := by simp only [cB, List.length_cons, List.length_nil]
theorem cI_scal (l : List Int) : (l.flatMap cI).all AV.scal = true := by induction l <;> simp_all [cI]
theorem cU_scal (l : List Int) : (l.flatMap cU).all AV.scal = true := by induction l <;> simp_all [cU]
theorem cB_scal (l : List Int) : (l.flatMap cB).all AV.scal = true := by induction l <;> simp_all [cB]
theorem cI_plain (n : Int) : ∀ y ∈ cI n, y.plain = true := by simp [cI]
theorem cU_plain (n : Int) : ∀ y ∈ cU n, y.plain = true := by simp [cU]
theorem cB_plain (n : Int) : ∀ y ∈ cB n, y.plain = true := by simp [cB]
end Go.Al

set_option linter.unusedVariables false
set_option linter.unusedSimpArgs false
namespace Go.Al
open Go

/-! ### frames -/
def emptyH : Hp := fun _ => none
def Dis (F h : Hp) : Prop := ∀ b, F b = none ∨ h b = none
def uni (F h : Hp) : Hp := fun b => match F b with
  | some o => some o
  | none => h b

theorem uni_left {F h : Hp} {b : Nat} {o : Nat × List AV} (e : F b = some o) : uni F h b = some o := by unfold uni; rw [e]
theorem uni_right {F h : Hp} {b : Nat} (e : F b = none) : uni F h b = h b := by unfold uni; rw [e]
theorem uni_ne {F h : Hp} {b : Nat} : uni F h b ≠ none ↔ F b ≠ none ∨ h b ≠ none := by
  unfold uni
  cases F b <;> simp

theorem ACalls.frame {P : Program} {f : FuncId} {args : List AV} {F hh : Hp} {post : AV → Hp → Prop} (h : ACalls P f args hh post) (hd : Dis F hh) :
    ACalls P f args (uni F hh) fun r G' => ∃ h', Dis F h' ∧ G' = uni F h' ∧ post r h' := by
  intro X w cargs hX hG hA
  let X' : Nat → Prop := fun b => X b ∨ F b ≠ none
  have hsub : ∀ b, (X b ∨ uni F hh b ≠ none) ↔ (X' b ∨ hh b ≠ none) := by
    intro b
    rw [uni_ne]
    exact ⟨fun h => h.elim (fun h => .inl (.inl h)) fun h => h.elim (fun h => .inl (.inr h)) .inr, fun h => h.elim (fun h => h.elim .inl fun h => .inr (.inl h)) fun h => .inr (.inr h)⟩
  have hF : ∀ b, F b ≠ none → ∃ τ cs, uni F hh b = some (τ, cs) := by
    intro b hb
    cases hq : F b with
    | none => exact absurd hq hb
    | some o => exact ⟨o.1, o.2, by rw [uni_left hq]⟩
  have hX' : ∀ b, X' b → b < w.heap.size := by
    rintro b (hb | hb)
    · exact hX b hb
    · obtain ⟨τ, cs, e⟩ := hF b hb
      exact (hG b τ cs e).2.1
  have hG' : GR w (fun b => X' b ∨ hh b ≠ none) X' hh := by
    intro b τ cs hb
    have hFb : F b = none := by
      rcases hd b with h | h
      · exact h
      · rw [h] at hb; cases hb
    obtain ⟨h1, h2, c, ty, vs, rest, h3, h4, h5⟩ := hG b τ cs (by rw [uni_right hFb]; exact hb)
    refine ⟨?_, h2, c, ty, vs, rest, h3, h4, VRs_stab (Stab.sub fun b hb => (hsub b).2 hb) _ _ h5⟩
    rintro (h | h)
    · exact h1 h
    · exact h hFb
  refine Calls.mono (h X' w cargs hX' hG' (VRs_stab (Stab.sub fun b hb => (hsub b).2 hb) _ _ hA)) ?_
  rintro e w' ⟨r, cr, h', he, tr, hg, hr, hp⟩
  have hd' : Dis F h' := by
    intro b
    cases hq : h' b with
    | none => exact .inr rfl
    | some o =>
      left
      have := (hg b o.1 o.2 hq).1
      by_cases hFb : F b = none
      · exact hFb
      · exact absurd (.inr hFb) this
  have hsub' : ∀ b, (X b ∨ uni F h' b ≠ none) ↔ (X' b ∨ h' b ≠ none) := by
    intro b
    rw [uni_ne]
    exact ⟨fun h => h.elim (fun h => .inl (.inl h)) fun h => h.elim (fun h => .inl (.inr h)) .inr, fun h => h.elim (fun h => h.elim .inl fun h => .inr (.inl h)) fun h => .inr (.inr h)⟩
  have S : Stab w (fun b => X b ∨ uni F hh b ≠ none) w' (fun b => X b ∨ uni F h' b ≠ none) := by
    refine ⟨fun b hb hlt => ?_, tr.size, tr.shape⟩
    have hn : hh b = none := by
      by_cases hn : hh b = none
      · exact hn
      · exact absurd ((hsub b).2 (.inr hn)) hb
    have := tr.blk b hlt hn
    refine ⟨?_, this.1⟩
    intro hc
    rcases (hsub' b).1 hc with hc | hc
    · exact hb ((hsub b).2 (.inl hc))
    · exact hc this.2
  refine ⟨r, cr, uni F h', he, ?_, ?_, VR_stab (Stab.sub fun b hb => (hsub' b).1 hb) _ _ hr, h', hd', rfl, hp⟩
  · refine ⟨tr.os, tr.tape, tr.output, tr.size, fun b hlt hb => ?_, tr.shape⟩
    have hFb : F b = none := by
      by_cases hFb : F b = none
      · exact hFb
      · exact absurd hb (uni_ne.2 (.inl hFb))
    rw [uni_right hFb] at hb
    have := tr.blk b hlt hb
    exact ⟨this.1, by rw [uni_right hFb]; exact this.2⟩
  · intro b τ cs hb
    by_cases hFb : F b = none
    · rw [uni_right hFb] at hb
      obtain ⟨h1, h2, c, ty, vs, rest, h3, h4, h5⟩ := hg b τ cs hb
      exact ⟨fun h => h1 (.inl h), h2, c, ty, vs, rest, h3, h4, VRs_stab (Stab.sub fun b hb => (hsub' b).1 hb) _ _ h5⟩
    · have hb' : uni F hh b = some (τ, cs) := by
        cases hq : F b with
        | none => exact absurd hq hFb
        | some o => rw [uni_left hq] at hb ⊢; exact hb
      obtain ⟨h1, h2, c, ty, vs, rest, h3, h4, h5⟩ := hG b τ cs hb'
      have hn : hh b = none := (hd b).resolve_left hFb
      have := tr.blk b h2 hn
      exact ⟨h1, Nat.lt_of_lt_of_le h2 tr.size, c, ty, vs, rest, by rw [this.1]; exact h3, h4, VRs_stab S _ _ h5⟩

theorem uni_empty (F : Hp) : uni F emptyH = F := by
  funext b; unfold uni emptyH
  cases F b <;> rfl
theorem empty_uni (F : Hp) : uni emptyH F = F := rfl
theorem dis_empty (F : Hp) : Dis F emptyH := fun b => .inr rfl

/-- what needs nothing leaves all -/
theorem ACalls.pure {P : Program} {f : FuncId} {args : List AV} {post : AV → Prop} (h : ACalls P f args emptyH fun r G' => G' = emptyH ∧ post r) (G : Hp) : ACalls P f args G fun r G' => G' = G ∧ post r := by
  have := h.frame (dis_empty G)
  rw [uni_empty] at this
  refine this.mono ?_
  rintro r G' ⟨h', _, rfl, rfl, hp⟩
  exact ⟨uni_empty G, hp⟩

def one (b : Nat) (o : Nat × List AV) : Hp := setH emptyH b (some o)

theorem uni_one (b : Nat) (o : Nat × List AV) (h : Hp) : uni (one b o) h = setH h b (some o) := by
  funext c
  unfold uni one setH emptyH
  by_cases hc : c = b <;> simp [hc]

theorem dis_one {b : Nat} {o : Nat × List AV} {h : Hp} : Dis (one b o) h ↔ h b = none := by
  constructor
  · intro hd
    rcases hd b with h1 | h1
    · simp [one, setH] at h1
    · exact h1
  · intro hb c
    by_cases hc : c = b
    · subst hc; exact .inr hb
    · left; simp [one, setH, hc, emptyH]

/-- one block more lies beside -/
theorem ACalls.frame1 {P : Program} {f : FuncId} {args : List AV} {hh : Hp} {b : Nat} {o : Nat × List AV} {post : AV → Hp → Prop} (h : ACalls P f args hh post) (hb : hh b = none) :
    ACalls P f args (setH hh b (some o)) fun r G' => ∃ h', h' b = none ∧ G' = setH h' b (some o) ∧ post r h' := by
  have := h.frame (dis_one (o := o).2 hb)
  rw [uni_one] at this
  refine this.mono ?_
  rintro r G' ⟨h', hd, rfl, hp⟩
  exact ⟨h', dis_one.1 hd, uni_one .., hp⟩

theorem uni_comm {F h : Hp} (hd : Dis F h) : uni F h = uni h F := by
  funext b
  unfold uni
  rcases hd b with e | e <;> rw [e]
  · cases h b <;> rfl
  · cases F b <;> rfl

theorem Dis.symm {F h : Hp} (hd : Dis F h) : Dis h F := fun b => (hd b).symm

theorem setH_comm {G : Hp} {b c : Nat} {x y : Option (Nat × List AV)} (h : b ≠ c) : setH (setH G b x) c y = setH (setH G c y) b x := by
  funext i
  unfold setH
  by_cases h1 : i = c <;> by_cases h2 : i = b <;> simp [h1, h2]
  · subst h1; exact absurd h2.symm h
  · intro h3; exact absurd h3 (Ne.symm h)
  · intro h3; exact absurd h3 h
@[simp] theorem one_same (b : Nat) (o : Nat × List AV) : one b o b = some o := by simp only [one, setH_same]
@[simp] theorem setH_one (b : Nat) (o o' : Nat × List AV) : setH (one b o) b (some o') = one b o' := by simp only [one, setH_setH]

section
variable {α : Type} {f : α → List AV} {sz : Nat} {G0 G : Hp} {out : AV} {l : List α}

theorem Grow.base (h : Grow f sz G0 G out l) {b : Nat} {o : Nat × List AV} (e : G0 b = some o) : G b = some o := by
  rcases h with ⟨_, _, rfl⟩ | ⟨c, τ, hc, _, rfl⟩
  · exact e
  · have : b ≠ c := by rintro rfl; rw [e] at hc; cases hc
    rw [setH_ne _ _ this]; exact e

theorem Grow.set (h : Grow f sz G0 G out l) {b : Nat} {o o' : Nat × List AV} (e : G0 b = some o) : Grow f sz (setH G0 b (some o')) (setH G b (some o')) out l := by
  rcases h with ⟨h1, h2, rfl⟩ | ⟨c, τ, hc, h1, rfl⟩
  · exact .inl ⟨h1, h2, rfl⟩
  · have : b ≠ c := by rintro rfl; rw [e] at hc; cases hc
    exact .inr ⟨c, τ, by rw [setH_ne _ _ (Ne.symm this)]; exact hc, h1, setH_comm (Ne.symm this)⟩

/-- what it has, where it has something -/
theorem Grow.ms (h : Grow f sz G0 G out l) (hl : l ≠ []) : ∃ b τ, G0 b = none ∧ out = .ms b 0 l.length sz ∧ G = setH G0 b (some (τ, l.flatMap f)) := by
  rcases h with ⟨_, rfl, _⟩ | h
  · exact absurd rfl hl
  · exact h

theorem Grow.src (h : Grow f sz G0 G out l) (hf : ∀ x, (f x).length = sz) : srcCells G sz out = some (l.length, l.flatMap f) := by
  rcases h with ⟨rfl, rfl, _⟩ | ⟨c, τ, hc, rfl, rfl⟩
  · rfl
  · simp [srcCells, setH_same, flat_len hf]
    rw [← flat_len hf, List.take_length]

theorem Grow.known (h : Grow f sz G0 G out l) : out.known = true := by rcases h with ⟨rfl, _⟩ | ⟨b, τ, _, rfl, _⟩ <;> simp
theorem Grow.scal (h : Grow f sz G0 G out l) : out.scal = true := by rcases h with ⟨rfl, _⟩ | ⟨b, τ, _, rfl, _⟩ <;> simp
theorem Grow.cells (h : Grow f sz G0 G out l) : out.cells = [out] := by rcases h with ⟨rfl, _⟩ | ⟨b, τ, _, rfl, _⟩ <;> simp

/-- a new slice, with nothing in it -/
theorem Grow.fresh {b : Nat} (hb : G b = none) : Grow f sz G (setH G b (some (0, []))) (.ms b 0 0 sz) ([] : List α) := .inr ⟨b, 0, hb, rfl, rfl⟩
end

section
variable {P : Program} {α : Type} {f : α → List AV} {s : Option (List α)} {t : TypeId}
theorem aslc_hi {k : IntKind} {i : Int} (hf : ∀ x, (f x).length = (ti P (ti P t).el).size) (hok : (ti P t).ok = true) (hk : (ti P t).isS = true) (he : (ti P (ti P t).el).ok = true) (h0 : 0 ≤ i) (h1 : i ≤ (LL s).length) :
    aslc P t (ofS f s) none (some (.int k i)) = some (ofS f (s.map fun l => l.take i.toNat)) := by
  rw [ofS_aslc hf hok hk he (bnd_none 0) (bnd_int h0) (by omega) (by omega)]
  simp
theorem aslc_lo {k : IntKind} {i : Int} (hf : ∀ x, (f x).length = (ti P (ti P t).el).size) (hok : (ti P t).ok = true) (hk : (ti P t).isS = true) (he : (ti P (ti P t).el).ok = true) (h0 : 0 ≤ i) (h1 : i ≤ (LL s).length) :
    aslc P t (ofS f s) (some (.int k i)) none = some (ofS f (s.map fun l => l.drop i.toNat)) := by
  rw [ofS_aslc hf hok hk he (bnd_int h0) (bnd_none _) (by omega) (by omega)]
  cases s <;> simp
theorem aslc_both {k k' : IntKind} {i j : Int} (hf : ∀ x, (f x).length = (ti P (ti P t).el).size) (hok : (ti P t).ok = true) (hk : (ti P t).isS = true) (he : (ti P (ti P t).el).ok = true) (h0 : 0 ≤ i) (h1 : i ≤ j) (h2 : j ≤ (LL s).length) :
    aslc P t (ofS f s) (some (.int k i)) (some (.int k' j)) = some (ofS f (s.map fun l => (l.take j.toNat).drop i.toNat)) := by
  rw [ofS_aslc hf hok hk he (bnd_int h0) (bnd_int (by omega)) (by omega) (by omega)]
@[simp] theorem LL_map (g : List α → List α) (hg : g [] = []) : LL (s.map g) = g (LL s) := by cases s <;> simp [hg]
end

theorem CallK.fr {P : Program} {g : Nat} {args : List AV} {F h : Hp} {k : AV → Tm → Hp → Prop} {T : Tm} {post : AV → Hp → Prop} (hc : ACalls P g args h post) (hd : Dis F h)
    (hk : ∀ r h', Dis F h' → BD r → r.plain = true → post r h' → k r T (uni F h')) : CallK P g args (uni F h) k T := by
  refine CallK.use (hc.frame hd) ?_
  rintro r G' hb hp ⟨h', hd', rfl, hq⟩
  exact hk r h' hd' hb hp hq

theorem CallK.fl {P : Program} {g : Nat} {args : List AV} {F h : Hp} {k : AV → Tm → Hp → Prop} {T : Tm} {post : AV → Hp → Prop} (hc : ACalls P g args h post) (hd : Dis h F)
    (hk : ∀ r h', Dis h' F → BD r → r.plain = true → post r h' → k r T (uni h' F)) : CallK P g args (uni h F) k T := by
  rw [uni_comm hd]
  refine CallK.fr hc hd.symm fun r h' hd' hb hp hq => ?_
  rw [← uni_comm hd'.symm]
  exact hk r h' hd'.symm hb hp hq

/-- a new thing beside what is there -/
theorem CallK.new {P : Program} {g : Nat} {args : List AV} {F : Hp} {k : AV → Tm → Hp → Prop} {T : Tm} {post : AV → Hp → Prop} (hc : ACalls P g args emptyH post)
    (hk : ∀ r h', Dis F h' → BD r → r.plain = true → post r h' → k r T (uni F h')) : CallK P g args F k T := by
  have := CallK.fr (k := k) (T := T) hc (dis_empty F) hk
  rwa [uni_empty] at this

theorem ends_drop {P : Program} {rs : List ResultVar} {post : AV → Hp → Prop} {T : Tm} {G : Hp} {x : AV} (h : rets P rs T G = [x]) (hx : x.plain = true) (hp : post x emptyH) : AEnds P rs post .ret T G :=
  ⟨.inl rfl, by rw [h]; simpa using hx, x, emptyH, (fun _ _ e => by cases e), (by rw [h]; exact Frz.refl x), hp⟩

theorem conv_ofS {P : Program} {G : Hp} {a d : TypeId} {s : Option (List Int)} (h1 : (ti P a).ok = true) (h2 : (ti P d).ok = true) (h3 : (ti P d).kd = .str) (h4 : (ti P a).isS = true) (h5 : (ti P (ti P a).el).ok = true) (h6 : (ti P (ti P a).el).kd = .int .u8) :
    conv P G a d (ofS cB s) = some (.str (strOfNums (LL s))) := by
  have hs : srcCells G 1 (ofS cB s) = some ((LL s).length, (LL s).flatMap cB) := ofS_src (by simp)
  have hm : intsOf ((LL s).flatMap cB) = some (LL s) := by
    have : (LL s).flatMap cB = (LL s).map (AV.int .u8) := by
      induction LL s with
      | nil => rfl
      | cons x l ih => simp [cB, ih]
    rw [this, intsOf_map]
  unfold conv
  rw [h1, h2, h3, isS_kd h4]
  simp only [Bool.and_self, if_true, h5, h6, decide_true]
  cases s with
  | none => simp only [ofS] at hs ⊢; rw [hs]; simp only [hm, Option.map_some]
  | some l => simp only [ofS] at hs ⊢; rw [hs]; simp only [hm, Option.map_some]

theorem ends_noneN {P : Program} {post : AV → Hp → Prop} {T : Tm} {G : Hp} (hp : post (.tup []) G) : AEnds P [] post .normal T G :=
  ⟨.inr rfl, by simp [rets], _, G, sub.refl G, Frz.refl _, hp⟩

end Go.Al

set_option linter.unusedVariables false
set_option linter.unusedSimpArgs false
namespace Go.Al
open Go

/-! ### single bits -/
theorem ibits_and (k : IntKind) (x y : Int) : ibits .and k x y = some (k.wrap (((x % ((2 ^ k.bits : Nat) : Int)).toNat &&& (y % ((2 ^ k.bits : Nat) : Int)).toNat : Nat) : Int)) := by
  simp only [ibits]
  rw [BitVec.toNat_and, BitVec.toNat_ofInt, BitVec.toNat_ofInt]
theorem ibits_or (k : IntKind) (x y : Int) : ibits .or k x y = some (k.wrap (((x % ((2 ^ k.bits : Nat) : Int)).toNat ||| (y % ((2 ^ k.bits : Nat) : Int)).toNat : Nat) : Int)) := by
  simp only [ibits]
  rw [BitVec.toNat_or, BitVec.toNat_ofInt, BitVec.toNat_ofInt]
theorem m8 (n : Nat) (h : n ≤ 255) : ((n : Int) % ((2 ^ IntKind.u8.bits : Nat) : Int)).toNat = n := by
  have : (2 ^ IntKind.u8.bits : Nat) = 256 := rfl
  rw [this]; omega
theorem m64 (n : Nat) (h : n ≤ 18446744073709551615) : ((n : Int) % ((2 ^ IntKind.u64.bits : Nat) : Int)).toNat = n := by
  have : (2 ^ IntKind.u64.bits : Nat) = 18446744073709551616 := rfl
  rw [this]; omega

theorem and1_u8 {y : Int} (h0 : 0 ≤ y) (h1 : y ≤ 255) : ibits .and .u8 y 1 = some (y % 2) := by
  obtain ⟨n, rfl⟩ := Int.eq_ofNat_of_zero_le h0
  rw [ibits_and, m8 n (by omega), show (1 : Int) = ((1 : Nat) : Int) from rfl, m8 1 (by omega), Nat.and_one_is_mod, u8w (by omega) (by omega)]
  simp

theorem and1_u64 {y : Int} (h0 : 0 ≤ y) (h1 : y ≤ 18446744073709551615) : ibits .and .u64 y 1 = some (y % 2) := by
  obtain ⟨n, rfl⟩ := Int.eq_ofNat_of_zero_le h0
  rw [ibits_and, m64 n (by omega), show (1 : Int) = ((1 : Nat) : Int) from rfl, m64 1 (by omega), Nat.and_one_is_mod, u64w (by omega) (by omega)]
  simp

theorem or2_u64 {v b : Int} (h0 : 0 ≤ v) (h1 : v ≤ 9223372036854775807) (hb0 : 0 ≤ b) (hb1 : b ≤ 1) : ibits .or .u64 (v * 2) b = some (2 * v + b) := by
  obtain ⟨n, rfl⟩ := Int.eq_ofNat_of_zero_le h0
  obtain ⟨c, rfl⟩ := Int.eq_ofNat_of_zero_le hb0
  rw [ibits_or, show ((n : Int) * 2) = ((n * 2 : Nat) : Int) by simp, m64 (n * 2) (by omega), m64 c (by omega), show n * 2 = 2 ^ 1 * n by omega, ← Nat.two_pow_add_eq_or_of_lt (i := 1) (by omega), u64w (by omega) (by omega)]
  simp

/-- the bit of a row of bytes -/
def bitAt (bs : List Int) (i : Nat) : Int := (bs.getD (i / 8) 0).fdiv (2 ^ (7 - i % 8)) % 2
def bitsL (bs : List Int) : List Int := (List.range (8 * bs.length)).map (bitAt bs)
def Bytes (bs : List Int) : Prop := ∀ x ∈ bs, 0 ≤ x ∧ x ≤ 255
def Bits01 (l : List Int) : Prop := ∀ x ∈ l, x = 0 ∨ x = 1
def valL (l : List Int) : Int := l.foldl (fun v x => 2 * v + x) 0

theorem bitAt01 (bs : List Int) (i : Nat) : bitAt bs i = 0 ∨ bitAt bs i = 1 := by
  unfold bitAt; omega
theorem bitsL01 (bs : List Int) : Bits01 (bitsL bs) := by
  intro x hx
  obtain ⟨i, _, rfl⟩ := List.mem_map.1 hx
  exact bitAt01 bs i
theorem bitsL_len (bs : List Int) : (bitsL bs).length = 8 * bs.length := by simp [bitsL]
theorem bitsL_get (bs : List Int) (i : Nat) (h : i < (bitsL bs).length) : (bitsL bs)[i] = bitAt bs i := by simp [bitsL]

theorem valL_snoc (l : List Int) (x : Int) : valL (l ++ [x]) = 2 * valL l + x := by simp [valL, List.foldl_append]
theorem valL_bound (l : List Int) (h : Bits01 l) : 0 ≤ valL l ∧ valL l < 2 ^ l.length := by
  have key : ∀ (l : List Int), Bits01 l → ∀ v : Int, 0 ≤ v → v * 2 ^ l.length ≤ l.foldl (fun v x => 2 * v + x) v ∧ l.foldl (fun v x => 2 * v + x) v < (v + 1) * 2 ^ l.length := by
    intro l
    induction l with
    | nil => intro _ v hv; simp; omega
    | cons x l ih =>
      intro h v hv
      have hx := h x (by simp)
      have := ih (fun y hy => h y (by simp [hy])) (2 * v + x) (by omega)
      simp only [List.foldl_cons, List.length_cons, Int.pow_succ]
      have p : (0 : Int) < 2 ^ l.length := Int.pow_pos (by omega)
      have e1 : v * (2 ^ l.length * 2) = (2 * v) * 2 ^ l.length := by rw [Int.mul_comm (2 ^ l.length) 2, ← Int.mul_assoc, Int.mul_comm v 2]
      have e2 : (v + 1) * (2 ^ l.length * 2) = (2 * v + 2) * 2 ^ l.length := by rw [Int.mul_comm (2 ^ l.length) 2, ← Int.mul_assoc, Int.add_mul, Int.mul_comm v 2]; rfl
      rw [e1, e2]
      rcases hx with rfl | rfl
      · refine ⟨by simpa using this.1, Int.lt_of_lt_of_le this.2 (Int.mul_le_mul_of_nonneg_right (by omega) (by omega))⟩
      · refine ⟨Int.le_trans (Int.mul_le_mul_of_nonneg_right (by omega) (by omega)) this.1, ?_⟩
        rw [show 2 * v + 2 = 2 * v + 1 + 1 by omega]; exact this.2
  have := key l h 0 (by omega)
  simpa [valL] using this

theorem valL_lt (l : List Int) (h : Bits01 l) {n : Nat} (hn : l.length ≤ n) : valL l < 2 ^ n :=
  Int.lt_of_lt_of_le (valL_bound l h).2 (by have := Nat.pow_le_pow_right (n := 2) (by omega) hn; exact_mod_cast this)

theorem Bits01.take {l : List Int} (h : Bits01 l) (n : Nat) : Bits01 (l.take n) := fun x hx => h x (List.mem_of_mem_take hx)
theorem Bits01.drop {l : List Int} (h : Bits01 l) (n : Nat) : Bits01 (l.drop n) := fun x hx => h x (List.mem_of_mem_drop hx)
theorem Bits01.append {l m : List Int} (h : Bits01 l) (k : Bits01 m) : Bits01 (l ++ m) := fun x hx => by
  rcases List.mem_append.1 hx with hx | hx
  · exact h x hx
  · exact k x hx

theorem take_succ_get {α : Type} (l : List α) (k : Nat) (h : k < l.length) : l.take (k + 1) = l.take k ++ [l[k]] := by
  rw [List.take_succ_eq_append_getElem h]
end Go.Al

set_option linter.unusedVariables false
set_option linter.unusedSimpArgs false
namespace Go.Al
open Go

/-! ### rows of one cell each -/
theorem cB_map (l : List Int) : l.flatMap cB = l.map (AV.int .u8) := by induction l <;> simp_all [cB]
theorem cI_map (l : List Int) : l.flatMap cI = l.map (AV.int .i64) := by induction l <;> simp_all [cI]
theorem cU_map (l : List Int) : l.flatMap cU = l.map (AV.int .u64) := by induction l <;> simp_all [cU]
theorem splice_set {k : IntKind} (l : List Int) {q : Nat} {v : Int} (h : q < l.length) : (l.map (AV.int k)).take q ++ AV.int k v :: (l.map (AV.int k)).drop (q + 1) = (l.set q v).map (AV.int k) := by
  rw [← List.map_take, ← List.map_drop, ← List.map_cons, ← List.map_append, List.set_eq_take_append_cons_drop, if_pos h]

/-! ### writing single bits -/
theorem bit_nat (x s : Nat) : ((x : Int).fdiv (2 ^ s)) % 2 = ((x / 2 ^ s % 2 : Nat) : Int) := by
  rw [Int.fdiv_eq_ediv_of_nonneg _ (Int.le_of_lt (Int.pow_pos (by omega)))]
  have : ((2 : Int) ^ s) = ((2 ^ s : Nat) : Int) := by simp
  rw [this, ← Int.natCast_ediv]
  omega

theorem tb (x i : Nat) : x / 2 ^ i % 2 = (x.testBit i).toNat := by
  rw [Nat.testBit_eq_decide_div_mod_eq]
  rcases Nat.mod_two_eq_zero_or_one (x / 2 ^ i) with h | h <;> simp [h]

theorem or_bit {v b : Int} {s : Nat} (h0 : 0 ≤ v) (h1 : v ≤ 255) (hs : s < 8) (hb : b = 0 ∨ b = 1) (hz : v.fdiv (2 ^ s) % 2 = 0) :
    ∃ v', ibits .or .u8 v (b * 2 ^ s) = some v' ∧ 0 ≤ v' ∧ v' ≤ 255 ∧ ∀ j, j < 8 → v'.fdiv (2 ^ j) % 2 = if j = s then b else v.fdiv (2 ^ j) % 2 := by
  obtain ⟨x, rfl⟩ := Int.eq_ofNat_of_zero_le h0
  have hp : 2 ^ s ≤ 128 := by
    have := Nat.pow_le_pow_right (n := 2) (by omega) (show s ≤ 7 by omega)
    simpa using this
  have hlt : ∀ y : Nat, y ≤ 255 → x ||| y ≤ 255 := by
    intro y hy
    have := Nat.or_lt_two_pow (n := 8) (x := x) (y := y) (by omega) (by omega)
    omega
  rcases hb with rfl | rfl
  · refine ⟨x, ?_, by omega, h1, fun j hj => ?_⟩
    · rw [ibits_or, Int.zero_mul, show (0 : Int) = ((0 : Nat) : Int) from rfl, m8 x (by omega), m8 0 (by omega), Nat.or_zero, u8w (by omega) (by omega)]
    · split
      · rename_i h; subst h; exact hz
      · rfl
  · refine ⟨((x ||| 2 ^ s : Nat) : Int), ?_, by omega, by have := hlt (2 ^ s) (by omega); omega, fun j hj => ?_⟩
    · rw [ibits_or, Int.one_mul, show ((2 : Int) ^ s) = ((2 ^ s : Nat) : Int) by simp, m8 x (by omega), m8 (2 ^ s) (by omega), u8w (by omega) (by have := hlt (2 ^ s) (by omega); omega)]
    · rw [bit_nat, bit_nat, tb, tb, Nat.testBit_or, Nat.testBit_two_pow]
      by_cases h : j = s
      · subst h; simp
      · rw [if_neg h]
        have : ¬ s = j := fun e => h e.symm
        simp [this]

/-- where another byte stands in a row of bytes -/
theorem bitAt_set {bs : List Int} {q i : Nat} {v : Int} (hq : q < bs.length) : bitAt (bs.set q v) i = if i / 8 = q then v.fdiv (2 ^ (7 - i % 8)) % 2 else bitAt bs i := by
  unfold bitAt
  by_cases h : i / 8 = q
  · subst h
    simp [List.getD, hq]
  · rw [if_neg h]
    simp [List.getD, List.getElem?_set, Ne.symm h]

theorem Bytes.set {bs : List Int} (h : Bytes bs) {q : Nat} {v : Int} (h0 : 0 ≤ v) (h1 : v ≤ 255) : Bytes (bs.set q v) := fun x hx => by
  rcases List.mem_or_eq_of_mem_set hx with hx | rfl
  · exact h x hx
  · exact ⟨h0, h1⟩
theorem Bytes.append {bs cs : List Int} (h : Bytes bs) (k : Bytes cs) : Bytes (bs ++ cs) := fun x hx => by
  rcases List.mem_append.1 hx with hx | hx
  · exact h x hx
  · exact k x hx

theorem bitAt_app {bs cs : List Int} {i : Nat} (h : i < 8 * bs.length) : bitAt (bs ++ cs) i = bitAt bs i := by
  unfold bitAt
  have : i / 8 < bs.length := by omega
  simp [List.getD, List.getElem?_append_left this]
theorem bitAt_app' {bs cs : List Int} {i : Nat} (h : 8 * bs.length ≤ i) : bitAt (bs ++ cs) i = bitAt cs (i - 8 * bs.length) := by
  unfold bitAt
  have h1 : bs.length ≤ i / 8 := by omega
  have h2 : (i - 8 * bs.length) / 8 = i / 8 - bs.length := by omega
  have h3 : (i - 8 * bs.length) % 8 = i % 8 := by omega
  simp [List.getD, List.getElem?_append_right h1, h2, h3]

/-- these bytes are those bits, and noughts -/
def Packed (bs l : List Int) : Prop := Bytes bs ∧ Bits01 l ∧ l.length ≤ 8 * bs.length ∧ 8 * bs.length < l.length + 8 ∧ (∀ i (h : i < l.length), bitAt bs i = l[i]) ∧ ∀ i, l.length ≤ i → i < 8 * bs.length → bitAt bs i = 0

theorem Packed.full {bs : List Int} (h : Bytes bs) : Packed bs (bitsL bs) :=
  ⟨h, bitsL01 bs, by rw [bitsL_len]; omega, by rw [bitsL_len]; omega, fun i hi => (bitsL_get bs i hi).symm, fun i h1 h2 => by rw [bitsL_len] at h1; omega⟩

theorem Packed.nil : Packed [] [] := ⟨by simp [Bytes], by simp [Bits01], by simp, by simp, by simp, by simp⟩

theorem Packed.bits {bs l : List Int} (h : Packed bs l) : bitsL bs = l ++ List.replicate (8 * bs.length - l.length) 0 := by
  obtain ⟨h1, _, h2, h3, h4, h5⟩ := h
  refine List.ext_getElem (by rw [bitsL_len]; simp; omega) fun i h6 h7 => ?_
  rw [bitsL_get]
  by_cases hi : i < l.length
  · rw [List.getElem_append_left hi, h4 i hi]
  · rw [bitsL_len] at h6
    rw [List.getElem_append_right (by omega), List.getElem_replicate, h5 i (by omega) (by omega)]

theorem Packed.zero {bs l : List Int} (h : Packed bs l) (hz : l.length % 8 = 0) : 8 * bs.length = l.length ∧ (Bytes (bs ++ [0]) ∧ ∀ i, l.length ≤ i → i < 8 * (bs ++ [0]).length → bitAt (bs ++ [0]) i = 0) := by
  obtain ⟨h1, _, h2, h3, h4, h5⟩ := h
  have e : 8 * bs.length = l.length := by omega
  refine ⟨e, h1.append (by simp [Bytes]), fun i hi _ => ?_⟩
  rw [bitAt_app' (by omega)]
  simp only [bitAt]
  have : i - 8 * bs.length < 8 := by
    rename_i h; simp at h; omega
  have h8 : (i - 8 * bs.length) / 8 = 0 := by omega
  rw [h8]; simp

theorem Packed.unique {bs cs l : List Int} (h : Packed bs l) (k : Packed cs l) : bs = cs := by
  have hlen : bs.length = cs.length := by have := h.2.2.1; have := h.2.2.2.1; have := k.2.2.1; have := k.2.2.2.1; omega
  have hbits : ∀ i, i < 8 * bs.length → bitAt bs i = bitAt cs i := by
    intro i hi
    by_cases hl : i < l.length
    · rw [h.2.2.2.2.1 i hl, k.2.2.2.2.1 i hl]
    · rw [h.2.2.2.2.2 i (by omega) hi, k.2.2.2.2.2 i (by omega) (by omega)]
  refine List.ext_getElem hlen fun q h1 h2 => ?_
  have b1 := h.1 _ (List.getElem_mem h1)
  have b2 := k.1 _ (List.getElem_mem h2)
  have key : ∀ j, j < 8 → (bs[q]).fdiv (2 ^ j) % 2 = (cs[q]).fdiv (2 ^ j) % 2 := by
    intro j hj
    have := hbits (8 * q + (7 - j)) (by omega)
    unfold bitAt at this
    have e1 : (8 * q + (7 - j)) / 8 = q := by omega
    have e2 : 7 - (8 * q + (7 - j)) % 8 = j := by omega
    rw [e1, e2] at this
    simpa [List.getD, h1, h2] using this
  have k0 := key 0 (by omega); have k1 := key 1 (by omega); have k2 := key 2 (by omega); have k3 := key 3 (by omega)
  have k4 := key 4 (by omega); have k5 := key 5 (by omega); have k6 := key 6 (by omega); have k7 := key 7 (by omega)
  generalize bs[q] = x at *
  generalize cs[q] = y at *
  have f : ∀ (z : Int) (n : Nat), z.fdiv (2 ^ n) = z / 2 ^ n := fun z n => Int.fdiv_eq_ediv_of_nonneg _ (Int.le_of_lt (Int.pow_pos (by omega)))
  simp only [f] at k0 k1 k2 k3 k4 k5 k6 k7
  simp only [show (2 : Int) ^ 0 = 1 by decide, show (2 : Int) ^ 1 = 2 by decide, show (2 : Int) ^ 2 = 4 by decide, show (2 : Int) ^ 3 = 8 by decide, show (2 : Int) ^ 4 = 16 by decide, show (2 : Int) ^ 5 = 32 by decide, show (2 : Int) ^ 6 = 64 by decide, show (2 : Int) ^ 7 = 128 by decide] at k0 k1 k2 k3 k4 k5 k6 k7
  omega

/-- one bit more -/
theorem Packed.put {bs l : List Int} {b v' : Int} {q r : Nat} (hB : Bytes bs) (h01 : Bits01 l) (hb : b = 0 ∨ b = 1) (hq : q < bs.length) (hn : l.length = 8 * q + r) (hr : r < 8) (hlen : bs.length = q + 1)
    (h4 : ∀ i (h : i < l.length), bitAt bs i = l[i]) (h5 : ∀ i, l.length ≤ i → i < 8 * bs.length → bitAt bs i = 0)
    (hv0 : 0 ≤ v') (hv1 : v' ≤ 255) (hv : ∀ j, j < 8 → v'.fdiv (2 ^ j) % 2 = if j = 7 - r then b else (bs[q]).fdiv (2 ^ j) % 2) : Packed (bs.set q v') (l ++ [b]) := by
  have hget : ∀ i, i / 8 = q → bitAt bs i = (bs[q]).fdiv (2 ^ (7 - i % 8)) % 2 := by
    intro i hi
    unfold bitAt
    rw [hi]; simp [List.getD, hq]
  refine ⟨hB.set hv0 hv1, h01.append (by intro x hx; simp at hx; subst hx; exact hb), by simp; omega, by simp; omega, fun i hi => ?_, fun i hi hi2 => ?_⟩
  · rw [bitAt_set hq]
    simp at hi
    by_cases h : i / 8 = q
    · rw [if_pos h, hv _ (by omega), ← hget i h]
      by_cases h7 : i < l.length
      · rw [if_neg (by omega), List.getElem_append_left h7, h4 i h7]
      · have : i = l.length := by omega
        subst this
        rw [if_pos (by omega)]; simp
    · rw [if_neg h]
      have h7 : i < l.length := by omega
      rw [List.getElem_append_left h7, h4 i h7]
  · simp at hi hi2
    rw [bitAt_set hq]
    have h : i / 8 = q := by omega
    rw [if_pos h, hv _ (by omega), if_neg (by omega), ← hget i h, h5 i (by omega) (by omega)]
end Go.Al

set_option linter.unusedVariables false
set_option linter.unusedSimpArgs false
namespace Go.Al
open Go Go.RowKit

/-! ### a law's run, for its row -/
theorem acalls_row {P : Program} {f : FuncId} {args : List AV} {cargs : Array Value} {w : World} (h : ACalls P f args emptyH fun r G' => G' = emptyH ∧ r = .bool true) (hA : VRs w (fun _ => False) args cargs.toList) :
    Calls P f cargs w fun e w' => e = .returned (.bool true) ∧ Below w.heap.size w w' := by
  have hs : Stab w (fun _ => False) w (fun b => False ∨ emptyH b ≠ none) := Stab.sub fun b hb => by
    rcases hb with hb | hb
    · exact hb
    · exact hb rfl
  refine Calls.mono (h (fun _ => False) w cargs (fun b hb => hb.elim) (fun b τ cs hb => by cases hb) (VRs_stab hs _ _ hA)) ?_
  rintro e w' ⟨r, cr, G', rfl, tr, _, hr, rfl, rfl⟩
  simp only [VR] at hr
  subst hr
  exact ⟨rfl, tr.os, tr.tape, tr.output, tr.size, fun k hk => (tr.blk k hk rfl).1⟩

/-- numbers that lie in a row -/
theorem MR_ints {w : World} {k : IntKind} {x : Addr} (hb : x.block < w.heap.size) : ∀ (zs : List Int) (j : Nat), (∀ i, i < zs.length → w.cell? (x.add (j + i)) = some (.int k (zs.getD i 0))) → MR w (fun _ => False) (zs.map (AV.int k)) x j
  | [], j, _ => by simp only [List.map_nil, MR]
  | z :: zs, j, h => by
    simp only [List.map_cons, MR]
    refine ⟨⟨fun h => h, hb, .int k z, ?_, by simp only [VR]⟩, MR_ints hb zs (j + 1) fun i hi => ?_⟩
    · have := h 0 (by simp)
      simpa using this
    · have := h (i + 1) (by simp; omega)
      rw [show j + 1 + i = j + (i + 1) by omega]
      simpa using this
end Go.Al

set_option linter.unusedVariables false
set_option linter.unusedSimpArgs false
namespace Go.Al
open Go

/-! ### steps that need no names -/
def KImp (R K : Tm → Hp → Prop) : Prop := ∀ T G, R T G → K T G
def PImp (R A : Prop) : Prop := R → A
theorem useK {K R : Tm → Hp → Prop} {T : Tm} {G : Hp} (h : KImp R K) (x : R T G) : K T G := h _ _ x
theorem useP {A R : Prop} (h : PImp R A) (x : R) : A := h x

def condB : AV → Prop → Prop → Prop
  | .bool t, A, B => (t = true → A) ∧ (t = false → B)
  | _, _, _ => False
@[simp] theorem condB_bool (t : Bool) (A B : Prop) : condB (.bool t) A B = ((t = true → A) ∧ (t = false → B)) := by simp only [condB]

section
variable {P : Program} {gl : List Nat} {Q : Exit → Tm → Hp → Prop} {T : Tm} {G : Hp}
theorem awp_seqK {a b : CC} (h : ∀ K : Tm → Hp → Prop, KImp (awp P gl b Q) K → awp P gl a (thn K Q) T G) : awp P gl (.seq a b) Q T G := h _ fun _ _ h => h
@[simp] theorem isAddr_f (t : TypeId) (x : Operand) (f : Nat) : isAddr (.fieldAddr t x f) = true := by simp only [isAddr]
@[simp] theorem isAddr_i (t : TypeId) (x y : Operand) : isAddr (.indexAddr t x y) = true := by simp only [isAddr]
@[simp] theorem isAddr_m (x : Operand) : isAddr (.move x) = true := by simp only [isAddr]
@[simp] theorem isAddr_a (x : Operand) : isAddr (.assign x) = true := by simp only [isAddr]
@[simp] theorem isAddr_n (x : Operand) : isAddr (.nilCheck x) = true := by simp only [isAddr]
structure Hd (p : Prop) : Prop where
  out : p
theorem awp_seqH {a b : CC} (h : ∀ K : Tm → Hp → Prop, Hd (∀ T G, awp P gl b Q T G → K T G) → awp P gl a (thn K Q) T G) : awp P gl (.seq a b) Q T G := h _ ⟨fun _ _ h => h⟩
theorem awp_condG {c : Operand} {a b : CC} (h : ∀ A B : Prop, PImp (awp P gl a Q T G) A → PImp (awp P gl b Q T G) B → condB (ev T c) A B) : awp P gl (.cond c a b) Q T G := by
  have h := h _ _ (fun h => h) (fun h => h)
  generalize hv : ev T c = v at h
  cases v <;> simp only [condB] at h <;> first | exact h.elim | skip
  simp only [awp, hv]
  exact h
theorem GDsplit {dst : Option Nat} {op : Op} {ob : List CO} {r : List It} {k : Tm → Hp → Prop} {p : Prop} [Decidable p] (h1 : p → GD P gl dst op ob r k T G true) (h2 : ¬ p → GD P gl dst op ob r k T G false) : GD P gl dst op ob r k T G (decide p) := by
  by_cases h : p
  · rw [decide_eq_true h]; exact h1 h
  · rw [decide_eq_false h]; exact h2 h
theorem GDsplitB {dst : Option Nat} {op : Op} {ob : List CO} {r : List It} {k : Tm → Hp → Prop} {b : Bool} (h1 : b = true → GD P gl dst op ob r k T G true) (h2 : b = false → GD P gl dst op ob r k T G false) : GD P gl dst op ob r k T G b := by
  cases b
  · exact h2 rfl
  · exact h1 rfl
theorem GKsplit {dst : Option Nat} {op : Op} {r : List CO} {k : Tm → Hp → Prop} {p : Prop} [Decidable p] (h1 : p → GK P gl dst op r k T G true) (h2 : ¬ p → GK P gl dst op r k T G false) : GK P gl dst op r k T G (decide p) := by
  by_cases h : p
  · rw [decide_eq_true h]; exact h1 h
  · rw [decide_eq_false h]; exact h2 h
theorem GKsplitB {dst : Option Nat} {op : Op} {r : List CO} {k : Tm → Hp → Prop} {b : Bool} (h1 : b = true → GK P gl dst op r k T G true) (h2 : b = false → GK P gl dst op r k T G false) : GK P gl dst op r k T G b := by
  cases b
  · exact h2 rfl
  · exact h1 rfl
theorem GDsplitN {dst : Option Nat} {op : Op} {ob : List CO} {r : List It} {k : Tm → Hp → Prop} {p : Prop} [Decidable p] (h1 : ¬ p → GD P gl dst op ob r k T G true) (h2 : p → GD P gl dst op ob r k T G false) : GD P gl dst op ob r k T G (!decide p) := by
  by_cases h : p
  · rw [decide_eq_true h]; exact h2 h
  · rw [decide_eq_false h]; exact h1 h
theorem GDsplitNB {dst : Option Nat} {op : Op} {ob : List CO} {r : List It} {k : Tm → Hp → Prop} {b : Bool} (h1 : b = false → GD P gl dst op ob r k T G true) (h2 : b = true → GD P gl dst op ob r k T G false) : GD P gl dst op ob r k T G (!b) := by
  cases b
  · exact h1 rfl
  · exact h2 rfl
theorem GKsplitN {dst : Option Nat} {op : Op} {r : List CO} {k : Tm → Hp → Prop} {p : Prop} [Decidable p] (h1 : ¬ p → GK P gl dst op r k T G true) (h2 : p → GK P gl dst op r k T G false) : GK P gl dst op r k T G (!decide p) := by
  by_cases h : p
  · rw [decide_eq_true h]; exact h2 h
  · rw [decide_eq_false h]; exact h1 h
theorem GKsplitNB {dst : Option Nat} {op : Op} {r : List CO} {k : Tm → Hp → Prop} {b : Bool} (h1 : b = false → GK P gl dst op r k T G true) (h2 : b = true → GK P gl dst op r k T G false) : GK P gl dst op r k T G (!b) := by
  cases b
  · exact h1 rfl
  · exact h2 rfl
theorem ED_cons {l : CO} {ls : List CO} {r : List It} {k : Tm → Hp → Prop} {dst : Option Nat} {v : AV} (h1 : v.plain = true → stable P l (updO T dst v) G) (h2 : ED P gl ls r k dst v T G) : ED P gl (l :: ls) r k dst v T G := fun hv => by
  refine ⟨fun x hx => ?_, (h2 hv).2⟩
  rcases List.mem_cons.1 hx with rfl | hx
  · exact h1 hv
  · exact (h2 hv).1 x hx
theorem stable_mk {d : Nat} {g : Option (Nat × Bool)} {op : Op} (h : pv P op T G = some (T d)) : stable P ⟨some d, g, op⟩ T G := fun _ => ⟨d, rfl, h⟩
theorem stable_no {d : Nat} {b : Bool} {dst : Option Nat} {op : Op} (h : gd T (some (d, b)) = some false) : stable P ⟨dst, some (d, b), op⟩ T G := fun h' => by rw [h] at h'; cases h'
end
end Go.Al

set_option linter.unusedVariables false
set_option linter.unusedSimpArgs false
namespace Go.Al
open Go

/-! ### data that come in: their shape, as Lean's own -/
inductive TD where
  | int (k : IntKind)
  | bool
  | str
  | slc (a : TD)
  | two (a b : TD)
  | unit

def TD.T : TD → Type
  | .int _ => Int
  | .bool => Bool
  | .str => ByteArray
  | .slc a => Option (List a.T)
  | .two a b => a.T × b.T
  | .unit => Unit

def TD.cells : (d : TD) → d.T → List AV
  | .int k, n => [.int k n]
  | .bool, b => [.bool b]
  | .str, s => [.str s]
  | .slc a, s => [ofS (TD.cells a) s]
  | .two a b, p => TD.cells a p.1 ++ TD.cells b p.2
  | .unit, _ => []

def TD.size : TD → Nat
  | .int _ => 1
  | .bool => 1
  | .str => 1
  | .slc _ => 1
  | .two a b => a.size + b.size
  | .unit => 0

def TD.ok : (d : TD) → d.T → Prop
  | .int k, n => (Lit.int k n).wf = true
  | .bool, _ => True
  | .str, s => s.size ≤ LIM
  | .slc a, s => (LL s).length ≤ LIM ∧ ∀ x ∈ LL s, TD.ok a x
  | .two a b, p => TD.ok a p.1 ∧ TD.ok b p.2
  | .unit, _ => True

theorem TD.cells_len : ∀ (d : TD) (x : d.T), (d.cells x).length = d.size
  | .int _, _ => rfl
  | .bool, _ => rfl
  | .str, _ => rfl
  | .slc _, _ => rfl
  | .two a b, p => by simp only [TD.cells, TD.size, List.length_append, TD.cells_len a, TD.cells_len b]
  | .unit, _ => rfl

def TD.rep (a : TD) : Nat → TD
  | 0 => .unit
  | n + 1 => .two a (TD.rep a n)
theorem TD.rep_size (a : TD) : ∀ n, (TD.rep a n).size = n * a.size
  | 0 => by simp [TD.rep, TD.size]
  | n + 1 => by simp only [TD.rep, TD.size, TD.rep_size a n]; rw [Nat.add_mul]; omega

mutual
inductive Fits (P : Program) : TD → TypeId → Prop
  | int {k : IntKind} {t : TypeId} (h : P.underlying t = some (.int k)) : Fits P (.int k) t
  | bool {t : TypeId} (h : P.underlying t = some .bool) : Fits P .bool t
  | str {t : TypeId} (h : P.underlying t = some .string) : Fits P .str t
  | slc {a : TD} {t e : TypeId} (h : P.underlying t = some (.slice e)) (ha : Fits P a e) (hs : P.cellsOf e = a.size) (h0 : 0 < a.size) (hb : 0 < P.bytesOf e) : Fits P (.slc a) t
  | struct {a : TD} {t : TypeId} {fs : Array Field} (h : P.underlying t = some (.struct fs)) (ha : FitsF P a fs.toList 0) (hs : P.cellsOf t = a.size) : Fits P a t
  | arr {a : TD} {t e : TypeId} {n : Nat} (h : P.underlying t = some (.array n e)) (ha : Fits P a e) (hs : P.cellsOf e = a.size) (ht : P.cellsOf t = n * a.size) : Fits P (TD.rep a n) t
inductive FitsF (P : Program) : TD → List Field → Nat → Prop
  | nil {o : Nat} : FitsF P .unit [] o
  | cons {a r : TD} {f : Field} {fs : List Field} {o : Nat} (ho : f.offset = o) (ha : Fits P a f.type) (hs : P.cellsOf f.type = a.size) (hr : FitsF P r fs (o + a.size)) : FitsF P (.two a r) (f :: fs) o
end

theorem MR_app {w : World} {O : Nat → Prop} : ∀ {xs ys : List AV} {a : Addr} {j : Nat}, MR w O xs a j → MR w O ys a (j + xs.length) → MR w O (xs ++ ys) a j
  | [], ys, a, j, _, k => by simpa using k
  | x :: xs, ys, a, j, h, k => by
    simp only [List.cons_append, MR] at h ⊢
    refine ⟨h.1, MR_app h.2 ?_⟩
    rw [show j + 1 + xs.length = j + (x :: xs).length by simp; omega]
    exact k

theorem MR_cells {w : World} {O : Nat → Prop} : ∀ {xs : List AV} {vs : List Value} {a : Addr} {j : Nat}, VRs w O xs vs → ¬ O a.block → a.block < w.heap.size → (∀ i v, vs[i]? = some v → w.cell? (a.add (j + i)) = some v) → MR w O xs a j
  | [], _, _, _, _, _, _, _ => by simp only [MR]
  | x :: xs, vs, a, j, h, hO, hb, hc => by
    simp only [VRs] at h
    obtain ⟨v, vs', rfl, h2, h3⟩ := h
    simp only [MR]
    refine ⟨⟨hO, hb, v, by simpa using hc 0 v (by simp), h2⟩, MR_cells h3 hO hb fun i u hu => ?_⟩
    have := hc (i + 1) u (by simpa using hu)
    simpa [Nat.add_assoc, Nat.add_comm 1 i] using this

section
variable {H : Type} {enc : TypeId × Value → H} {P : Program} {w : World} {base : Nat} {spare : Nat → Bool} {held : Bool}

theorem open_fields {n : Nat} {cs : List Value}
    (ih : ∀ (d : TD) (t : TypeId) (cs : List Value) (x : DataW H × List MemPlace), Fits P d t → DataW.trod enc P w base spare held n t cs = some x → (x.1.weights P t).all (· ≤ reachBytes) = true → ∃ z : d.T, d.ok z ∧ VRs w (fun _ => False) (d.cells z) cs) :
    ∀ (fl : List Field) (d : TD) (o : Nat) (ys : List (DataW H × List MemPlace)), FitsF P d fl o → ys.length = fl.length →
      (∀ (i : Nat) (f : Field), fl[i]? = some f → DataW.trod enc P w base spare held n f.type ((cs.drop f.offset).take (P.cellsOf f.type)) = ys[i]?) →
      (DataW.weightsEach P (fl.map (·.type)) (ys.map (·.1))).all (· ≤ reachBytes) = true → o + d.size ≤ cs.length →
      ∃ z : d.T, d.ok z ∧ VRs w (fun _ => False) (d.cells z) ((cs.drop o).take d.size)
  | [], d, o, ys, hf, _, _, _, _ => by
    cases hf
    exact ⟨(), trivial, by simp only [TD.cells, TD.size, List.take_zero, VRs]⟩
  | f :: fl, d, o, ys, hf, hl, he, hw, hlen => by
    cases hf with
    | @cons a r _ _ _ ho ha hs hr =>
      subst ho
      cases ys with
      | nil => simp at hl
      | cons y ys =>
        have h0 := he 0 f (by simp)
        simp only [List.getElem?_cons_zero] at h0
        simp only [List.map_cons, DataW.weightsEach, List.all_append, Bool.and_eq_true] at hw
        obtain ⟨z1, o1, v1⟩ := ih a _ _ y ha h0 hw.1
        simp only [TD.size] at hlen
        obtain ⟨z2, o2, v2⟩ := open_fields ih fl r (f.offset + a.size) ys hr (by simpa using hl) (fun i g hg => by have := he (i + 1) g (by simpa using hg); simpa using this) hw.2 (by omega)
        refine ⟨(z1, z2), ⟨o1, o2⟩, ?_⟩
        simp only [TD.cells, TD.size]
        rw [hs] at v1
        have e : (cs.drop f.offset).take (a.size + r.size) = (cs.drop f.offset).take a.size ++ (cs.drop (f.offset + a.size)).take r.size := by
          rw [List.take_add, List.drop_drop]
        rw [e]
        exact VRs_append v1 v2

theorem open_reps {n : Nat} {cs : List Value} {a : TD} {e : TypeId} (ha : Fits P a e) (hs : P.cellsOf e = a.size)
    (ih : ∀ (d : TD) (t : TypeId) (cs : List Value) (x : DataW H × List MemPlace), Fits P d t → DataW.trod enc P w base spare held n t cs = some x → (x.1.weights P t).all (· ≤ reachBytes) = true → ∃ z : d.T, d.ok z ∧ VRs w (fun _ => False) (d.cells z) cs) :
    ∀ (m : Nat) (o : Nat) (ys : List (DataW H × List MemPlace)), ys.length = m →
      (∀ (i : Nat), i < m → DataW.trod enc P w base spare held n e ((cs.drop (o + i * P.cellsOf e)).take (P.cellsOf e)) = ys[i]?) →
      (DataW.weightsAll P e (ys.map (·.1))).all (· ≤ reachBytes) = true → o + m * a.size ≤ cs.length →
      ∃ z : (TD.rep a m).T, (TD.rep a m).ok z ∧ VRs w (fun _ => False) ((TD.rep a m).cells z) ((cs.drop o).take (m * a.size))
  | 0, o, ys, _, _, _, _ => ⟨(), trivial, by simp only [TD.rep, TD.cells, Nat.zero_mul, List.take_zero, VRs]⟩
  | m + 1, o, ys, hl, he, hw, hlen => by
    cases ys with
    | nil => simp at hl
    | cons y ys =>
      have h0 := he 0 (by omega)
      simp only [List.getElem?_cons_zero, Nat.zero_mul, Nat.add_zero] at h0
      simp only [List.map_cons, DataW.weightsAll, List.all_append, Bool.and_eq_true] at hw
      obtain ⟨z1, o1, v1⟩ := ih a _ _ y ha h0 hw.1
      have hm : (m + 1) * a.size = a.size + m * a.size := by rw [Nat.add_mul]; omega
      obtain ⟨z2, o2, v2⟩ := open_reps ha hs ih m (o + a.size) ys (by simpa using hl) (fun i hi => by
        have := he (i + 1) (by omega)
        rw [List.getElem?_cons_succ, hs] at this
        rw [hs, ← this]
        congr 2
        rw [Nat.add_mul]; congr 1; omega) hw.2 (by omega)
      refine ⟨(z1, z2), ⟨o1, o2⟩, ?_⟩
      simp only [TD.rep, TD.cells]
      rw [hs] at v1
      have e : (cs.drop o).take ((m + 1) * a.size) = (cs.drop o).take a.size ++ (cs.drop (o + a.size)).take (m * a.size) := by
        rw [hm, List.take_add, List.drop_drop]
      rw [e]
      exact VRs_append v1 v2

theorem open_trod : ∀ (fuel : Nat) (d : TD) (t : TypeId) (cs : List Value) (x : DataW H × List MemPlace), Fits P d t → DataW.trod enc P w base spare held fuel t cs = some x → (x.1.weights P t).all (· ≤ reachBytes) = true → ∃ z : d.T, d.ok z ∧ VRs w (fun _ => False) (d.cells z) cs
  | 0, d, t, cs, x, hf, h, hw => by simp [DataW.trod] at h
  | n + 1, d, t, cs, x, hf, h, hw => by
    cases hf with
    | int hu =>
      obtain ⟨m, rfl, rfl, hk⟩ := DataW.trod_int hu h
      exact ⟨m, hk, by simp only [TD.cells, VRs, VR]; exact ⟨_, _, rfl, rfl, rfl⟩⟩
    | bool hu =>
      obtain ⟨b, rfl, rfl⟩ := DataW.trod_bool hu h
      exact ⟨b, trivial, by simp only [TD.cells, VRs, VR]; exact ⟨_, _, rfl, rfl, rfl⟩⟩
    | str hu =>
      obtain ⟨s, rfl, rfl, hs⟩ := DataW.trod_string hu h
      have hz : s.size ≤ LIM := by
        have : s.data.toList.length ≤ reachBytes := by
          have h0 : (([s.data.toList.length] : List Nat).all (· ≤ reachBytes)) = true := hw
          exact of_decide_eq_true (List.all_eq_true.1 h0 _ (List.mem_singleton.2 rfl))
        have h2 : s.size = s.data.toList.length := (Array.length_toList ..).symm
        rw [h2]; exact Nat.le_trans this (by decide)
      exact ⟨s, hz, by simp only [TD.cells, VRs, VR]; exact ⟨_, _, rfl, ⟨rfl, hz⟩, rfl⟩⟩
    | @slc a _ e hu ha hs h0 hb =>
      rcases DataW.trod_slice hu h with ⟨rfl, rfl⟩ | ⟨x0, len, cap, elems, rest, m, hm, rfl, rfl, hbase, hlc, hmax, hel, hall, _, _⟩
      · exact ⟨none, ⟨Nat.zero_le _, by intro x hx; cases hx⟩, by simp only [TD.cells, VRs, ofS, VR]; exact ⟨_, _, rfl, rfl, rfl⟩⟩
      · injection hm with hm; subst hm
        simp only [DataW.weights, hu, List.all_cons, List.all_append, Bool.and_eq_true, List.length_map, decide_eq_true_eq] at hw
        have hlim : len ≤ LIM := by
          have h1 := hw.1
          have h2 : (elems.length + rest.length) * 1 ≤ (elems.length + rest.length) * P.bytesOf e := Nat.mul_le_mul_left _ hb
          have h3 : reachBytes ≤ LIM := by decide
          omega
        have hwe : ∀ (ys : List (DataW H × List MemPlace)), (DataW.weightsAll P e (ys.map (·.1))).all (· ≤ reachBytes) = true → ∀ y ∈ ys, (y.1.weights P e).all (· ≤ reachBytes) = true := by
          intro ys
          induction ys with
          | nil => intro _ y hy; cases hy
          | cons y0 ys ih =>
            intro h y hy
            simp only [List.map_cons, DataW.weightsAll, List.all_append, Bool.and_eq_true] at h
            rcases List.mem_cons.1 hy with rfl | hy
            · exact h.1
            · exact ih h.2 y hy
        have each : ∀ i, i < len → ∃ z : a.T, a.ok z ∧ MR w (fun _ => False) (a.cells z) x0 (i * a.size) := by
          intro i hi
          have hy := hall i hi
          have hi' : i < elems.length := by omega
          rw [List.getElem?_eq_getElem hi'] at hy
          rw [Option.bind_eq_some_iff] at hy
          obtain ⟨cs', hcs, hy⟩ := hy
          obtain ⟨z, o1, v1⟩ := open_trod _ a e cs' _ ha hy (hwe elems hw.2.1 _ (List.getElem_mem hi'))
          rw [hs] at hcs
          have hbl := World.cells?_block hcs h0
          rw [add_block] at hbl
          refine ⟨z, o1, MR_cells v1 (fun h => h) hbl fun j v hv => ?_⟩
          have h3 := World.cells?_some hcs
          have hj : j < a.size := by
            have := (List.getElem?_eq_some_iff.1 hv).1
            rw [h3.2.1] at this; exact this
          have := h3.2.2 j hj
          rw [add_add] at this
          rw [this]; exact hv
        have many : ∀ k, k ≤ len → ∃ zs : List a.T, zs.length = k ∧ (∀ z ∈ zs, a.ok z) ∧ MR w (fun _ => False) (zs.flatMap a.cells) x0 0 := by
          intro k
          induction k with
          | zero => intro _; exact ⟨[], rfl, by simp, by simp only [List.flatMap_nil, MR]⟩
          | succ k ih =>
            intro hk
            obtain ⟨zs, h1, h2, h3⟩ := ih (by omega)
            obtain ⟨z, h4, h5⟩ := each k (by omega)
            refine ⟨zs ++ [z], by simp [h1], ?_, ?_⟩
            · intro y hy
              rcases List.mem_append.1 hy with hy | hy
              · exact h2 y hy
              · rw [List.mem_singleton.1 hy]; exact h4
            · rw [List.flatMap_append]
              refine MR_app h3 ?_
              rw [flat_len (TD.cells_len a), h1, Nat.zero_add]
              simpa using h5
        obtain ⟨zs, h1, h2, h3⟩ := many len (Nat.le_refl _)
        refine ⟨some zs, ⟨by simpa [h1] using hlim, by simpa using h2⟩, ?_⟩
        simp only [TD.cells, VRs, ofS, VR]
        exact ⟨_, _, rfl, ⟨x0, cap, by rw [h1], by omega, by omega, h3⟩, rfl⟩
    | @struct _ _ fs hu ha hs =>
      obtain ⟨xs, m, hm, rfl, hcl, hxl, hall⟩ := DataW.trod_struct hu h
      injection hm with hm; subst hm
      simp only [DataW.weights, hu] at hw
      obtain ⟨z, o1, v1⟩ := open_fields (fun d t cs x => open_trod _ d t cs x) fs.toList d 0 xs ha (by simpa using hxl) (fun i f hf => hall i f (by simpa using hf)) hw (by omega)
      refine ⟨z, o1, ?_⟩
      rw [List.drop_zero, List.take_of_length_le (by omega)] at v1
      exact v1
    | @arr a _ e m hu ha hs ht =>
      obtain ⟨xs, k, hk, rfl, hcl, hxl, hall⟩ := DataW.trod_array hu h
      injection hk with hk; subst hk
      simp only [DataW.weights, hu] at hw
      obtain ⟨z, o1, v1⟩ := open_reps (cs := cs) ha hs (fun d t cs x => open_trod _ d t cs x) m 0 xs hxl (fun i hi => by rw [Nat.zero_add]; exact hall i hi) hw (by omega)
      refine ⟨z, o1, ?_⟩
      rw [List.drop_zero, List.take_of_length_le (by omega)] at v1
      exact v1
end
end Go.Al
namespace Go.Al
open Go Go.ChangeShapes Go.WideShapes Go.RowKit

def TD.av : (d : TD) → d.T → AV
  | .int k, n => .int k n
  | .bool, b => .bool b
  | .str, s => .str s
  | .slc a, s => ofS (TD.cells a) s
  | .two a b, p => .agg (TD.cells (.two a b) p)
  | .unit, _ => .agg []

theorem open_arg {H : Type} {enc : TypeId × Value → H} {P : Program} {w : World} {base b0 : Nat} {r : Reach} {sp : Nat → Bool} {held : Bool} {d : TD} {t : TypeId} {v : Value} {dd : DataW H} {ps : List MemPlace} (hf : Fits P d t)
    (hval : Value.okWide P w r b0 t v) (hd : DataW.Trod enc P w base sp held t v dd ps) (hw : (dd.weights P t).all (· ≤ reachBytes) = true) : ∃ z : d.T, d.ok z ∧ VR w (fun _ => False) (d.av z) v := by
  have hd0 := hd
  obtain ⟨fuel, hfu⟩ := hd0
  obtain ⟨z, hz, hv⟩ := open_trod fuel d t _ _ hf hfu hw
  have one : ∀ x : AV, (∀ cs, v ≠ .agg cs) → VRs w (fun _ => False) [x] v.cells.toList → VR w (fun _ => False) x v := by
    intro x hne h
    have hc : v.cells = #[v] := by cases v <;> first | rfl | exact absurd rfl (hne _)
    rw [hc] at h
    simp only [VRs] at h
    obtain ⟨u, us, hu, h2, h3⟩ := h
    subst h3
    injection hu with hu _
    subst hu; exact h2
  refine ⟨z, hz, ?_⟩
  cases hf with
  | int hu =>
    obtain ⟨n, rfl⟩ := okWide_int hu hval
    exact one _ (by simp) hv
  | bool hu =>
    obtain ⟨b, rfl⟩ := okWide_bool hu hval
    exact one _ (by simp) hv
  | str hu =>
    obtain ⟨s, rfl⟩ := okWide_string hu hval
    exact one _ (by simp) hv
  | slc hu ha hs h0 hb =>
    obtain ⟨a, l, c, rfl⟩ := okWide_slice hu hval
    exact one _ (by simp) hv
  | @struct _ _ fs hu ha hs =>
    simp only [Value.okWide, hu] at hval
    obtain ⟨cs, rfl, _, _⟩ := hval
    generalize fs.toList = fl at ha
    cases ha with
    | nil => simp only [TD.av, VR]; exact ⟨cs, rfl, hv⟩
    | cons _ _ _ _ => simp only [TD.av, VR]; exact ⟨cs, rfl, hv⟩
  | @arr a _ e m hu ha hs ht =>
    simp only [Value.okWide, hu] at hval
    obtain ⟨cs, rfl, _, _⟩ := hval
    cases m with
    | zero => simp only [TD.rep, TD.av, VR]; exact ⟨cs, rfl, hv⟩
    | succ m => simp only [TD.rep, TD.av, VR]; exact ⟨cs, rfl, hv⟩

theorem weights_at {H : Type} {P : Program} {ts : List TypeId} {ds : List (DataW H)} (h : (DataW.weightsEach P ts ds).all (· ≤ reachBytes) = true) (j : Nat) {t : TypeId} {d : DataW H} (ht : ts[j]? = some t) (hd : ds[j]? = some d) : (d.weights P t).all (· ≤ reachBytes) = true :=
  List.all_eq_true.2 fun n hn => List.all_eq_true.1 h n (DataW.weights_mem_each ht hd n hn)
end Go.Al
namespace Go.Al
open Go
theorem wf_int {k : IntKind} {n : Int} (h : (Lit.int k n).wf = true) : k.min ≤ n ∧ n ≤ k.max := by
  simpa [Lit.wf] using h
theorem wf_i64 {n : Int} (h : (Lit.int .i64 n).wf = true) : -9223372036854775808 ≤ n ∧ n ≤ 9223372036854775807 := by
  have h1 := wf_int h
  have e1 : IntKind.min .i64 = -9223372036854775808 := by decide
  have e2 : IntKind.max .i64 = 9223372036854775807 := by decide
  rw [e1, e2] at h1; exact h1
theorem wf_u64 {n : Int} (h : (Lit.int .u64 n).wf = true) : 0 ≤ n ∧ n ≤ 18446744073709551615 := by
  have h1 := wf_int h
  have e1 : IntKind.min .u64 = 0 := by decide
  have e2 : IntKind.max .u64 = 18446744073709551615 := by decide
  rw [e1, e2] at h1; exact h1
theorem wf_u32 {n : Int} (h : (Lit.int .u32 n).wf = true) : 0 ≤ n ∧ n ≤ 4294967295 := by
  have h1 := wf_int h
  have e1 : IntKind.min .u32 = 0 := by decide
  have e2 : IntKind.max .u32 = 4294967295 := by decide
  rw [e1, e2] at h1; exact h1
theorem wf_u8 {n : Int} (h : (Lit.int .u8 n).wf = true) : 0 ≤ n ∧ n ≤ 255 := by
  have h1 := wf_int h
  have e1 : IntKind.min .u8 = 0 := by decide
  have e2 : IntKind.max .u8 = 255 := by decide
  rw [e1, e2] at h1; exact h1
theorem cells_int_fun (k : IntKind) : TD.cells (.int k) = fun n => [AV.int k n] := by funext n; rfl
end Go.Al

