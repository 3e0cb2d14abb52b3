import Derived.WalkKit
import Derived.Orders
set_option linter.unusedVariables false
set_option linter.unusedSimpArgs false
namespace Go.Al
open Go
universe u

/-- Abstract values. -/
inductive AV where
  | int (k : IntKind) (n : Int)
  | bool (b : Bool)
  | str (s : ByteArray)
  | nil
  | ptr (b off : Nat)
  | loc (t off : Nat)
  | iptr (cs : List AV)
  | nils
  | sl (n : Nat) (cs : List AV)
  | ms (b off n sz : Nat)
  | agg (cs : List AV)
  | tup (vs : List AV)
  | fn (f : FuncId) (caps : List AV)
  | box (cs : List AV)
  | any

theorem nrfl {α : Sort u} {a b : α} (h : a = b) : a = b := h.trans rfl

abbrev Hp := Nat → Option (Nat × List AV)
abbrev Tm := Nat → AV

def LIM : Nat := 140737488355328

def AV.cells : AV → List AV
  | .agg cs => cs
  | v => [v]

mutual
def VR (w : World) (O : Nat → Prop) : AV → Value → Prop
  | .int k n, v => v = .int k n
  | .bool b, v => v = .bool b
  | .str s, v => v = .string s ∧ s.size ≤ LIM
  | .nil, v => v = .pointer none
  | .ptr b off, v => v = .pointer (some ⟨b, off, none⟩)
  | .loc _ _, _ => False
  | .iptr cs, v => ∃ a : Addr, v = .pointer (some a) ∧ MR w O cs a 0
  | .nils, v => v = .slice none 0 0
  | .sl n cs, v => ∃ (a : Addr) (cap : Nat), v = .slice (some a) n cap ∧ n ≤ cap ∧ n ≤ LIM ∧ MR w O cs a 0
  | .ms b off n sz, v => ∃ cap : Nat, v = .slice (some ⟨b, off, none⟩) n cap ∧ n ≤ cap ∧ n ≤ LIM ∧ ∃ e c, w.shape? b = some (e, c) ∧ off + cap * sz = c
  | .agg cs, v => ∃ a : Array Value, v = .agg a ∧ VRs w O cs a.toList
  | .tup cs, v => ∃ a : Array Value, v = .tuple a ∧ VRs w O cs a.toList
  | .fn f cs, v => ∃ a : Array Value, v = .func (.func f) #[] a ∧ VRs w O cs a.toList
  | .box _, _ => False
  | .any, _ => True
def VRs (w : World) (O : Nat → Prop) : List AV → List Value → Prop
  | [], vs => vs = []
  | x :: xs, vs => ∃ v vs', vs = v :: vs' ∧ VR w O x v ∧ VRs w O xs vs'
def MR (w : World) (O : Nat → Prop) : List AV → Addr → Nat → Prop
  | [], _, _ => True
  | x :: xs, a, j => (¬ O a.block ∧ a.block < w.heap.size ∧ ∃ v, w.cell? (a.add j) = some v ∧ VR w O x v) ∧ MR w O xs a (j + 1)
end

structure Stab (w : World) (O : Nat → Prop) (w' : World) (O' : Nat → Prop) : Prop where
  blk : ∀ b, ¬ O b → b < w.heap.size → ¬ O' b ∧ w'.heap[b]? = w.heap[b]?
  size : w.heap.size ≤ w'.heap.size
  shape : ∀ b e c, w.shape? b = some (e, c) → w'.shape? b = some (e, c)

theorem cell?_congr {w w' : World} {a : Addr} (h : w'.heap[a.block]? = w.heap[a.block]?) : w'.cell? a = w.cell? a := by
  unfold World.cell?; rw [h]

theorem add_block (a : Addr) (j : Nat) : (a.add j).block = a.block := by
  unfold Addr.add; split <;> rfl

theorem add_add (a : Addr) (i j : Nat) : (a.add i).add j = a.add (i + j) := by
  unfold Addr.add
  by_cases hi : i = 0
  · subst hi; simp
  · by_cases hj : j = 0
    · subst hj; simp [hi]
    · simp [hi, hj, Nat.add_assoc]

mutual
theorem VR_stab {w w' : World} {O O' : Nat → Prop} (S : Stab w O w' O') : ∀ (x : AV) (v : Value), VR w O x v → VR w' O' x v
  | .int _ _, _, h => by simpa only [VR] using h
  | .bool _, _, h => by simpa only [VR] using h
  | .str _, _, h => by simpa only [VR] using h
  | .nil, _, h => by simpa only [VR] using h
  | .ptr _ _, _, h => by simpa only [VR] using h
  | .loc _ _, _, h => by simp only [VR] at h
  | .iptr cs, v, h => by
    simp only [VR] at h ⊢
    obtain ⟨a, h1, h2⟩ := h
    exact ⟨a, h1, MR_stab S cs a 0 h2⟩
  | .nils, _, h => by simpa only [VR] using h
  | .sl n cs, v, h => by
    simp only [VR] at h ⊢
    obtain ⟨a, cap, h1, h2, h3, h4⟩ := h
    exact ⟨a, cap, h1, h2, h3, MR_stab S cs a 0 h4⟩
  | .ms b off n sz, v, h => by
    simp only [VR] at h ⊢
    obtain ⟨cap, h1, h2, h3, e, c, h4, h5⟩ := h
    exact ⟨cap, h1, h2, h3, e, c, S.shape _ _ _ h4, h5⟩
  | .agg cs, v, h => by
    simp only [VR] at h ⊢
    obtain ⟨a, h1, h2⟩ := h
    exact ⟨a, h1, VRs_stab S cs _ h2⟩
  | .tup cs, v, h => by
    simp only [VR] at h ⊢
    obtain ⟨a, h1, h2⟩ := h
    exact ⟨a, h1, VRs_stab S cs _ h2⟩
  | .fn f cs, v, h => by
    simp only [VR] at h ⊢
    obtain ⟨a, h1, h2⟩ := h
    exact ⟨a, h1, VRs_stab S cs _ h2⟩
  | .box _, _, h => by simp only [VR] at h
  | .any, _, _ => by simp only [VR]
theorem VRs_stab {w w' : World} {O O' : Nat → Prop} (S : Stab w O w' O') : ∀ (xs : List AV) (vs : List Value), VRs w O xs vs → VRs w' O' xs vs
  | [], _, h => by simpa only [VRs] using h
  | x :: xs, _, h => by
    simp only [VRs] at h ⊢
    obtain ⟨v, vs', h1, h2, h3⟩ := h
    exact ⟨v, vs', h1, VR_stab S x v h2, VRs_stab S xs vs' h3⟩
theorem MR_stab {w w' : World} {O O' : Nat → Prop} (S : Stab w O w' O') : ∀ (xs : List AV) (a : Addr) (j : Nat), MR w O xs a j → MR w' O' xs a j
  | [], _, _, _ => by simp only [MR]
  | x :: xs, a, j, h => by
    simp only [MR] at h ⊢
    obtain ⟨⟨h1, h2, v, h3, h4⟩, h5⟩ := h
    have hb := S.blk _ h1 h2
    refine ⟨⟨hb.1, Nat.lt_of_lt_of_le h2 S.size, v, ?_, VR_stab S x v h4⟩, MR_stab S xs a (j + 1) h5⟩
    rw [cell?_congr (w := w) (by rw [add_block]; exact hb.2)]
    exact h3
end

theorem Stab.sub {w : World} {O O' : Nat → Prop} (h : ∀ b, O' b → O b) : Stab w O w O' :=
  ⟨fun b hb _ => ⟨fun h' => hb (h _ h'), rfl⟩, Nat.le_refl _, fun _ _ _ h => h⟩

theorem VRs_length {w : World} {O : Nat → Prop} : ∀ (xs : List AV) (vs : List Value), VRs w O xs vs → vs.length = xs.length
  | [], _, h => by simp only [VRs] at h; subst h; rfl
  | x :: xs, _, h => by
    simp only [VRs] at h
    obtain ⟨v, vs', rfl, _, h3⟩ := h
    simp [VRs_length xs vs' h3]

theorem VRs_append {w : World} {O : Nat → Prop} : ∀ {xs ys : List AV} {vs us : List Value}, VRs w O xs vs → VRs w O ys us → VRs w O (xs ++ ys) (vs ++ us)
  | [], _, vs, _, h, k => by simp only [VRs] at h; subst h; exact k
  | x :: xs, ys, vs, us, h, k => by
    simp only [VRs] at h
    obtain ⟨v, vs', rfl, h2, h3⟩ := h
    simp only [List.cons_append, VRs]
    exact ⟨v, vs' ++ us, rfl, h2, VRs_append h3 k⟩

theorem VRs_take {w : World} {O : Nat → Prop} : ∀ {xs : List AV} {vs : List Value} (n : Nat), VRs w O xs vs → VRs w O (xs.take n) (vs.take n)
  | xs, vs, 0, h => by simp [VRs]
  | [], vs, n + 1, h => by simp only [VRs] at h; subst h; simp [VRs]
  | x :: xs, vs, n + 1, h => by
    simp only [VRs] at h
    obtain ⟨v, vs', rfl, h2, h3⟩ := h
    simp only [List.take_succ_cons, VRs]
    exact ⟨v, vs'.take n, rfl, h2, VRs_take n h3⟩

theorem VRs_drop {w : World} {O : Nat → Prop} : ∀ {xs : List AV} {vs : List Value} (n : Nat), VRs w O xs vs → VRs w O (xs.drop n) (vs.drop n)
  | xs, vs, 0, h => by simpa using h
  | [], vs, n + 1, h => by simp only [VRs] at h; subst h; simp [VRs]
  | x :: xs, vs, n + 1, h => by
    simp only [VRs] at h
    obtain ⟨v, vs', rfl, h2, h3⟩ := h
    simpa using VRs_drop n h3

theorem VRs_get {w : World} {O : Nat → Prop} : ∀ {xs : List AV} {vs : List Value} (i : Nat) (x : AV), VRs w O xs vs → xs[i]? = some x → ∃ v, vs[i]? = some v ∧ VR w O x v
  | [], vs, i, x, h, hx => by simp at hx
  | y :: xs, vs, 0, x, h, hx => by
    simp only [VRs] at h
    obtain ⟨v, vs', rfl, h2, h3⟩ := h
    simp at hx; subst hx
    exact ⟨v, by simp, h2⟩
  | y :: xs, vs, i + 1, x, h, hx => by
    simp only [VRs] at h
    obtain ⟨v, vs', rfl, h2, h3⟩ := h
    simpa using VRs_get i x h3 (by simpa using hx)

/-- cells of a value -/

theorem VR_cells {w : World} {O : Nat → Prop} {x : AV} {v : Value} (hx : x ≠ .any) (h : VR w O x v) : VRs w O x.cells v.cells.toList := by
  have one : ∀ {x : AV} {v : Value}, x.cells = [x] → v.cells = #[v] → VR w O x v → VRs w O x.cells v.cells.toList := by
    intro x v h1 h2 h3
    rw [h1, h2]
    simp only [VRs]
    exact ⟨v, [], rfl, h3, rfl⟩
  cases x with
  | any => exact absurd rfl hx
  | agg cs =>
    simp only [VR] at h
    obtain ⟨a, rfl, h2⟩ := h
    exact h2
  | int k n => have h' := h; simp only [VR] at h'; subst h'; exact one rfl rfl h
  | bool k => have h' := h; simp only [VR] at h'; subst h'; exact one rfl rfl h
  | str k => have h' := h; simp only [VR] at h'; obtain ⟨rfl, _⟩ := h'; exact one rfl rfl h
  | nil => have h' := h; simp only [VR] at h'; subst h'; exact one rfl rfl h
  | ptr k => have h' := h; simp only [VR] at h'; subst h'; exact one rfl rfl h
  | nils => have h' := h; simp only [VR] at h'; subst h'; exact one rfl rfl h
  | loc => simp only [VR] at h
  | box => simp only [VR] at h
  | iptr cs => have h' := h; simp only [VR] at h'; obtain ⟨a, rfl, _⟩ := h'; exact one rfl rfl h
  | sl n cs => have h' := h; simp only [VR] at h'; obtain ⟨a, c, rfl, _⟩ := h'; exact one rfl rfl h
  | ms _ _ _ _ => have h' := h; simp only [VR] at h'; obtain ⟨a, rfl, _⟩ := h'; exact one rfl rfl h
  | tup cs => have h' := h; simp only [VR] at h'; obtain ⟨a, rfl, _⟩ := h'; exact one rfl rfl h
  | fn f cs => have h' := h; simp only [VR] at h'; obtain ⟨a, rfl, _⟩ := h'; exact one rfl rfl h

theorem MR_block {w : World} {O : Nat → Prop} {xs : List AV} {a : Addr} {j : Nat} (h : MR w O xs a j) (hne : xs ≠ []) : ¬ O a.block ∧ a.block < w.heap.size := by
  cases xs with
  | nil => exact absurd rfl hne
  | cons x xs => simp only [MR] at h; exact ⟨h.1.1, h.1.2.1⟩

theorem MR_drop {w : World} {O : Nat → Prop} : ∀ {xs : List AV} {a : Addr} {j : Nat} (n : Nat), MR w O xs a j → MR w O (xs.drop n) a (j + n)
  | xs, a, j, 0, h => by simpa using h
  | [], a, j, n + 1, h => by simp [MR]
  | x :: xs, a, j, n + 1, h => by
    simp only [MR] at h
    have := MR_drop n h.2
    simpa [Nat.add_assoc, Nat.add_comm 1 n] using this

theorem MR_take {w : World} {O : Nat → Prop} : ∀ {xs : List AV} {a : Addr} {j : Nat} (n : Nat), MR w O xs a j → MR w O (xs.take n) a j
  | xs, a, j, 0, h => by simp [MR]
  | [], a, j, n + 1, h => by simp [MR]
  | x :: xs, a, j, n + 1, h => by
    simp only [MR, List.take_succ_cons] at h ⊢
    exact ⟨h.1, MR_take n h.2⟩

theorem MR_shift {w : World} {O : Nat → Prop} : ∀ {xs : List AV} {a : Addr} {k j : Nat}, MR w O xs a (k + j) → MR w O xs (a.add k) j
  | [], a, k, j, h => by simp [MR]
  | x :: xs, a, k, j, h => by
    simp only [MR, add_block, add_add] at h ⊢
    exact ⟨h.1, MR_shift (by simpa [Nat.add_assoc] using h.2)⟩

theorem MR_get {w : World} {O : Nat → Prop} : ∀ {xs : List AV} {a : Addr} {j : Nat} (i : Nat) (x : AV), MR w O xs a j → xs[i]? = some x → ∃ v, w.cell? (a.add (j + i)) = some v ∧ VR w O x v
  | [], a, j, i, x, h, hx => by simp at hx
  | y :: xs, a, j, 0, x, h, hx => by
    simp only [MR] at h
    simp at hx; subst hx
    simpa using h.1.2.2
  | y :: xs, a, j, i + 1, x, h, hx => by
    simp only [MR] at h
    have := MR_get i x h.2 (by simpa using hx)
    simpa [Nat.add_assoc, Nat.add_comm 1 i] using this

/-- frozen cells as a list of values -/
theorem MR_list {w : World} {O : Nat → Prop} : ∀ {xs : List AV} {a : Addr} {j : Nat}, MR w O xs a j → ∃ vs, VRs w O xs vs ∧ ∀ i v, vs[i]? = some v → w.cell? (a.add (j + i)) = some v
  | [], a, j, h => ⟨[], rfl, by simp⟩
  | x :: xs, a, j, h => by
    simp only [MR] at h
    obtain ⟨⟨_, _, v, hv, hx⟩, h2⟩ := h
    obtain ⟨vs, h3, h4⟩ := MR_list h2
    refine ⟨v :: vs, ?_, ?_⟩
    · simp only [VRs]; exact ⟨v, vs, rfl, hx, h3⟩
    · intro i u hu
      cases i with
      | zero => simp at hu; subst hu; simpa using hv
      | succ i => have := h4 i u (by simpa using hu); simpa [Nat.add_assoc, Nat.add_comm 1 i] using this

/-- a list of values that lies in a block that nobody owns -/
theorem MR_of {w : World} {O : Nat → Prop} {b : Nat} (hO : ¬ O b) (hb : b < w.heap.size) : ∀ {xs : List AV} {vs : List Value} {off : Nat}, VRs w O xs vs → (∀ i v, vs[i]? = some v → w.cell? ⟨b, off + i, none⟩ = some v) → MR w O xs ⟨b, off, none⟩ 0 := by
  have key : ∀ {xs : List AV} {vs : List Value} {off j : Nat}, VRs w O xs vs → (∀ i v, vs[i]? = some v → w.cell? ⟨b, off + (j + i), none⟩ = some v) → MR w O xs ⟨b, off, none⟩ j := by
    intro xs
    induction xs with
    | nil => intros; simp [MR]
    | cons x xs ih =>
      intro vs off j h hc
      simp only [VRs] at h
      obtain ⟨v, vs', rfl, h2, h3⟩ := h
      simp only [MR]
      refine ⟨⟨hO, hb, v, ?_, h2⟩, ih h3 ?_⟩
      · have := hc 0 v (by simp)
        unfold Addr.add
        split
        · rename_i h0; subst h0; simpa using this
        · simpa using this
      · intro i u hu
        have := hc (i + 1) u (by simpa using hu)
        simpa [Nat.add_assoc, Nat.add_comm 1 i] using this
  intro xs vs off h hc
  exact key h (by simpa using hc)

end Go.Al

set_option linter.unusedVariables false
set_option linter.unusedSimpArgs false
namespace Go.Al
open Go

abbrev get (T : Tm) (i : Nat) : AV := T i

def upd (T : Tm) (d : Nat) (v : AV) : Tm := fun i => if i = d then v else T i

def killv (d : Nat) : AV → AV
  | .loc t off => if t = d then .any else .loc t off
  | v => v

def kill (d : Nat) (T : Tm) : Tm := fun i => killv d (T i)

theorem get_kill (d : Nat) (T : Tm) (i : Nat) : get (kill d T) i = killv d (get T i) := rfl

def putT (T : Tm) (dst : Option Nat) (v : AV) : Tm :=
  match dst with
  | none => T
  | some d => match v with
    | .box cs => upd (kill d T) d (.box cs)
    | v => upd T d v

/-- what a function's frame stands on: blocks of the callers', the ghost heap and the world at the entry, how many slots -/
structure En where
  X : Nat → Prop
  G0 : Hp
  w0 : World
  n : Nat

def Bx (T : Tm) (tm : Array Value) (b : Nat) : Prop := ∃ t cs, get T t = .box cs ∧ tm.getD t undef = .pointer (some ⟨b, 0, none⟩)

def Own (X : Nat → Prop) (G : Hp) (T : Tm) (tm : Array Value) (b : Nat) : Prop := X b ∨ G b ≠ none ∨ Bx T tm b

def SlotR (w : World) (O : Nat → Prop) (T : Tm) (tm : Array Value) : AV → Value → Prop
  | .loc t off, v => ∃ b, v = .pointer (some ⟨b, off, none⟩) ∧ ∀ cs, get T t = .box cs → tm.getD t undef = .pointer (some ⟨b, 0, none⟩)
  | .box _, _ => True
  | x, v => VR w O x v

/-- the owned blocks -/
def GR (w : World) (O : Nat → Prop) (X : Nat → Prop) (G : Hp) : Prop :=
  ∀ b τ cs, G b = some (τ, cs) → ¬ X b ∧ b < w.heap.size ∧ ∃ (c : Array Value) (ty : TypeId) (vs rest : List Value), w.heap[b]? = some (.cells c ty (0, 0)) ∧ c.toList = vs ++ rest ∧ VRs w O cs vs

structure Tr (G0 : Hp) (w0 : World) (G : Hp) (w : World) : Prop where
  os : w.os = w0.os
  tape : w.tape = w0.tape
  output : w.output = w0.output
  size : w0.heap.size ≤ w.heap.size
  blk : ∀ b, b < w0.heap.size → G0 b = none → w.heap[b]? = w0.heap[b]? ∧ G b = none
  shape : ∀ b e c, w0.shape? b = some (e, c) → w.shape? b = some (e, c)

theorem Tr.refl (G : Hp) (w : World) : Tr G w G w := ⟨rfl, rfl, rfl, Nat.le_refl _, fun _ _ h => ⟨rfl, h⟩, fun _ _ _ h => h⟩

theorem Tr.trans {G0 G1 G2 : Hp} {w0 w1 w2 : World} (h : Tr G0 w0 G1 w1) (k : Tr G1 w1 G2 w2) : Tr G0 w0 G2 w2 :=
  ⟨k.os.trans h.os, k.tape.trans h.tape, k.output.trans h.output, Nat.le_trans h.size k.size,
    fun b hb h0 =>
      have h1 := h.blk b hb h0
      have h2 := k.blk b (Nat.lt_of_lt_of_le hb h.size) h1.2
      ⟨h2.1.trans h1.1, h2.2⟩,
    fun b e c hs => k.shape _ _ _ (h.shape _ _ _ hs)⟩

structure Rel (E : En) (T : Tm) (G : Hp) (a : Act) (w : World) : Prop where
  defers : a.defers = []
  size : a.tmps.size = E.n
  xb : ∀ b, E.X b → b < E.w0.heap.size
  tr : Tr E.G0 E.w0 G w
  gr : GR w (Own E.X G T a.tmps) E.X G
  bx : ∀ t cs, get T t = .box cs → ∃ b, a.tmps.getD t undef = .pointer (some ⟨b, 0, none⟩) ∧ E.w0.heap.size ≤ b ∧ b < w.heap.size ∧ G b = none ∧
        ∃ (c : Array Value) (ty : TypeId), w.heap[b]? = some (.cells c ty (0, 0)) ∧ VRs w (Own E.X G T a.tmps) cs c.toList
  inj : ∀ t t' cs cs', t ≠ t' → get T t = .box cs → get T t' = .box cs' → a.tmps.getD t undef ≠ a.tmps.getD t' undef
  slot : ∀ i, SlotR w (Own E.X G T a.tmps) T a.tmps (get T i) (a.tmps.getD i undef)


/-- what an expression of a slot stands for -/
def ofV : Value → AV
  | .int k n => .int k n
  | .bool b => .bool b
  | .string s => if s.size ≤ LIM then .str s else .any
  | .pointer none => .nil
  | .slice none 0 0 => .nils
  | .func (.func f) first captured => if first = #[] ∧ captured = #[] then .fn f [] else .any
  | _ => .any

theorem ofV_VR {w : World} {O : Nat → Prop} (v : Value) : VR w O (ofV v) v := by
  unfold ofV
  split
  case h_3 s =>
    split
    · rename_i h; simp only [VR]; exact ⟨trivial, h⟩
    · simp only [VR]
  case h_6 =>
    split
    · rename_i h; obtain ⟨rfl, rfl⟩ := h; simp only [VR]; exact ⟨#[], rfl, by simp [VRs]⟩
    · simp only [VR]
  all_goals simp only [VR]

def ev (T : Tm) : Operand → AV
  | .tmp t => match get T t with
    | .box _ => .loc t 0
    | v => v
  | .const v => ofV v
  | .global _ => .any
  | .func f => .fn f []

theorem ev_slot {E : En} {T : Tm} {G : Hp} {a : Act} {w : World} (R : Rel E T G a w) (x : Operand) : SlotR w (Own E.X G T a.tmps) T a.tmps (ev T x) (a.eval x) := by
  have lift : ∀ {x : AV} {v : Value}, VR w (Own E.X G T a.tmps) x v → SlotR w (Own E.X G T a.tmps) T a.tmps x v := by
    intro x v h
    cases x <;> first | exact h | (simp only [VR] at h)
  cases x with
  | tmp t =>
    simp only [ev, Act.eval]
    have h := R.slot t
    split
    · rename_i cs hb
      obtain ⟨b, h1, _⟩ := R.bx t cs hb
      exact ⟨b, h1, fun _ _ => h1⟩
    · exact h
  | const v => simp only [ev, Act.eval]; exact lift (ofV_VR v)
  | global g => simp only [ev, SlotR, VR]
  | func f => simp only [ev, Act.eval, SlotR, VR]; exact ⟨#[], rfl, by simp [VRs]⟩

/-- may it be stored, packed, handed on? -/
def AV.plain : AV → Bool
  | .loc _ _ => false
  | .box _ => false
  | _ => true

theorem SlotR.vr {w : World} {O : Nat → Prop} {T : Tm} {tm : Array Value} {x : AV} {v : Value} (h : SlotR w O T tm x v) (hx : x.plain = true) : VR w O x v := by
  cases x <;> first | exact h | simp [AV.plain] at hx

theorem VR.slot {w : World} {O : Nat → Prop} {T : Tm} {tm : Array Value} {x : AV} {v : Value} (h : VR w O x v) : SlotR w O T tm x v := by
  cases x <;> first | exact h | simp only [VR] at h

theorem SlotR_stab {w w' : World} {O O' : Nat → Prop} (S : Stab w O w' O') {T : Tm} {tm : Array Value} {x : AV} {v : Value} (h : SlotR w O T tm x v) : SlotR w' O' T tm x v := by
  cases x <;> first | exact VR_stab S _ _ h | exact h

theorem Act.getD_put {a : Act} {d i : Nat} {v : Value} (hd : d < a.tmps.size) : (a.put (some d) v).tmps.getD i undef = if i = d then v else a.tmps.getD i undef := by
  unfold Act.put
  simp only [Array.getD_eq_getD_getElem?, Array.getElem?_setIfInBounds]
  by_cases h : d = i
  · subst h; simp [hd]
  · simp [h, Ne.symm h]

/-- a value that is no box comes into a slot -/
theorem Rel.put {E : En} {T : Tm} {G : Hp} {a : Act} {w : World} (R : Rel E T G a w) {d : Nat} (hd : d < E.n) {v : AV} {cv : Value} (hv : SlotR w (Own E.X G T a.tmps) T a.tmps v cv) (hb : ∀ cs, v ≠ .box cs) :
    Rel E (upd T d v) G (a.put (some d) cv) w := by
  have hsz : d < a.tmps.size := by rw [R.size]; exact hd
  have gne : ∀ i, i ≠ d → get (upd T d v) i = get T i := fun i h => by simp [get, upd, h]
  have geq : get (upd T d v) d = v := by simp [get, upd]
  have tne : ∀ i, i ≠ d → (a.put (some d) cv).tmps.getD i undef = a.tmps.getD i undef := fun i h => by rw [Act.getD_put hsz, if_neg h]
  have teq : (a.put (some d) cv).tmps.getD d undef = cv := by rw [Act.getD_put hsz, if_pos rfl]
  have box : ∀ t cs, get (upd T d v) t = .box cs → t ≠ d ∧ get T t = .box cs := by
    intro t cs h
    by_cases ht : t = d
    · subst ht; rw [geq] at h; exact absurd h (hb cs)
    · exact ⟨ht, by rwa [gne t ht] at h⟩
  have S : Stab w (Own E.X G T a.tmps) w (Own E.X G (upd T d v) (a.put (some d) cv).tmps) := by
    refine Stab.sub fun b h => ?_
    rcases h with h | h | ⟨t, cs, h1, h2⟩
    · exact .inl h
    · exact .inr (.inl h)
    · obtain ⟨ht, h3⟩ := box t cs h1
      rw [tne t ht] at h2
      exact .inr (.inr ⟨t, cs, h3, h2⟩)
  have hsl : ∀ {x : AV} {u : Value}, SlotR w (Own E.X G T a.tmps) T a.tmps x u → SlotR w (Own E.X G (upd T d v) (a.put (some d) cv).tmps) (upd T d v) (a.put (some d) cv).tmps x u := by
    intro x u h
    cases x with
    | loc t off =>
      obtain ⟨b, h4, h5⟩ := h
      refine ⟨b, h4, fun cs hc => ?_⟩
      obtain ⟨ht, h3⟩ := box t cs hc
      rw [tne t ht]; exact h5 cs h3
    | box cs => trivial
    | _ => exact VR_stab S _ _ h
  refine ⟨R.defers, by simp [Act.put, R.size], R.xb, R.tr, ?_, ?_, ?_, ?_⟩
  · intro b τ cs h
    obtain ⟨h1, h2, c, ty, vs, rest, h3, h4, h5⟩ := R.gr b τ cs h
    exact ⟨h1, h2, c, ty, vs, rest, h3, h4, VRs_stab S _ _ h5⟩
  · intro t cs h
    obtain ⟨ht, h3⟩ := box t cs h
    obtain ⟨b, h4, h5, h6, h7, c, ty, h8, h9⟩ := R.bx t cs h3
    exact ⟨b, by rw [tne t ht]; exact h4, h5, h6, h7, c, ty, h8, VRs_stab S _ _ h9⟩
  · intro t t' cs cs' hne h h'
    obtain ⟨ht, h3⟩ := box t cs h
    obtain ⟨ht', h3'⟩ := box t' cs' h'
    rw [tne t ht, tne t' ht']
    exact R.inj t t' cs cs' hne h3 h3'
  · intro i
    by_cases hi : i = d
    · subst hi
      rw [geq, teq]
      exact hsl hv
    · rw [gne i hi, tne i hi]
      exact hsl (R.slot i)

/-- the world moves on beneath the frame; whatever is owned stays as it was -/
theorem Rel.world {E : En} {T : Tm} {G : Hp} {a : Act} {w w' : World} (R : Rel E T G a w)
    (hos : w'.os = w.os) (htape : w'.tape = w.tape) (hout : w'.output = w.output) (hsize : w.heap.size ≤ w'.heap.size) (hblk : ∀ b, b < w.heap.size → w'.heap[b]? = w.heap[b]?) : Rel E T G a w' := by
  have hshape : ∀ b e c, w.shape? b = some (e, c) → w'.shape? b = some (e, c) := by
    intro b e c h
    have hb : b < w.heap.size := by
      unfold World.shape? at h
      split at h
      · rename_i hh; exact (Array.getElem?_eq_some_iff.1 hh).1
      · cases h
    unfold World.shape? at h ⊢
    rw [hblk b hb]; exact h
  have S : Stab w (Own E.X G T a.tmps) w' (Own E.X G T a.tmps) := ⟨fun b h hb => ⟨h, hblk b hb⟩, hsize, hshape⟩
  refine ⟨R.defers, R.size, R.xb, ⟨hos.trans R.tr.os, htape.trans R.tr.tape, hout.trans R.tr.output, Nat.le_trans R.tr.size hsize, ?_, fun b e c h => hshape _ _ _ (R.tr.shape _ _ _ h)⟩, ?_, ?_, R.inj, ?_⟩
  · intro b hb h0
    have := R.tr.blk b hb h0
    exact ⟨(hblk b (Nat.lt_of_lt_of_le hb R.tr.size)).trans this.1, this.2⟩
  · intro b τ cs h
    obtain ⟨h1, h2, c, ty, vs, rest, h3, h4, h5⟩ := R.gr b τ cs h
    exact ⟨h1, Nat.lt_of_lt_of_le h2 hsize, c, ty, vs, rest, (hblk b h2).trans h3, h4, VRs_stab S _ _ h5⟩
  · intro t cs h
    obtain ⟨b, h4, h5, h6, h7, c, ty, h8, h9⟩ := R.bx t cs h
    exact ⟨b, h4, h5, Nat.lt_of_lt_of_le h6 hsize, h7, c, ty, (hblk b h6).trans h8, VRs_stab S _ _ h9⟩
  · intro i
    exact SlotR_stab S (R.slot i)

theorem Rel.drew {E : En} {T : Tm} {G : Hp} {a : Act} {w : World} (R : Rel E T G a w) : Rel E T G a { w with drawn := w.drawn + 1 } :=
  R.world rfl rfl rfl (Nat.le_refl _) (fun _ _ => rfl)

theorem heap_alloc_old (w : World) (o : Obj) {b : Nat} (h : b < w.heap.size) : (w.alloc o).heap[b]? = w.heap[b]? := by
  show (w.heap.push o)[b]? = _
  rw [Array.getElem?_push, if_neg (by omega)]

theorem heap_alloc_at (w : World) (o : Obj) : (w.alloc o).heap[w.heap.size]? = some o := by
  show (w.heap.push o)[w.heap.size]? = _
  simp

theorem Rel.alloc {E : En} {T : Tm} {G : Hp} {a : Act} {w : World} (R : Rel E T G a w) (o : Obj) : Rel E T G a (w.alloc o) :=
  R.world rfl rfl rfl (by simp) (fun _ h => heap_alloc_old w o h)

theorem Rel.fresh {E : En} {T : Tm} {G : Hp} {a : Act} {w : World} (R : Rel E T G a w) : ¬ Own E.X G T a.tmps w.heap.size := by
  rintro (h | h | ⟨t, cs, h1, h2⟩)
  · have := R.xb _ h; have := R.tr.size; omega
  · cases hg : G w.heap.size with
    | none => exact h hg
    | some p =>
      obtain ⟨τ, cs⟩ := p
      have := (R.gr _ _ _ hg).2.1
      omega
  · obtain ⟨b, h4, _, h6, _⟩ := R.bx t cs h1
    rw [h4] at h2
    injection h2 with h2; injection h2 with h2; injection h2 with h2
    omega

def setH (G : Hp) (b : Nat) (o : Option (Nat × List AV)) : Hp := fun i => if i = b then o else G i

/-- a fresh block is owned from now on -/
theorem Rel.own {E : En} {T : Tm} {G : Hp} {a : Act} {w : World} (R : Rel E T G a w) (c : Array Value) (ty : TypeId) (τ : Nat) (cs : List AV) (vs rest : List Value)
    (hc : c.toList = vs ++ rest) (hv : VRs w (Own E.X G T a.tmps) cs vs) : Rel E T (setH G w.heap.size (some (τ, cs))) a (w.alloc (.cells c ty)) := by
  have hf := R.fresh
  have hG : G w.heap.size = none := by
    cases hg : G w.heap.size with
    | none => rfl
    | some p => exact absurd (.inr (.inl (by simp [hg]))) hf
  have hshape : ∀ b e k, w.shape? b = some (e, k) → (w.alloc (.cells c ty)).shape? b = some (e, k) := by
    intro b e k h
    have hb : b < w.heap.size := by
      unfold World.shape? at h
      split at h
      · rename_i hh; exact (Array.getElem?_eq_some_iff.1 hh).1
      · cases h
    unfold World.shape? at h ⊢
    rw [heap_alloc_old w _ hb]; exact h
  have S : Stab w (Own E.X G T a.tmps) (w.alloc (.cells c ty)) (Own E.X (setH G w.heap.size (some (τ, cs))) T a.tmps) := by
    refine ⟨fun b h hb => ⟨?_, heap_alloc_old w _ hb⟩, by simp, hshape⟩
    rintro (h' | h' | h')
    · exact h (.inl h')
    · simp only [setH, if_neg (show b ≠ w.heap.size by omega)] at h'
      exact h (.inr (.inl h'))
    · exact h (.inr (.inr h'))
  refine ⟨R.defers, R.size, R.xb, ?_, ?_, ?_, R.inj, fun i => SlotR_stab S (R.slot i)⟩
  · have A := (R.alloc (.cells c ty)).tr
    refine ⟨A.os, A.tape, A.output, A.size, fun b hb h0 => ⟨(A.blk b hb h0).1, ?_⟩, A.shape⟩
    have : b ≠ w.heap.size := by have := R.tr.size; omega
    simp only [setH, if_neg this]
    exact (A.blk b hb h0).2
  · intro b τ' cs' h
    by_cases hb : b = w.heap.size
    · subst hb
      simp only [setH, if_true, Option.some.injEq, Prod.mk.injEq] at h
      obtain ⟨rfl, rfl⟩ := h
      refine ⟨fun hx => hf (.inl hx), by simp, c, ty, vs, rest, heap_alloc_at w _, hc, VRs_stab S _ _ hv⟩
    · simp only [setH, if_neg hb] at h
      obtain ⟨h1, h2, c', ty', vs', rest', h3, h4, h5⟩ := R.gr b τ' cs' h
      exact ⟨h1, by simp; omega, c', ty', vs', rest', (heap_alloc_old w _ h2).trans h3, h4, VRs_stab S _ _ h5⟩
  · intro t cs' h
    obtain ⟨b, h4, h5, h6, h7, c', ty', h8, h9⟩ := R.bx t cs' h
    refine ⟨b, h4, h5, by simp; omega, ?_, c', ty', (heap_alloc_old w _ h6).trans h8, VRs_stab S _ _ h9⟩
    simp only [setH, if_neg (show b ≠ w.heap.size by omega)]
    exact h7

/-- a fresh block is the box of slot d -/
theorem Rel.box {E : En} {T : Tm} {G : Hp} {a : Act} {w : World} (R : Rel E T G a w) {d : Nat} (hd : d < E.n) (c : Array Value) (ty : TypeId) (cs : List AV)
    (hv : VRs w (Own E.X G T a.tmps) cs c.toList) : Rel E (upd (kill d T) d (.box cs)) G (a.put (some d) (.pointer (some ⟨w.heap.size, 0, none⟩))) (w.alloc (.cells c ty)) := by
  have hf := R.fresh
  have hG : G w.heap.size = none := by
    cases hg : G w.heap.size with
    | none => rfl
    | some p => exact absurd (.inr (.inl (by simp [hg]))) hf
  have hsz : d < a.tmps.size := by rw [R.size]; exact hd
  have tne : ∀ i, i ≠ d → (a.put (some d) (.pointer (some ⟨w.heap.size, 0, none⟩))).tmps.getD i undef = a.tmps.getD i undef := fun i h => by rw [Act.getD_put hsz, if_neg h]
  have teq : (a.put (some d) (.pointer (some ⟨w.heap.size, 0, none⟩))).tmps.getD d undef = .pointer (some ⟨w.heap.size, 0, none⟩) := by rw [Act.getD_put hsz, if_pos rfl]
  generalize hp : (a.put (some d) (.pointer (some ⟨w.heap.size, 0, none⟩))) = a' at tne teq ⊢
  have gne : ∀ i, i ≠ d → get (upd (kill d T) d (AV.box cs)) i = killv d (get T i) := fun i h => by simp [get, upd, h, kill]
  have geq : get (upd (kill d T) d (AV.box cs)) d = .box cs := by simp [get, upd]
  have kb : ∀ {x : AV} {cs' : List AV}, killv d x = .box cs' → x = .box cs' := by
    intro x cs' h
    cases x <;> simp [killv] at h ⊢
    · split at h <;> cases h
    · exact h
  have box : ∀ t cs', get (upd (kill d T) d (AV.box cs)) t = .box cs' → t ≠ d → get T t = .box cs' := by
    intro t cs' h ht
    rw [gne t ht] at h
    exact kb h
  have hshape : ∀ b e k, w.shape? b = some (e, k) → (w.alloc (.cells c ty)).shape? b = some (e, k) := by
    intro b e k h
    have hb : b < w.heap.size := by
      unfold World.shape? at h
      split at h
      · rename_i hh; exact (Array.getElem?_eq_some_iff.1 hh).1
      · cases h
    unfold World.shape? at h ⊢
    rw [heap_alloc_old w _ hb]; exact h
  have S : Stab w (Own E.X G T a.tmps) (w.alloc (.cells c ty)) (Own E.X G (upd (kill d T) d (.box cs)) a'.tmps) := by
    refine ⟨fun b h hb => ⟨?_, heap_alloc_old w _ hb⟩, by simp, hshape⟩
    rintro (h' | h' | ⟨t, cs', h1, h2⟩)
    · exact h (.inl h')
    · exact h (.inr (.inl h'))
    · by_cases ht : t = d
      · subst ht
        rw [teq] at h2
        injection h2 with h2; injection h2 with h2; injection h2 with h2
        omega
      · rw [tne t ht] at h2
        exact h (.inr (.inr ⟨t, cs', box t cs' h1 ht, h2⟩))
  have sz' : a'.tmps.size = E.n := by rw [← hp]; simp [Act.put, R.size]
  have df' : a'.defers = [] := by rw [← hp]; exact R.defers
  refine ⟨df', sz', R.xb, (R.alloc _).tr, ?_, ?_, ?_, ?_⟩
  · intro b τ' cs' h
    obtain ⟨h1, h2, c', ty', vs', rest', h3, h4, h5⟩ := R.gr b τ' cs' h
    exact ⟨h1, by simp; omega, c', ty', vs', rest', (heap_alloc_old w _ h2).trans h3, h4, VRs_stab S _ _ h5⟩
  · intro t cs' h
    by_cases ht : t = d
    · subst ht
      rw [geq] at h; injection h with h; subst h
      exact ⟨w.heap.size, teq, R.tr.size, by simp, hG, c, ty, heap_alloc_at w _, VRs_stab S _ _ hv⟩
    · obtain ⟨b, h4, h5, h6, h7, c', ty', h8, h9⟩ := R.bx t cs' (box t cs' h ht)
      exact ⟨b, by rw [tne t ht]; exact h4, h5, by simp; omega, h7, c', ty', (heap_alloc_old w _ h6).trans h8, VRs_stab S _ _ h9⟩
  · intro t t' cs1 cs2 hne h h'
    have old : ∀ {t : Nat} {cs' : List AV}, get T t = .box cs' → a.tmps.getD t undef ≠ .pointer (some ⟨w.heap.size, 0, none⟩) := by
      intro t cs' h
      obtain ⟨b, h4, h5, h6, _⟩ := R.bx t cs' h
      rw [h4]; intro e
      injection e with e; injection e with e; injection e with e
      omega
    by_cases ht : t = d
    · subst ht
      rw [teq, tne t' (Ne.symm hne)]
      exact fun e => old (box t' cs2 h' (Ne.symm hne)) e.symm
    · by_cases ht' : t' = d
      · subst ht'
        rw [teq, tne t hne]
        exact old (box t cs1 h hne)
      · rw [tne t ht, tne t' ht']
        exact R.inj t t' cs1 cs2 hne (box t cs1 h ht) (box t' cs2 h' ht')
  · intro i
    by_cases hi : i = d
    · subst hi; rw [geq]; trivial
    · rw [gne i hi, tne i hi]
      have hs := R.slot i
      generalize get T i = x at hs
      cases x with
      | loc t off =>
        simp only [killv]
        split
        · simp only [SlotR, VR]
        · rename_i htd
          obtain ⟨b, h4, h5⟩ := hs
          refine ⟨b, h4, fun cs' hc => ?_⟩
          rw [tne t htd]; exact h5 cs' (box t cs' hc htd)
      | box cs' => simp only [killv, SlotR]
      | _ => exact VR_stab S _ _ hs

end Go.Al

set_option linter.unusedVariables false
set_option linter.unusedSimpArgs false
namespace Go.Al
open Go

/-- a function's contract -/
def ACalls (P : Program) (f : FuncId) (args : List AV) (G : Hp) (post : AV → Hp → Prop) : Prop :=
  ∀ (X : Nat → Prop) (w : World) (cargs : Array Value), (∀ b, X b → b < w.heap.size) → GR w (fun b => X b ∨ G b ≠ none) X G → VRs w (fun b => X b ∨ G b ≠ none) args cargs.toList →
    Calls P f cargs w fun e w' => ∃ r cr G', e = .returned cr ∧ Tr G w G' w' ∧ GR w' (fun b => X b ∨ G' b ≠ none) X G' ∧ VR w' (fun b => X b ∨ G' b ≠ none) r cr ∧ post r G'

theorem ACalls.mono {P : Program} {f : FuncId} {args : List AV} {G : Hp} {p q : AV → Hp → Prop} (h : ACalls P f args G p) (k : ∀ r G', p r G' → q r G') : ACalls P f args G q :=
  fun X w cargs h1 h2 h3 => Calls.mono (h X w cargs h1 h2 h3) fun e w' ⟨r, cr, G', a, b, c, d, hp⟩ => ⟨r, cr, G', a, b, c, d, k _ _ hp⟩

def Goes (P : Program) (E : En) (c : Code) (Q : Exit → Tm → Hp → Prop) (T : Tm) (G : Hp) : Prop :=
  ∀ a w, Rel E T G a w → c.wp P (fun e a' w' => ∃ T' G', Rel E T' G' a' w' ∧ Q e T' G') a w

section
variable {P : Program} {E : En} {Q : Exit → Tm → Hp → Prop} {T : Tm} {G : Hp}

theorem Goes.mono {c : Code} {Q' : Exit → Tm → Hp → Prop} (h : Goes P E c Q T G) (k : ∀ e T G, Q e T G → Q' e T G) : Goes P E c Q' T G :=
  fun a w R => wp_mono (h a w R) fun e a' w' ⟨T', G', r, q⟩ => ⟨T', G', r, k _ _ _ q⟩

def thn (next : Tm → Hp → Prop) (Q : Exit → Tm → Hp → Prop) : Exit → Tm → Hp → Prop
  | .normal, T, G => next T G
  | e, T, G => Q e T G

theorem goes_seq {x y : Code} (h : Goes P E x (thn (Goes P E y Q) Q) T G) : Goes P E (.seq x y) Q T G := by
  intro a w R
  refine wp_seq (wp_mono (h a w R) ?_)
  rintro e a' w' ⟨T', G', R', q⟩
  cases e with
  | normal => exact q a' w' R'
  | _ => exact ⟨T', G', R', q⟩

theorem goes_skip (h : Q .normal T G) : Goes P E .skip Q T G := fun a w R => wp_skip ⟨T, G, R, h⟩
theorem goes_label {l : Nat} (h : Q .normal T G) : Goes P E (.label l) Q T G := fun a w R => wp_label ⟨T, G, R, h⟩
theorem goes_exit {id : Nat} (h : Q (.exit id) T G) : Goes P E (.exit id) Q T G := fun a w R => wp_exit ⟨T, G, R, h⟩
theorem goes_ret (h : Q .ret T G) : Goes P E .ret Q T G := fun a w R => wp_ret ⟨T, G, R, h⟩

theorem goes_cond {c : Operand} {x y : Code} {t : Bool} (hc : ev T c = .bool t) (ht : t = true → Goes P E x Q T G) (hf : t = false → Goes P E y Q T G) : Goes P E (.cond c x y) Q T G := by
  intro a w R
  have h := ev_slot R c
  rw [hc] at h
  simp only [SlotR, VR] at h
  exact wp_cond_split h (fun e => ht e a w R) (fun e => hf e a w R)

theorem goes_cond_t {c : Operand} {x y : Code} (hc : ev T c = .bool true) (ht : Goes P E x Q T G) : Goes P E (.cond c x y) Q T G := goes_cond hc (fun _ => ht) (fun h => by cases h)
theorem goes_cond_f {c : Operand} {x y : Code} (hc : ev T c = .bool false) (hf : Goes P E y Q T G) : Goes P E (.cond c x y) Q T G := goes_cond hc (fun h => by cases h) (fun _ => hf)

def inB (id : Nat) (Q : Exit → Tm → Hp → Prop) : Exit → Tm → Hp → Prop
  | .exit id', T, G => if id' = id then Q .normal T G else Q (.exit id') T G
  | e, T, G => Q e T G

theorem goes_block {id : Nat} {c : Code} (h : Goes P E c (inB id Q) T G) : Goes P E (.block id c) Q T G := by
  intro a w R
  refine wp_block (wp_mono (h a w R) ?_)
  rintro e a' w' ⟨T', G', R', q⟩
  cases e with
  | exit id' =>
    simp only [inB] at q
    simp only [Exit.inBlock]
    split
    · rename_i hi; rw [if_pos hi] at q; exact ⟨T', G', R', q⟩
    · rename_i hi; rw [if_neg hi] at q; exact ⟨T', G', R', q⟩
  | _ => exact ⟨T', G', R', q⟩

theorem goes_loop {c : Code} (I : Nat → Tm → Hp → Prop) (n : Nat) (h0 : I n T G)
    (round : ∀ n T G, I n T G → Goes P E c (thn (fun T' G' => ∃ m, m < n ∧ I m T' G') Q) T G) : Goes P E (.loop c) Q T G := by
  intro a w R b k cs
  have key : ∀ n T G a w, Rel E T G a w → I n T G →
      ∃ e a' w', (∃ T' G', Rel E T' G' a' w' ∧ Q e T' G') ∧ Arrives P (lone (b.at a (.code c :: .inLoop c :: k)) cs w) b k cs e a' w' := by
    intro n
    induction n using Nat.strongRecOn with
    | _ n ih =>
      intro T G a w R hI
      obtain ⟨e, a₁, w₁, ⟨T', G', R', q⟩, harr⟩ := round n T G hI a w R b (.inLoop c :: k) cs
      cases e with
      | normal =>
        obtain ⟨m, hm, hI'⟩ := q
        obtain ⟨e₂, a₂, w₂, hq₂, harr₂⟩ := ih m hm T' G' a₁ w₁ R' hI'
        exact ⟨e₂, a₂, w₂, hq₂, .of_steps (Steps.trans harr (.one step_inLoop)) harr₂⟩
      | exit id => exact ⟨_, a₁, w₁, ⟨T', G', R', q⟩, .pass (x := .inLoop c) rfl (fun _ _ => .inl (by simp)) harr⟩
      | goto l => exact ⟨_, a₁, w₁, ⟨T', G', R', q⟩, .pass (x := .inLoop c) rfl (fun _ _ => .inl (by simp)) harr⟩
      | ret => exact ⟨_, a₁, w₁, ⟨T', G', R', q⟩, .pass (x := .inLoop c) rfl (fun _ _ => .inl (by simp)) harr⟩
      | panic ch => exact ⟨_, a₁, w₁, ⟨T', G', R', q⟩, .pass (x := .inLoop c) rfl (fun _ _ => .inl (by simp)) harr⟩
      | outgrown => exact ⟨_, a₁, w₁, ⟨T', G', R', q⟩, .pass (x := .inLoop c) rfl (fun _ _ => .inl (by simp)) harr⟩
  obtain ⟨e, a', w', hq, harr⟩ := key n T G a w R h0
  exact ⟨e, a', w', hq, .of_steps (.one step_loop) harr⟩

/-- the frame may forget, or know otherwise -/
theorem Goes.weaken {c : Code} {T' : Tm} {G' : Hp} (h : ∀ a w, Rel E T G a w → Rel E T' G' a w) (k : Goes P E c Q T' G') : Goes P E c Q T G := fun a w R => k a w (h a w R)

end

mutual
/-- Ghost step at the return: slices of dropped blocks are frozen. -/
inductive Frz (G G' : Hp) : AV → AV → Prop where
  | refl (x : AV) : Frz G G' x x
  | ms (b off n sz τ : Nat) (cs ds : List AV) : G b = some (τ, cs) → G' b = none → Frzs G G' ((cs.drop off).take (n * sz)) ds → Frz G G' (.ms b off n sz) (.sl n ds)
  | agg (cs ds : List AV) : Frzs G G' cs ds → Frz G G' (.agg cs) (.agg ds)
  | tup (cs ds : List AV) : Frzs G G' cs ds → Frz G G' (.tup cs) (.tup ds)
inductive Frzs (G G' : Hp) : List AV → List AV → Prop where
  | nil : Frzs G G' [] []
  | cons (x y : AV) (xs ys : List AV) : Frz G G' x y → Frzs G G' xs ys → Frzs G G' (x :: xs) (y :: ys)
end

theorem Frzs.refl {G G' : Hp} : ∀ xs, Frzs G G' xs xs
  | [] => .nil
  | x :: xs => .cons x x xs xs (.refl x) (Frzs.refl xs)

def sub (G' G : Hp) : Prop := ∀ b o, G' b = some o → G b = some o

theorem sub.refl (G : Hp) : sub G G := fun _ _ h => h

mutual
theorem Frz.vr {G G' : Hp} {X : Nat → Prop} {w : World} (hs : sub G' G) (hg : GR w (fun b => X b ∨ G b ≠ none) X G) : ∀ {x y : AV}, Frz G G' x y → ∀ {v : Value}, VR w (fun b => X b ∨ G b ≠ none) x v → VR w (fun b => X b ∨ G' b ≠ none) y v
  | _, _, .refl x, v, h => VR_stab (Stab.sub fun b hb => by
      rcases hb with hb | hb
      · exact .inl hb
      · right
        cases hq : G' b with
        | none => exact absurd hq hb
        | some o => rw [hs b o hq]; simp) x v h
  | _, _, .agg cs ds k, v, h => by
    simp only [VR] at h ⊢
    obtain ⟨a, h1, h2⟩ := h
    exact ⟨a, h1, Frzs.vr hs hg k h2⟩
  | _, _, .tup cs ds k, v, h => by
    simp only [VR] at h ⊢
    obtain ⟨a, h1, h2⟩ := h
    exact ⟨a, h1, Frzs.vr hs hg k h2⟩
  | _, _, .ms b off n sz τ cs ds h1 h2 h3, v, h => by
    simp only [VR] at h ⊢
    obtain ⟨cap, rfl, h5, h6, e, c, h7, h8⟩ := h
    obtain ⟨g1, g2, c', ty, vs, rest, g3, g4, g5⟩ := hg b τ cs h1
    refine ⟨⟨b, off, none⟩, cap, rfl, h5, h6, ?_⟩
    have hv := Frzs.vr hs hg h3 (VRs_take (n * sz) (VRs_drop off g5))
    refine MR_of (b := b) (by rintro (hx | hx); exact g1 hx; exact hx h2) g2 hv ?_
    intro i u hu
    have hlt : i < ((vs.drop off).take (n * sz)).length := by
      rcases Nat.lt_or_ge i ((vs.drop off).take (n * sz)).length with h | h
      · exact h
      · rw [List.getElem?_eq_none h] at hu; cases hu
    simp only [List.length_take, List.length_drop] at hlt
    rw [List.getElem?_take_of_lt (by omega), List.getElem?_drop] at hu
    unfold World.cell?
    simp only [g3]
    have : c'.toList[off + i]? = some u := by rw [g4, List.getElem?_append_left (by omega)]; exact hu
    simpa using this
theorem Frzs.vr {G G' : Hp} {X : Nat → Prop} {w : World} (hs : sub G' G) (hg : GR w (fun b => X b ∨ G b ≠ none) X G) : ∀ {xs ys : List AV}, Frzs G G' xs ys → ∀ {vs : List Value}, VRs w (fun b => X b ∨ G b ≠ none) xs vs → VRs w (fun b => X b ∨ G' b ≠ none) ys vs
  | _, _, .nil, vs, h => by simpa only [VRs] using h
  | _, _, .cons x y xs ys h1 h2, vs, h => by
    simp only [VRs] at h ⊢
    obtain ⟨v, vs', rfl, h3, h4⟩ := h
    exact ⟨v, vs', rfl, Frz.vr hs hg h1 h3, Frzs.vr hs hg h2 h4⟩
end

def initT (args : List AV) : Tm := fun i => (args[i]?).getD .any

theorem get_initT (args : List AV) (i : Nat) : get (initT args) i = (args[i]?).getD .any := rfl

end Go.Al

set_option linter.unusedVariables false
set_option linter.unusedSimpArgs false
namespace Go.Al
open Go

/-- what is known of a type -/
inductive KD where
  | other | bool | int (k : IntKind) | str | ptr (e : Nat) | slc (e : Nat) | struct | arr (n e : Nat) | func
  deriving DecidableEq

structure TI where
  ok : Bool
  kd : KD
  eqg : Bool
  size : Nat
  bytes : Nat
  agg : Bool
  elem : Option Nat
  offs : List (Option Nat)
  flds : Option (List (Nat × Nat))
  zero : Option (List AV)

def isAggD : TypeDesc → Bool
  | .struct _ => true
  | .array _ _ => true
  | _ => false

def kdD : TypeDesc → KD
  | .bool => .bool
  | .int k => .int k
  | .string => .str
  | .pointer e => .ptr e
  | .slice e => .slc e
  | .struct _ => .struct
  | .array n e => .arr n e
  | .func _ _ _ => .func
  | _ => .other

def elemD : TypeDesc → Option Nat
  | .slice e => some e
  | _ => none

def offsD (P : Program) : TypeDesc → List (Option Nat)
  | .struct fs => fs.toList.map fun f => match P.info? f.type with
    | some j => if j.size = 0 then none else some f.offset
    | none => none
  | _ => []

def fldD (P : Program) : TypeDesc → Option (List (Nat × Nat))
  | .struct fs => fs.toList.mapM fun f => (P.info? f.type).map fun j => (f.offset, j.size)
  | _ => none

def ti (P : Program) (t : TypeId) : TI :=
  match P.info? t, P.underlying t with
  | some i, some d => { ok := true, kd := kdD d, eqg := P.eqGuardType P.depth t, size := i.size, bytes := i.bytes, agg := isAggD d, elem := elemD d, offs := offsD P d, flds := fldD P d, zero := i.zero.map fun v => v.cells.toList.map ofV }
  | _, _ => { ok := false, kd := .other, eqg := true, size := 0, bytes := 0, agg := false, elem := none, offs := [], flds := none, zero := none }

theorem ti_ok {P : Program} {t : TypeId} (h : (ti P t).ok = true) : ∃ i d, P.info? t = some i ∧ P.underlying t = some d ∧ (ti P t).kd = kdD d ∧ (ti P t).eqg = P.eqGuardType P.depth t ∧ (ti P t).size = i.size ∧ (ti P t).bytes = i.bytes ∧ (ti P t).agg = isAggD d ∧ (ti P t).elem = elemD d ∧ (ti P t).offs = offsD P d ∧ (ti P t).flds = fldD P d ∧
    (ti P t).zero = i.zero.map fun v => v.cells.toList.map ofV := by
  unfold ti at h ⊢
  cases h1 : P.info? t with
  | none => rw [h1] at h; simp at h
  | some i =>
    cases h2 : P.underlying t with
    | none => rw [h1, h2] at h; simp at h
    | some d => exact ⟨i, d, rfl, rfl, rfl, rfl, rfl, rfl, rfl, rfl, rfl, rfl, rfl⟩

theorem run_sizeOf' {P : Program} {t : TypeId} {i : TypeInfo} (h : P.info? t = some i) (w : World) : (sizeOf t).run P w = .ok i.size w := by
  simp [sizeOf, typeInfo, h]

theorem run_isAgg' {P : Program} {t : TypeId} {d : TypeDesc} (h : P.underlying t = some d) (w : World) : (isAgg t).run P w = .ok (isAggD d) w := by
  unfold isAgg
  simp only [Sem.run_bind, run_underlying h, Result.andThen_ok]
  cases d <;> rfl

/-- the cells that lie at a pointer -/
def memLd (T : Tm) (G : Hp) : AV → Option (List AV)
  | .iptr cs => some cs
  | .ptr b off => match G b with
    | some (_, cs) => some (cs.drop off)
    | none => none
  | .loc t off => match get T t with
    | .box cs => some (cs.drop off)
    | _ => none
  | _ => none

def ldV (i : TI) (cs : List AV) : Option AV :=
  if i.ok then (if i.agg then (if i.size ≤ cs.length then some (.agg (cs.take i.size)) else none) else cs.head?) else none

theorem add_none (b off j : Nat) : (⟨b, off, none⟩ : Addr).add j = ⟨b, off + j, none⟩ := by
  unfold Addr.add
  split
  · rename_i h; subst h; rfl
  · rfl

theorem memLd_sound {E : En} {T : Tm} {G : Hp} {a : Act} {w : World} (R : Rel E T G a w) {p : AV} {cp : Value} (hp : SlotR w (Own E.X G T a.tmps) T a.tmps p cp) {cs : List AV} (h : memLd T G p = some cs) :
    ∃ (a0 : Addr) (vs : List Value), cp = .pointer (some a0) ∧ VRs w (Own E.X G T a.tmps) cs vs ∧ ∀ i v, vs[i]? = some v → w.cell? (a0.add i) = some v := by
  cases p <;> simp only [memLd] at h <;> try (cases h; done)
  case iptr cs' =>
    injection h with h; subst h
    simp only [SlotR, VR] at hp
    obtain ⟨a0, rfl, hm⟩ := hp
    obtain ⟨vs, h1, h2⟩ := MR_list hm
    exact ⟨a0, vs, rfl, h1, by simpa using h2⟩
  case ptr b off =>
    simp only [SlotR, VR] at hp
    subst hp
    cases hg : G b with
    | none => rw [hg] at h; cases h
    | some q =>
      obtain ⟨τ, cs'⟩ := q
      rw [hg] at h; injection h with h; subst h
      obtain ⟨h1, h2, c, ty, vs, rest, h3, h4, h5⟩ := R.gr b τ cs' hg
      refine ⟨_, vs.drop off, rfl, VRs_drop off h5, ?_⟩
      intro i v hv
      rw [add_none]
      rw [List.getElem?_drop] at hv
      have hlt : off + i < vs.length := (List.getElem?_eq_some_iff.1 hv).1
      have : c.toList[off + i]? = some v := by rw [h4, List.getElem?_append_left hlt]; exact hv
      simp only [World.cell?, h3]
      simpa using this
  case loc t off =>
    cases hg : get T t <;> rw [hg] at h <;> try (cases h; done)
    rename_i cs'
    injection h with h; subst h
    obtain ⟨b, h5, h4⟩ := hp
    subst h5
    have h4 := h4 cs' hg
    obtain ⟨b', h6, h7, h8, h9, c, ty, h10, h11⟩ := R.bx t cs' hg
    rw [h4] at h6
    injection h6 with h6; injection h6 with h6; injection h6 with h6
    subst h6
    refine ⟨_, c.toList.drop off, rfl, VRs_drop off h11, ?_⟩
    intro i v hv
    rw [add_none]
    rw [List.getElem?_drop] at hv
    simp only [World.cell?, h10]
    simpa using hv

theorem load_sound {P : Program} {E : En} {T : Tm} {G : Hp} {a : Act} {w : World} (R : Rel E T G a w) {p : AV} {cp : Value} (hp : SlotR w (Own E.X G T a.tmps) T a.tmps p cp) {cs : List AV} (h : memLd T G p = some cs)
    {t : TypeId} {v : AV} (hv : ldV (ti P t) cs = some v) : ∃ cv, (Instr.loadAt t cp).run P w = .ok cv w ∧ VR w (Own E.X G T a.tmps) v cv := by
  obtain ⟨a0, vs, rfl, hvs, hc⟩ := memLd_sound R hp h
  unfold ldV at hv
  split at hv
  · rename_i hok
    obtain ⟨i, d, h1, h2, hkd, heg, h3, h4, h5, h6, h7, hfl, h8⟩ := ti_ok hok
    rw [h5, h3] at hv
    simp only [Instr.loadAt, Instr.sureAddr, loadVar, Sem.run_bind, Sem.run_pure, Result.andThen_ok, run_isAgg' h2]
    cases hd : isAggD d with
    | true =>
      rw [hd] at hv
      simp only [if_true] at hv
      split at hv
      · rename_i hle
        injection hv with hv; subst hv
        have hl : (vs.take i.size).length = i.size := by
          rw [List.length_take, VRs_length _ _ hvs]; omega
        have := run_loadCells_list (P := P) (w := w) a0 (vs.take i.size) (fun j u hu => hc j u (by
          have hlt : j < i.size := by
            have := (List.getElem?_eq_some_iff.1 hu).1
            omega
          rwa [List.getElem?_take_of_lt hlt] at hu))
        rw [hl] at this
        refine ⟨.agg (vs.take i.size).toArray, ?_, ?_⟩
        · simp [run_sizeOf' h1, this]
        · simp only [VR]
          exact ⟨_, rfl, by simpa using VRs_take i.size hvs⟩
      · cases hv
    | false =>
      rw [hd] at hv
      simp only [Bool.false_eq_true, if_false] at hv
      cases cs with
      | nil => cases hv
      | cons x xs =>
        simp only [List.head?_cons, Option.some.injEq] at hv
        subst hv
        simp only [VRs] at hvs
        obtain ⟨u, us, rfl, hu, _⟩ := hvs
        have := hc 0 u (by simp)
        rw [show a0.add 0 = a0 by simp [Addr.add]] at this
        refine ⟨u, ?_, hu⟩
        simp [this]
  · cases hv

end Go.Al

set_option linter.unusedVariables false
set_option linter.unusedSimpArgs false
namespace Go.Al
open Go

def resF (tmps : Array Value) : ResultVar → Sem Value
  | .tmp t => pure (tmps.getD t undef)
  | .cell a t => do loadVar t (← asAddr (tmps.getD a undef))

theorem results_eq (fn : Func) (tmps : Array Value) : results fn tmps = (do
    let vs ← fn.results.mapM (resF tmps)
    pure (if h : vs.size = 1 then vs[0] else .tuple vs)) := by
  unfold results
  congr 1

def rets (P : Program) (rs : List ResultVar) (T : Tm) (G : Hp) : List AV := rs.map fun
  | .tmp t => get T t
  | .cell a t => match memLd T G (ev T (.tmp a)) with
    | some cs => match ldV (ti P t) cs with
      | some v => v
      | none => .box []
    | none => .box []

/-- what a function hands back -/
def resV : List AV → AV
  | [x] => x
  | xs => .tup xs

/-- the end of a function: the result, what is kept -/
def AEnds (P : Program) (rs : List ResultVar) (post : AV → Hp → Prop) (e : Exit) (T : Tm) (G : Hp) : Prop :=
  (e = .ret ∨ e = .normal) ∧ (rets P rs T G).all AV.plain = true ∧ ∃ r G', sub G' G ∧ Frz G G' (resV (rets P rs T G)) r ∧ post r G'

theorem acalls_intro {P : Program} {f : FuncId} {fn : Func} {c : Code} {args : List AV} {G : Hp} {post : AV → Hp → Prop} (hf : P.funcs[f]? = some fn) (hb : fn.body = some c)
    (hargs : args.all AV.plain = true) (hn : args.length ≤ fn.ntmps)
    (h : ∀ E : En, E.n = fn.ntmps → Goes P E c (AEnds P fn.results.toList post) (initT args) G) : ACalls P f args G post := by
  intro X w cargs hX hG hA
  have hlen := VRs_length _ _ hA
  rw [Array.length_toList] at hlen
  have nobox : ∀ t cs, get (initT args) t ≠ .box cs := by
    intro t cs e
    rw [get_initT] at e
    cases hx : args[t]? with
    | none => rw [hx] at e; cases e
    | some x =>
      rw [hx] at e
      simp only [Option.getD_some] at e
      have := (List.all_eq_true.1 hargs) x (List.mem_of_getElem? hx)
      rw [e] at this; cases this
  have hO : ∀ tm : Array Value, Own X G (initT args) tm = fun b => X b ∨ G b ≠ none := by
    intro tm
    funext b
    apply propext
    constructor
    · rintro (h | h | ⟨t, cs, h1, _⟩)
      · exact .inl h
      · exact .inr h
      · exact absurd h1 (nobox t cs)
    · rintro (h | h)
      · exact .inl h
      · exact .inr (.inl h)
  refine calls_of_wp hf hb (wp_mono (h ⟨X, G, w, fn.ntmps⟩ rfl _ w ⟨rfl, ?_, hX, Tr.refl G w, ?_, ?_, ?_, ?_⟩) ?_)
  · simp; omega
  · show GR w (Own X G (initT args) _) X G
    rw [hO]; exact hG
  · intro t cs e; exact absurd e (nobox t cs)
  · intro t t' cs cs' _ e; exact absurd e (nobox t cs)
  · intro i
    show SlotR w (Own X G (initT args) _) _ _ _ _
    rw [hO, get_initT]
    cases hx : args[i]? with
    | none => simp only [Option.getD_none, SlotR, VR]
    | some x =>
      obtain ⟨v, hv, hr⟩ := VRs_get i x hA hx
      have hi : i < cargs.size := by
        have := (List.getElem?_eq_some_iff.1 hv).1
        simpa using this
      have : (cargs ++ Array.replicate (fn.ntmps - cargs.size) undef).getD i undef = v := by
        rw [Array.getD_eq_getD_getElem?, Array.getElem?_append_left hi]
        have : cargs[i]? = some v := by simpa using hv
        simp [this]
      rw [this]
      exact hr.slot
  · rintro e a' w' ⟨T', G', R', hend, hpl, r, G'', hsub, hfrz, hpost⟩
    have hG' : GR w' (fun b => X b ∨ G' b ≠ none) X G' := by
      intro b τ cs hb
      obtain ⟨h1, h2, c, ty, vs, rest, h3, h4, h5⟩ := R'.gr b τ cs hb
      exact ⟨h1, h2, c, ty, vs, rest, h3, h4, VRs_stab (Stab.sub fun b hb => by rcases hb with hb | hb; exact .inl hb; exact .inr (.inl hb)) _ _ h5⟩
    have hG'' : GR w' (fun b => X b ∨ G'' b ≠ none) X G'' := by
      intro b τ cs hb
      obtain ⟨h1, h2, c, ty, vs, rest, h3, h4, h5⟩ := hG' b τ cs (hsub _ _ hb)
      exact ⟨h1, h2, c, ty, vs, rest, h3, h4, VRs_stab (Stab.sub fun b hb => by
        rcases hb with hb | hb
        · exact .inl hb
        · right
          cases hq : G'' b with
          | none => exact absurd hq hb
          | some o => rw [hsub b o hq]; simp) _ _ h5⟩
    have slots : ∀ i, (get T' i).plain = true → VR w' (fun b => X b ∨ G' b ≠ none) (get T' i) (a'.tmps.getD i undef) := by
      intro i hi
      exact VR_stab (Stab.sub fun b hb => by rcases hb with hb | hb; exact .inl hb; exact .inr (.inl hb)) _ _ ((R'.slot i).vr hi)
    have key : ∀ rs : List ResultVar, (rets P rs T' G').all AV.plain = true → ∃ vs : List Value, VRs w' (fun b => X b ∨ G' b ≠ none) (rets P rs T' G') vs ∧
        (rs.mapM (resF a'.tmps)).run P w' = .ok vs w' := by
      intro rs
      induction rs with
      | nil => intro _; exact ⟨[], by simp [rets, VRs], by simp⟩
      | cons x rs ih =>
        intro hp
        simp only [rets, List.map_cons, List.all_cons, Bool.and_eq_true] at hp
        obtain ⟨vs, h1, h2⟩ := ih hp.2
        cases x with
        | tmp i =>
          refine ⟨a'.tmps.getD i undef :: vs, ?_, ?_⟩
          · simp only [rets, List.map_cons, VRs]
            exact ⟨_, _, rfl, slots i hp.1, h1⟩
          · simp only [List.mapM_cons, resF, Sem.run_bind, Sem.run_pure, Result.andThen_ok, h2]
        | cell i t =>
          have hq := hp.1
          simp only at hq
          cases hm : memLd T' G' (ev T' (.tmp i)) with
          | none => rw [hm] at hq; simp [AV.plain] at hq
          | some cs =>
            cases hl : ldV (ti P t) cs with
            | none => rw [hm] at hq; simp [hl, AV.plain] at hq
            | some v =>
              obtain ⟨cv, h3, h4⟩ := load_sound R' (ev_slot R' (.tmp i)) hm hl
              refine ⟨cv :: vs, ?_, ?_⟩
              · simp only [rets, List.map_cons, VRs, hm, hl]
                exact ⟨_, _, rfl, VR_stab (Stab.sub fun b hb => by rcases hb with hb | hb; exact .inl hb; exact .inr (.inl hb)) _ _ h4, h1⟩
              · obtain ⟨a0, vs0, h5, _, _⟩ := memLd_sound R' (ev_slot R' (.tmp i)) hm
                simp only [Act.eval] at h5 h3
                rw [h5] at h3
                simp only [Instr.loadAt, Instr.sureAddr, Sem.run_bind, Sem.run_pure, Result.andThen_ok] at h3
                simp only [List.mapM_cons, resF, Sem.run_bind, h5, asAddr, Sem.run_pure, Result.andThen_ok, h2, h3]
    have hrun : ∃ cr, (results fn a'.tmps).run P w' = .ok cr w' ∧ VR w' (fun b => X b ∨ G' b ≠ none) (resV (rets P fn.results.toList T' G')) cr := by
      obtain ⟨vs, h1, h2⟩ := key fn.results.toList hpl
      have hrunA : (fn.results.mapM (resF a'.tmps)).run P w' = .ok vs.toArray w' := by
        rw [Array.mapM_eq_mapM_toList]
        simp only [Sem.run_map, h2, Result.andThen_ok]
      rw [results_eq]
      refine ⟨if h : vs.toArray.size = 1 then vs.toArray[0] else .tuple vs.toArray, ?_, ?_⟩
      · simp only [Sem.run_bind, hrunA, Result.andThen_ok, Sem.run_pure]
      · generalize rets P fn.results.toList T' G' = xs at h1
        rcases xs with _ | ⟨x, _ | ⟨y, xs⟩⟩
        · simp only [VRs] at h1; subst h1; simp only [resV, VR]; exact ⟨#[], by simp, by simp [VRs]⟩
        · simp only [VRs] at h1
          obtain ⟨v, _, rfl, h3, rfl⟩ := h1
          simpa [resV] using h3
        · have hl := VRs_length _ _ h1
          simp only [resV, VR]
          refine ⟨vs.toArray, ?_, by simpa using h1⟩
          simp at hl
          simp [hl]
    obtain ⟨cr, hrun, hcr⟩ := hrun
    have tr : Tr G w G'' w' := by
      refine ⟨R'.tr.os, R'.tr.tape, R'.tr.output, R'.tr.size, fun b hb h0 => ⟨(R'.tr.blk b hb h0).1, ?_⟩, R'.tr.shape⟩
      cases hq : G'' b with
      | none => rfl
      | some o => have := hsub b o hq; rw [(R'.tr.blk b hb h0).2] at this; cases this
    have fin : bodyPost P fn (fun e w' => ∃ r cr G', e = .returned cr ∧ Tr G w G' w' ∧ GR w' (fun b => X b ∨ G' b ≠ none) X G' ∧ VR w' (fun b => X b ∨ G' b ≠ none) r cr ∧ post r G') .ret a' w' :=
      ⟨R'.defers, cr, hrun, r, cr, G'', rfl, tr, hG'', Frz.vr hsub hG' hfrz hcr, hpost⟩
    rcases hend with rfl | rfl
    · exact fin
    · exact fin

end Go.Al

set_option linter.unusedVariables false
set_option linter.unusedSimpArgs false
namespace Go.Al
open Go

def splice (cs : List AV) (off : Nat) (vs : List AV) : List AV := cs.take off ++ vs ++ cs.drop (off + vs.length)

/-- may lie in one cell -/
def AV.scal : AV → Bool
  | .int _ _ | .bool _ | .str _ | .nil | .ptr _ _ | .iptr _ | .nils | .sl _ _ | .ms _ _ _ _ | .fn _ _ => true
  | _ => false

theorem VR_one {w : World} {O : Nat → Prop} {x : AV} {v : Value} (h : VR w O x v) (hx : x.scal = true) : v.oneCell' = true := by
  cases x <;> simp only [AV.scal] at hx <;> try (cases hx; done)
  all_goals simp only [VR] at h
  case iptr => obtain ⟨a, rfl, _⟩ := h; rfl
  case str => obtain ⟨rfl, _⟩ := h; rfl
  case sl => obtain ⟨a, c, rfl, _⟩ := h; rfl
  case ms => obtain ⟨c, rfl, _⟩ := h; rfl
  case fn => obtain ⟨c, rfl, _⟩ := h; rfl
  all_goals (subst h; rfl)

theorem VRs_one {w : World} {O : Nat → Prop} : ∀ {xs : List AV} {vs : List Value}, VRs w O xs vs → xs.all AV.scal = true → ∀ v ∈ vs, v.oneCell' = true
  | [], vs, h, _, v, hv => by simp only [VRs] at h; subst h; cases hv
  | x :: xs, vs, h, ha, v, hv => by
    simp only [VRs] at h
    obtain ⟨u, us, rfl, h2, h3⟩ := h
    simp only [List.all_cons, Bool.and_eq_true] at ha
    rcases List.mem_cons.1 hv with rfl | hv
    · exact VR_one h2 ha.1
    · exact VRs_one h3 ha.2 v hv

theorem shape_setRow {w : World} {g : Nat} {old cs : Array Value} {t : TypeId} {fr : Nat × Nat} (hg : w.heap[g]? = some (.cells old t fr)) (hs : cs.size = old.size) (b : Nat) : (w.setRow g cs).shape? b = w.shape? b := by
  unfold World.shape?
  by_cases hb : b = g
  · subst hb
    rw [setRow_heap w b old cs t fr hg, hg]
    simp [hs]
  · rw [setRow_other w g b cs hb]

theorem size_setRow (w : World) (g : Nat) (cs : Array Value) : (w.setRow g cs).heap.size = w.heap.size := by
  simp [World.setRow]

/-- the world with another content of an owned block -/
theorem Stab.setRow {w : World} {O : Nat → Prop} {g : Nat} {old cs : Array Value} {t : TypeId} {fr : Nat × Nat} (hO : O g) (hg : w.heap[g]? = some (.cells old t fr)) (hs : cs.size = old.size) : Stab w O (w.setRow g cs) O := by
  refine ⟨fun b hb _ => ⟨hb, setRow_other w g b cs ?_⟩, by rw [size_setRow]; exact Nat.le_refl _, fun b e c h => by rw [shape_setRow hg hs]; exact h⟩
  rintro rfl; exact hb hO

theorem Tr.setRow {G0 G G' : Hp} {w0 w : World} (h : Tr G0 w0 G w) {g : Nat} {old cs : Array Value} {t : TypeId} {fr : Nat × Nat} (hg : w.heap[g]? = some (.cells old t fr)) (hs : cs.size = old.size)
    (hne : g < w0.heap.size → G0 g ≠ none) (hG : ∀ b, G b = none → b < w0.heap.size → G0 b = none → G' b = none) : Tr G0 w0 G' (w.setRow g cs) := by
  refine ⟨h.os, h.tape, h.output, by rw [size_setRow]; exact h.size, fun b hb h0 => ?_, fun b e c hh => by rw [shape_setRow hg hs]; exact h.shape _ _ _ hh⟩
  have := h.blk b hb h0
  refine ⟨?_, hG b this.2 hb h0⟩
  rw [setRow_other w g b cs ?_]
  · exact this.1
  · rintro rfl; exact hne hb h0

theorem Rel.setG {E : En} {T : Tm} {G : Hp} {a : Act} {w : World} (R : Rel E T G a w) {b τ : Nat} {cs cs' : List AV} (hb : G b = some (τ, cs)) {old c' : Array Value} {ty : TypeId} {vs' rest' : List Value}
    (hg : w.heap[b]? = some (.cells old ty (0, 0))) (hs : c'.size = old.size) (hc : c'.toList = vs' ++ rest') (hv : VRs w (Own E.X G T a.tmps) cs' vs') (τ' : Nat) :
    Rel E T (setH G b (some (τ', cs'))) a (w.setRow b c') := by
  have hO : Own E.X G T a.tmps b := .inr (.inl (by rw [hb]; simp))
  have hdom : ∀ i, setH G b (some (τ', cs')) i ≠ none ↔ G i ≠ none := by
    intro i
    unfold setH
    split
    · rename_i h; subst h; simp [hb]
    · rfl
  have hOwn : Own E.X (setH G b (some (τ', cs'))) T a.tmps = Own E.X G T a.tmps := by
    funext i; unfold Own; rw [hdom]
  have S : Stab w (Own E.X G T a.tmps) (w.setRow b c') (Own E.X G T a.tmps) := Stab.setRow hO hg hs
  refine ⟨R.defers, R.size, R.xb, R.tr.setRow hg hs ?_ ?_, ?_, ?_, R.inj, ?_⟩
  · intro hlt h0
    have := (R.tr.blk b hlt h0).2
    rw [hb] at this; cases this
  · intro i hi _ _
    cases hq : setH G b (some (τ', cs')) i with
    | none => rfl
    | some o => exact absurd hi ((hdom i).1 (by rw [hq]; simp))
  · rw [hOwn]
    intro i τ1 cs1 hi
    by_cases h : i = b
    · subst h
      simp only [setH, if_true, Option.some.injEq, Prod.mk.injEq] at hi
      obtain ⟨rfl, rfl⟩ := hi
      obtain ⟨h1, h2, _⟩ := R.gr i τ cs hb
      exact ⟨h1, by rw [size_setRow]; exact h2, c', ty, vs', rest', setRow_heap w i old c' ty _ hg, hc, VRs_stab S _ _ hv⟩
    · simp only [setH, if_neg h] at hi
      obtain ⟨h1, h2, c, ty1, vs, rest, h3, h4, h5⟩ := R.gr i τ1 cs1 hi
      exact ⟨h1, by rw [size_setRow]; exact h2, c, ty1, vs, rest, by rw [setRow_other w b i c' h]; exact h3, h4, VRs_stab S _ _ h5⟩
  · rw [hOwn]
    intro t cs1 ht
    obtain ⟨i, h4, h5, h6, h7, c, ty1, h8, h9⟩ := R.bx t cs1 ht
    have hne : i ≠ b := by rintro rfl; rw [h7] at hb; cases hb
    refine ⟨i, h4, h5, by rw [size_setRow]; exact h6, ?_, c, ty1, by rw [setRow_other w b i c' hne]; exact h8, VRs_stab S _ _ h9⟩
    simp only [setH, if_neg hne]; exact h7
  · rw [hOwn]
    exact fun i => SlotR_stab S (R.slot i)

theorem Rel.setB {E : En} {T : Tm} {G : Hp} {a : Act} {w : World} (R : Rel E T G a w) {t : Nat} {cs cs' : List AV} (ht : get T t = .box cs) {b : Nat} (htm : a.tmps.getD t undef = .pointer (some ⟨b, 0, none⟩)) {old c' : Array Value} {ty : TypeId}
    (hg : w.heap[b]? = some (.cells old ty (0, 0))) (hs : c'.size = old.size) (hv : VRs w (Own E.X G T a.tmps) cs' c'.toList) :
    Rel E (upd T t (.box cs')) G a (w.setRow b c') := by
  have hO : Own E.X G T a.tmps b := .inr (.inr ⟨t, cs, ht, htm⟩)
  obtain ⟨b', hb1, hb2, hb3, hb4, _⟩ := R.bx t cs ht
  rw [htm] at hb1
  injection hb1 with hb1; injection hb1 with hb1; injection hb1 with hb1
  subst hb1
  have hget : ∀ i, (∃ c, get (upd T t (AV.box cs')) i = .box c) ↔ ∃ c, get T i = .box c := by
    intro i
    simp only [get, upd]
    split
    · rename_i h; subst h; simp [ht]
    · rfl
  have hOwn : Own E.X G (upd T t (.box cs')) a.tmps = Own E.X G T a.tmps := by
    funext i
    unfold Own Bx
    apply propext
    constructor
    · rintro (h | h | ⟨u, c, h1, h2⟩)
      · exact .inl h
      · exact .inr (.inl h)
      · obtain ⟨c', hc'⟩ := (hget u).1 ⟨c, h1⟩
        exact .inr (.inr ⟨u, c', hc', h2⟩)
    · rintro (h | h | ⟨u, c, h1, h2⟩)
      · exact .inl h
      · exact .inr (.inl h)
      · obtain ⟨c', hc'⟩ := (hget u).2 ⟨c, h1⟩
        exact .inr (.inr ⟨u, c', hc', h2⟩)
  have S : Stab w (Own E.X G T a.tmps) (w.setRow b c') (Own E.X G T a.tmps) := Stab.setRow hO hg hs
  refine ⟨R.defers, R.size, R.xb, R.tr.setRow hg hs (fun h => by omega) (fun _ h _ _ => h), ?_, ?_, ?_, ?_⟩
  · rw [hOwn]
    intro i τ1 cs1 hi
    obtain ⟨h1, h2, c, ty1, vs, rest, h3, h4, h5⟩ := R.gr i τ1 cs1 hi
    have hne : i ≠ b := by rintro rfl; rw [hb4] at hi; cases hi
    exact ⟨h1, by rw [size_setRow]; exact h2, c, ty1, vs, rest, by rw [setRow_other w b i c' hne]; exact h3, h4, VRs_stab S _ _ h5⟩
  · rw [hOwn]
    intro u cs1 hu
    by_cases h : u = t
    · subst h
      simp only [get, upd, if_true, AV.box.injEq] at hu
      subst hu
      exact ⟨b, htm, hb2, by rw [size_setRow]; exact hb3, hb4, c', ty, setRow_heap w b old c' ty _ hg, VRs_stab S _ _ hv⟩
    · simp only [get, upd, if_neg h] at hu
      obtain ⟨i, h4, h5, h6, h7, c, ty1, h8, h9⟩ := R.bx u cs1 hu
      have hne : i ≠ b := by
        rintro rfl
        exact R.inj u t cs1 cs h hu ht (h4.trans htm.symm)
      exact ⟨i, h4, h5, by rw [size_setRow]; exact h6, h7, c, ty1, by rw [setRow_other w b i c' hne]; exact h8, VRs_stab S _ _ h9⟩
  · intro u u' c1 c2 hne h h'
    obtain ⟨d1, hd1⟩ := (hget u).1 ⟨c1, h⟩
    obtain ⟨d2, hd2⟩ := (hget u').1 ⟨c2, h'⟩
    exact R.inj u u' d1 d2 hne hd1 hd2
  · rw [hOwn]
    intro i
    by_cases hi : i = t
    · subst hi
      have e : get (upd T i (.box cs')) i = .box cs' := by simp [get, upd]
      rw [e]; trivial
    · have e : get (upd T t (.box cs')) i = get T i := by simp [get, upd, hi]
      rw [e]
      have hsl := R.slot i
      generalize get T i = x at hsl ⊢
      cases x with
      | loc u off =>
        obtain ⟨b1, h1, h2⟩ := hsl
        refine ⟨b1, h1, fun c1 hc1 => ?_⟩
        obtain ⟨d1, hd1⟩ := (hget u).1 ⟨c1, hc1⟩
        exact h2 d1 hd1
      | box c1 => trivial
      | _ => exact VR_stab S _ _ hsl

def memSt (T : Tm) (G : Hp) (p : AV) (vs : List AV) : Option (Tm × Hp) :=
  match p with
  | .ptr b off => match G b with
    | some (τ, cs) => if off + vs.length ≤ cs.length then some (T, setH G b (some (τ, splice cs off vs))) else none
    | none => none
  | .loc t off => match get T t with
    | .box cs => if off + vs.length ≤ cs.length then some (upd T t (.box (splice cs off vs)), G) else none
    | _ => none
  | _ => none

theorem store_sound {P : Program} {E : En} {T : Tm} {G : Hp} {a : Act} {w : World} (R : Rel E T G a w) {p : AV} {cp : Value} (hp : SlotR w (Own E.X G T a.tmps) T a.tmps p cp) {t : TypeId} {x : AV} {cx : Value}
    (hx : VR w (Own E.X G T a.tmps) x cx) (hne : x ≠ .any) (hsc : x.cells.all AV.scal = true) (hok : (ti P t).ok = true) (hsz : (ti P t).size = x.cells.length) {T' : Tm} {G' : Hp} (h : memSt T G p x.cells = some (T', G')) :
    ∃ w', (Instr.storeAt t cp cx).run P w = .ok () w' ∧ Rel E T' G' a w' := by
  obtain ⟨i, d, h1, h2, hkd, heg, h3, h4, h5, h6, h7, hfl, h8⟩ := ti_ok hok
  have hcells := VR_cells hne hx
  have hone := VRs_one hcells hsc
  have hlen := VRs_length _ _ hcells
  rw [Array.length_toList] at hlen
  have run : ∀ (g off : Nat) (cur : Array Value) (ty : TypeId), w.heap[g]? = some (.cells cur ty (0, 0)) → off + cx.cells.toList.length ≤ cur.size →
      (storeVar t ⟨g, off, none⟩ cx).run P w = .ok () (w.setRow g (cur.toList.take off ++ cx.cells.toList ++ cur.toList.drop (off + cx.cells.toList.length)).toArray) := by
    intro g off cur ty hg hl
    have := run_storeCells_at (P := P) g off ty cx.cells.toList 0 cur w hg (by simpa using hl) hone
    simp only [Nat.add_zero] at this
    unfold storeVar
    simp only [Sem.run_bind, run_sizeOf' h1, Result.andThen_ok]
    rw [if_neg (by rw [← h3, hsz, hlen]; simp)]
    simpa using this
  cases p <;> simp only [memSt] at h <;> try (cases h; done)
  case ptr b off =>
    simp only [SlotR, VR] at hp
    subst hp
    cases hg : G b with
    | none => rw [hg] at h; cases h
    | some q =>
      obtain ⟨τ, cs⟩ := q
      rw [hg] at h
      simp only at h
      split at h
      · rename_i hle
        injection h with h; injection h with hT hG; subst hT; subst hG
        obtain ⟨g1, g2, c, ty, vs, rest, g3, g4, g5⟩ := R.gr b τ cs hg
        have hvl := VRs_length _ _ g5
        have hcl : c.size = vs.length + rest.length := by
          have := congrArg List.length g4
          simpa using this
        have e0 : (Instr.storeAt t (.pointer (some ⟨b, off, none⟩)) cx).run P w = (storeVar t ⟨b, off, none⟩ cx).run P w := by simp [Instr.storeAt, Instr.sureAddr]
        refine ⟨_, e0.trans (run b off c ty g3 (by rw [Array.length_toList]; omega)), ?_⟩
        refine R.setG hg (vs' := vs.take off ++ cx.cells.toList ++ vs.drop (off + cx.cells.toList.length)) (rest' := rest) g3 ?_ ?_ ?_ τ
        · simp; omega
        · rw [g4]
          have e1 : (vs ++ rest).take off = vs.take off := by rw [List.take_append_of_le_length (by omega)]
          have e2 : (vs ++ rest).drop (off + cx.cells.toList.length) = vs.drop (off + cx.cells.toList.length) ++ rest := by rw [List.drop_append_of_le_length (by rw [Array.length_toList]; omega)]
          rw [e1, e2]; simp
        · unfold splice
          rw [← hlen, ← Array.length_toList]
          exact VRs_append (VRs_append (VRs_take off g5) hcells) (VRs_drop _ g5)
      · cases h
  case loc u off =>
    cases hg : get T u <;> rw [hg] at h <;> try (cases h; done)
    rename_i cs
    simp only at h
    split at h
    · rename_i hle
      injection h with h; injection h with hT hG; subst hT; subst hG
      obtain ⟨b, hcp, htm⟩ := hp
      subst hcp
      have htm := htm cs hg
      obtain ⟨b', hb1, hb2, hb3, hb4, c, ty, hb5, hb6⟩ := R.bx u cs hg
      rw [htm] at hb1
      injection hb1 with hb1; injection hb1 with hb1; injection hb1 with hb1
      subst hb1
      have hcl := VRs_length _ _ hb6
      rw [Array.length_toList] at hcl
      have e0 : (Instr.storeAt t (.pointer (some ⟨b, off, none⟩)) cx).run P w = (storeVar t ⟨b, off, none⟩ cx).run P w := by simp [Instr.storeAt, Instr.sureAddr]
      refine ⟨_, e0.trans (run b off c ty hb5 (by rw [Array.length_toList]; omega)), ?_⟩
      refine R.setB hg htm hb5 ?_ ?_
      · simp; omega
      · unfold splice
        rw [← hlen, ← Array.length_toList]
        have := VRs_append (VRs_append (VRs_take off hb6) hcells) (VRs_drop (off + cx.cells.toList.length) hb6)
        simpa using this
    · cases h

end Go.Al

set_option linter.unusedVariables false
set_option linter.unusedSimpArgs false
namespace Go.Al
open Go

def ibits (op : BinOp) (k : IntKind) (x y : Int) : Option Int :=
  let a := BitVec.ofInt k.bits x
  let b := BitVec.ofInt k.bits y
  match op with
  | .and => some (k.wrap ((a &&& b).toNat : Nat))
  | .or => some (k.wrap ((a ||| b).toNat : Nat))
  | .xor => some (k.wrap ((a ^^^ b).toNat : Nat))
  | .andNot => some (k.wrap ((a &&& ~~~b).toNat : Nat))
  | _ => none

def ibin (op : BinOp) (k : IntKind) (a : Int) (k' : IntKind) (b : Int) : Option AV :=
  match op with
  | .shl => if b < 0 then none else some (.int k (k.wrap (a * 2 ^ min b.toNat k.bits)))
  | .shr => if b < 0 then none else some (.int k (a.fdiv (2 ^ min b.toNat k.bits)))
  | .add => if k = k' then some (.int k (k.wrap (a + b))) else none
  | .sub => if k = k' then some (.int k (k.wrap (a - b))) else none
  | .mul => if k = k' then some (.int k (k.wrap (a * b))) else none
  | .quo => if k = k' then (if b = 0 then none else some (.int k (k.wrap (a.tdiv b)))) else none
  | .rem => if k = k' then (if b = 0 then none else some (.int k (a.tmod b))) else none
  | .eql => if k = k' then some (.bool (decide (a = b))) else none
  | .neq => if k = k' then some (.bool (!decide (a = b))) else none
  | .lss => if k = k' then some (.bool (decide (a < b))) else none
  | .leq => if k = k' then some (.bool (decide (a ≤ b))) else none
  | .gtr => if k = k' then some (.bool (decide (b < a))) else none
  | .geq => if k = k' then some (.bool (decide (b ≤ a))) else none
  | op => if k = k' then (ibits op k a b).map (AV.int k) else none

/-- a small value as the machine has it -/
def sv : AV → Value
  | .int k n => .int k n
  | .bool b => .bool b
  | .str s => .string s
  | _ => .pointer none

def AV.small : AV → Bool
  | .int _ _ | .bool _ => true
  | .str s => decide (s.size ≤ LIM)
  | _ => false

theorem sv_VR {w : World} {O : Nat → Prop} {v : AV} (h : v.small = true) : VR w O v (sv v) := by
  cases v <;> simp [AV.small] at h <;> simp only [VR, sv]
  exact ⟨trivial, h⟩

theorem ibin_sound {P : Program} {w : World} {op : BinOp} {t : TypeId} {k k' : IntKind} {a b : Int} {v : AV} (h : ibin op k a k' b = some v) :
    (binOp op t (.int k a) (.int k' b)).run P w = .ok (sv v) w ∧ v.small = true := by
  cases op <;> simp only [ibin] at h
  case shl | shr =>
    split at h
    · cases h
    · rename_i hb
      injection h with h; subst h
      exact ⟨by simp [binOp, Op.shift, hb, sv], rfl⟩
  case quo | rem =>
    split at h
    · rename_i hk; subst hk
      split at h
      · cases h
      · rename_i hb
        injection h with h; subst h
        exact ⟨by simp [binOp, Op.intDiv, hb, sv], rfl⟩
    · cases h
  case and | or | xor | andNot =>
    split at h
    · rename_i hk; subst hk
      simp only [ibits, Option.map_some, Option.some.injEq] at h; subst h
      refine ⟨?_, rfl⟩
      simp only [binOp, ne_eq, not_true_eq_false, if_false, Op.intBits]; rfl
    · cases h
  all_goals
    split at h
    · rename_i hk; subst hk
      injection h with h; subst h
      exact ⟨by simp [binOp, Op.intArith, Op.intCmp, sv, bne, BEq.beq], rfl⟩
    · cases h

def sbin (op : BinOp) (x y : ByteArray) : Option AV :=
  match op with
  | .add => if x.size + y.size ≤ LIM then some (.str (x ++ y)) else none
  | .eql => some (.bool (x.toList == y.toList))
  | .neq => some (.bool (!(x.toList == y.toList)))
  | .lss => some (.bool (Op.bytesLess x.toList y.toList))
  | .leq => some (.bool (Op.bytesLess x.toList y.toList || x.toList == y.toList))
  | .gtr => some (.bool !(Op.bytesLess x.toList y.toList || x.toList == y.toList))
  | .geq => some (.bool !(Op.bytesLess x.toList y.toList))
  | _ => none

theorem sbin_sound {P : Program} {w : World} {op : BinOp} {t : TypeId} {x y : ByteArray} {v : AV} (h : sbin op x y = some v) :
    (binOp op t (.string x) (.string y)).run P w = .ok (sv v) w ∧ v.small = true := by
  cases op <;> simp only [sbin] at h <;> try (cases h; done)
  case add =>
    split at h
    · rename_i hl
      injection h with h; subst h
      refine ⟨?_, by simpa [AV.small, ByteArray.size_append] using hl⟩
      have : ¬ ((x.size + y.size : Nat) : Int) > IntKind.i64.max := by
        have : IntKind.i64.max = 9223372036854775807 := by decide
        rw [this]; unfold LIM at hl; omega
      simp only [binOp, Op.stringOp, Sem.run_ite, if_neg this, Sem.run_pure, sv]
    · cases h
  all_goals
    injection h with h; subst h
    exact ⟨by simp [binOp, Op.stringOp, sv], rfl⟩

def partA (i : TI) (cs : List AV) (off : Nat) : Option AV :=
  if i.ok then (if i.agg then some (.agg ((cs.drop off).take i.size)) else cs[off]?) else none

def eqF (P : Program) (e : TypeId → AV → AV → Option Bool) (xs ys : List AV) : List Field → Option Bool
  | [] => some true
  | f :: fs =>
    if f.name = "_" then eqF P e xs ys fs else
    match partA (ti P f.type) xs f.offset, partA (ti P f.type) ys f.offset with
    | some u, some v => match e f.type u v, eqF P e xs ys fs with
      | some b, some c => some (b && c)
      | _, _ => none
    | _, _ => none

def eqA (P : Program) : Nat → TypeId → AV → AV → Option Bool
  | 0, _, _, _ => none
  | d + 1, t, x, y =>
    match P.underlying t, x, y with
    | some .bool, .bool a, .bool b => some (a == b)
    | some (.int _), .int k a, .int k' b => if k = k' then some (decide (a = b)) else none
    | some .string, .str a, .str b => some (a.toList == b.toList)
    | some (.struct fs), .agg xs, .agg ys => if P.stoodInHeld t then none else eqF P (eqA P d) xs ys fs.toList
    | _, _, _ => none

theorem VRs_extract {w : World} {O : Nat → Prop} {xs : List AV} {a : Array Value} (off n : Nat) (h : VRs w O xs a.toList) : VRs w O ((xs.drop off).take n) (a.extract off (off + n)).toList := by
  have := VRs_take n (VRs_drop off h)
  have e : (a.extract off (off + n)).toList = (a.toList.drop off).take n := by
    rw [Array.toList_extract, List.extract_eq_take_drop]
    congr 1; omega
  rwa [e]

theorem part_sound {P : Program} {w : World} {O : Nat → Prop} {t : TypeId} {xs : List AV} {a : Array Value} {off : Nat} {v : AV} (h : partA (ti P t) xs off = some v) (hx : VRs w O xs a.toList) :
    ∃ cv, (part t a off).run P w = .ok cv w ∧ VR w O v cv := by
  unfold partA at h
  split at h
  · rename_i hok
    obtain ⟨i, d, h1, h2, hkd, heg, h3, h4, h5, h6, h7, hfl, h8⟩ := ti_ok hok
    rw [h5, h3] at h
    cases hd : isAggD d with
    | true =>
      rw [hd] at h
      simp only [if_true, Option.some.injEq] at h
      subst h
      refine ⟨.agg (a.extract off (off + i.size)), by simp [part, run_isAgg' h2, hd, run_sizeOf' h1], ?_⟩
      simp only [VR]
      exact ⟨_, rfl, VRs_extract off i.size hx⟩
    | false =>
      rw [hd] at h
      simp only [Bool.false_eq_true, if_false] at h
      obtain ⟨u, hu, hr⟩ := VRs_get off v hx h
      refine ⟨u, ?_, hr⟩
      have hu' : a[off]? = some u := by simpa using hu
      simp [part, run_isAgg' h2, hd, hu']
  · cases h

theorem eqA_sound {P : Program} {w : World} {O : Nat → Prop} : ∀ (d : Nat) (t : TypeId) (x y : AV) (cx cy : Value) (b : Bool), eqA P d t x y = some b → VR w O x cx → VR w O y cy → (Op.equalIn d t cx cy).run P w = .ok b w := by
  intro d
  induction d with
  | zero => intro t x y cx cy b h; simp [eqA] at h
  | succ d ih =>
    intro t x y cx cy b h hx hy
    simp only [eqA] at h
    split at h
    · rename_i hu
      injection h with h; subst h
      simp only [VR] at hx hy; subst hx; subst hy
      simp [Op.equalIn, run_underlying hu]
    · rename_i hu
      split at h
      · rename_i hk
        injection h with h; subst h; subst hk
        simp only [VR] at hx hy; subst hx; subst hy
        simp [Op.equalIn, run_underlying hu, BEq.beq]
      · cases h
    · rename_i hu
      injection h with h; subst h
      simp only [VR] at hx hy; obtain ⟨rfl, _⟩ := hx; obtain ⟨rfl, _⟩ := hy
      simp [Op.equalIn, run_underlying hu, beq_toListBytes]
    · rename_i fs xs ys hu
      split at h
      · cases h
      · rename_i hp
        simp only [VR] at hx hy
        obtain ⟨ax, rfl, hx⟩ := hx
        obtain ⟨ay, rfl, hy⟩ := hy
        have hf : P.fieldsOf t = fs := by simp [Program.fieldsOf, hu]
        rw [run_equalIn_struct w d t ax ay (by rw [hf]; exact hu) (by simpa using hp), hf]
        clear hu hf hp
        generalize fs.toList = l at h
        induction l generalizing b with
        | nil => simp only [eqF, Option.some.injEq] at h; subst h; simp [Op.eqFields]
        | cons f l ihl =>
          simp only [eqF] at h
          simp only [Op.eqFields]
          by_cases hn : f.name = "_"
          · rw [if_pos hn] at h
            simp only [hn, ne_eq, not_true_eq_false, if_false]
            exact ihl b h
          · rw [if_neg hn] at h
            simp only [ne_eq, hn, not_false_eq_true, if_true]
            cases hu : partA (ti P f.type) xs f.offset with
            | none => rw [hu] at h; cases h
            | some u =>
              cases hv : partA (ti P f.type) ys f.offset with
              | none => rw [hu, hv] at h; cases h
              | some v =>
                rw [hu, hv] at h
                simp only at h
                cases he : eqA P d f.type u v with
                | none => rw [he] at h; cases h
                | some b1 =>
                  cases hr : eqF P (eqA P d) xs ys l with
                  | none => rw [he, hr] at h; cases h
                  | some b2 =>
                    rw [he, hr] at h
                    simp only [Option.some.injEq] at h
                    subst h
                    obtain ⟨cu, hcu, hcu'⟩ := part_sound hu hx
                    obtain ⟨cv, hcv, hcv'⟩ := part_sound hv hy
                    have hrun := ih f.type u v cu cv b1 he hcu' hcv'
                    simp only [Sem.run_bind, hcu, Result.andThen_ok, hcv, hrun]
                    cases b1
                    · simp
                    · simpa using ihl b2 hr
    · cases h

end Go.Al

set_option linter.unusedVariables false
set_option linter.unusedSimpArgs false
namespace Go.Al
open Go

def isPtr : AV → Bool
  | .ptr _ _ | .iptr _ => true
  | _ => false

def isSlc : AV → Bool
  | .sl _ _ | .ms _ _ _ _ => true
  | _ => false

/-- == on what is no whole number and no string -/
def eqv (P : Program) (t : TypeId) (x y : AV) : Option Bool :=
  if (ti P t).ok then
    match (ti P t).kd with
    | .bool => match x, y with
      | .bool a, .bool b => some (a == b)
      | _, _ => none
    | .ptr _ => match x, y with
      | .nil, .nil => some true
      | .nil, y => if isPtr y then some false else none
      | x, .nil => if isPtr x then some false else none
      | _, _ => none
    | .slc _ => match x, y with
      | .nils, .nils => some true
      | .nils, y => if isSlc y then some false else none
      | x, .nils => if isSlc x then some false else none
      | _, _ => none
    | .struct => if (ti P t).eqg then none else match x, y with
      | .agg xs, .agg ys => eqA P 10000 t (.agg xs) (.agg ys)
      | _, _ => none
    | _ => none
  else none

theorem isPtr_VR {w : World} {O : Nat → Prop} {x : AV} {v : Value} (h : isPtr x = true) (hx : VR w O x v) : ∃ a, v = .pointer (some a) := by
  cases x <;> simp [isPtr] at h <;> simp only [VR] at hx
  · exact ⟨_, hx⟩
  · obtain ⟨a, rfl, _⟩ := hx; exact ⟨a, rfl⟩

theorem isSlc_VR {w : World} {O : Nat → Prop} {x : AV} {v : Value} (h : isSlc x = true) (hx : VR w O x v) : ∃ a n c, v = .slice (some a) n c := by
  cases x <;> simp [isSlc] at h <;> simp only [VR] at hx
  · obtain ⟨a, c, rfl, _⟩ := hx; exact ⟨_, _, _, rfl⟩
  · obtain ⟨c, rfl, _⟩ := hx; exact ⟨_, _, _, rfl⟩

theorem kdD_bool {d : TypeDesc} (h : kdD d = .bool) : d = .bool := by cases d <;> first | rfl | (cases h)
theorem kdD_str {d : TypeDesc} (h : kdD d = .str) : d = .string := by cases d <;> first | rfl | (cases h)
theorem kdD_int {d : TypeDesc} {k : IntKind} (h : kdD d = .int k) : d = .int k := by cases d <;> first | (injection h with h; subst h; rfl) | (cases h)
theorem kdD_slc {d : TypeDesc} {e : Nat} (h : kdD d = .slc e) : d = .slice e := by cases d <;> first | (injection h with h; subst h; rfl) | (cases h)
theorem kdD_arr {d : TypeDesc} {n e : Nat} (h : kdD d = .arr n e) : d = .array n e := by cases d <;> first | (injection h with h1 h2; subst h1; subst h2; rfl) | (cases h)
theorem kdD_ptr {d : TypeDesc} {e : Nat} (h : kdD d = .ptr e) : d = .pointer e := by cases d <;> first | (injection h with h; subst h; rfl) | (cases h)

def EqOk (P : Program) (w : World) (t : TypeId) (cx cy : Value) (b : Bool) : Prop :=
  (∀ ox oy : Operand, (eqGuard .eql t ox oy cx cy).run P w = .ok () w ∧ (eqGuard .neq t ox oy cx cy).run P w = .ok () w) ∧
    (binOp .eql t cx cy).run P w = .ok (.bool b) w ∧ (binOp .neq t cx cy).run P w = .ok (.bool (!b)) w

theorem eq_bools {P : Program} {w : World} {t : TypeId} (ht : P.underlying t = some .bool) (a b : Bool) : EqOk P w t (.bool a) (.bool b) (a == b) := by
  have h : (Op.equal t (.bool a) (.bool b)).run P w = .ok (a == b) w := run_equalIn_bool' w 9999 t a b ht
  refine ⟨fun _ _ => ⟨rfl, rfl⟩, ?_, ?_⟩
  · show (do pure (.bool (← Op.equal t (.bool a) (.bool b))) : Sem Value).run P w = _
    rw [Sem.run_bind, h]; rfl
  · show (do pure (.bool (!(← Op.equal t (.bool a) (.bool b)))) : Sem Value).run P w = _
    rw [Sem.run_bind, h]; rfl

theorem eq_ptrs {P : Program} {w : World} {t : TypeId} {e : Nat} (ht : P.underlying t = some (.pointer e)) (x y : Option Addr) (b : Bool) (hb : ∀ d, (Op.equalIn (d + 1) t (.pointer x) (.pointer y)).run P w = .ok b w) : EqOk P w t (.pointer x) (.pointer y) b := by
  have h : (Op.equal t (.pointer x) (.pointer y)).run P w = .ok b w := hb 9999
  refine ⟨fun _ _ => ⟨rfl, rfl⟩, ?_, ?_⟩
  · show (do pure (.bool (← Op.equal t (.pointer x) (.pointer y))) : Sem Value).run P w = _
    rw [Sem.run_bind, h]; rfl
  · show (do pure (.bool (!(← Op.equal t (.pointer x) (.pointer y)))) : Sem Value).run P w = _
    rw [Sem.run_bind, h]; rfl

theorem eq_slcs {P : Program} {w : World} {t : TypeId} {e : Nat} (ht : P.underlying t = some (.slice e)) (x y : Option Addr) (n c m k : Nat) (b : Bool) (hb : ∀ d, (Op.equalIn (d + 1) t (.slice x n c) (.slice y m k)).run P w = .ok b w) : EqOk P w t (.slice x n c) (.slice y m k) b := by
  have h : (Op.equal t (.slice x n c) (.slice y m k)).run P w = .ok b w := hb 9999
  refine ⟨fun _ _ => ⟨rfl, rfl⟩, ?_, ?_⟩
  · show (do pure (.bool (← Op.equal t (.slice x n c) (.slice y m k))) : Sem Value).run P w = _
    rw [Sem.run_bind, h]; rfl
  · show (do pure (.bool (!(← Op.equal t (.slice x n c) (.slice y m k)))) : Sem Value).run P w = _
    rw [Sem.run_bind, h]; rfl

theorem eqv_sound {P : Program} {w : World} {O : Nat → Prop} {t : TypeId} {x y : AV} {cx cy : Value} {b : Bool} (h : eqv P t x y = some b) (hx : VR w O x cx) (hy : VR w O y cy) : EqOk P w t cx cy b := by
  unfold eqv at h
  split at h
  · rename_i hok
    obtain ⟨i, d, h1, h2, hkd, heg, h3, h4, h5, h6, h7, hfl, h8⟩ := ti_ok hok
    rw [hkd] at h
    split at h
    · -- bool
      rename_i hk
      have hd := kdD_bool hk
      subst hd
      split at h
      · injection h with h; subst h
        simp only [VR] at hx hy; subst hx; subst hy
        exact eq_bools h2 _ _
      · cases h
    · -- pointers
      rename_i e hk
      have hd := kdD_ptr hk
      subst hd
      split at h
      · injection h with h; subst h
        simp only [VR] at hx hy; subst hx; subst hy
        exact eq_ptrs h2 _ _ _ fun d => by simp [Op.equalIn, run_underlying h2]
      · split at h
        · rename_i hp
          injection h with h; subst h
          simp only [VR] at hx; subst hx
          obtain ⟨ay, rfl⟩ := isPtr_VR hp hy
          exact eq_ptrs h2 _ _ _ fun d => by simp [Op.equalIn, run_underlying h2]
        · cases h
      · split at h
        · rename_i hp
          injection h with h; subst h
          simp only [VR] at hy; subst hy
          obtain ⟨ay, rfl⟩ := isPtr_VR hp hx
          exact eq_ptrs h2 _ _ _ fun d => by simp [Op.equalIn, run_underlying h2]
        · cases h
      · cases h
    · -- slices
      rename_i e hk
      have hd := kdD_slc hk
      subst hd
      split at h
      · injection h with h; subst h
        simp only [VR] at hx hy; subst hx; subst hy
        exact eq_slcs h2 _ _ _ _ _ _ _ fun d => by simp [Op.equalIn, run_underlying h2]
      · split at h
        · rename_i hp
          injection h with h; subst h
          simp only [VR] at hx; subst hx
          obtain ⟨ay, n, c, rfl⟩ := isSlc_VR hp hy
          exact eq_slcs h2 _ _ _ _ _ _ _ fun d => by simp [Op.equalIn, run_underlying h2]
        · cases h
      · split at h
        · rename_i hp
          injection h with h; subst h
          simp only [VR] at hy; subst hy
          obtain ⟨ay, n, c, rfl⟩ := isSlc_VR hp hx
          exact eq_slcs h2 _ _ _ _ _ _ _ fun d => by simp [Op.equalIn, run_underlying h2]
        · cases h
      · cases h
    · -- structs
      split at h
      · cases h
      · rename_i hg
        split at h
        · rename_i xs ys
          have hrun := eqA_sound 10000 t _ _ _ _ b h hx hy
          simp only [VR] at hx hy
          obtain ⟨ax, rfl, _⟩ := hx
          obtain ⟨ay, rfl, _⟩ := hy
          have hm : P.eqGuardType P.depth t = false := by rw [← heg]; simpa using hg
          refine ⟨fun ox oy => ⟨run_eqGuard_agg w _ _ _ _ _ _ hm, run_eqGuard_agg w _ _ _ _ _ _ hm⟩, ?_, ?_⟩
          · rw [run_eql_struct, hrun]; rfl
          · rw [run_neq_struct, hrun]; rfl
        · cases h
    · cases h
  · cases h

def bin (P : Program) (op : BinOp) (t : TypeId) (x y : AV) : Option AV :=
  match x, y with
  | .int k a, .int k' b => ibin op k a k' b
  | .str a, .str b => sbin op a b
  | x, y => match op with
    | .eql => (eqv P t x y).map AV.bool
    | .neq => (eqv P t x y).map fun b => AV.bool (!b)
    | _ => none

theorem bin_sound {P : Program} {w : World} {O : Nat → Prop} {op : BinOp} {t : TypeId} {x y : AV} {cx cy : Value} {v : AV} (h : bin P op t x y = some v) (hx : VR w O x cx) (hy : VR w O y cy) (ox oy : Operand) :
    (do eqGuard op t ox oy cx cy; binOp op t cx cy : Sem Value).run P w = .ok (sv v) w ∧ v.small = true := by
  unfold bin at h
  split at h
  · simp only [VR] at hx hy; subst hx; subst hy
    obtain ⟨h1, h2⟩ := ibin_sound (P := P) (w := w) (t := t) h
    refine ⟨?_, h2⟩
    rw [Sem.run_bind, show (eqGuard op t ox oy _ _).run P w = .ok () w from by cases op <;> simp [eqGuard], Result.andThen_ok, h1]
  · simp only [VR] at hx hy; obtain ⟨rfl, _⟩ := hx; obtain ⟨rfl, _⟩ := hy
    obtain ⟨h1, h2⟩ := sbin_sound (P := P) (w := w) (t := t) h
    refine ⟨?_, h2⟩
    rw [Sem.run_bind, show (eqGuard op t ox oy _ _).run P w = .ok () w from by cases op <;> simp [eqGuard], Result.andThen_ok, h1]
  · split at h
    · cases he : eqv P t x y with
      | none => rw [he] at h; cases h
      | some b =>
        rw [he] at h; injection h with h; subst h
        obtain ⟨h1, h2, h3⟩ := eqv_sound he hx hy
        exact ⟨by rw [Sem.run_bind, (h1 ox oy).1, Result.andThen_ok, h2]; rfl, rfl⟩
    · cases he : eqv P t x y with
      | none => rw [he] at h; cases h
      | some b =>
        rw [he] at h; injection h with h; subst h
        obtain ⟨h1, h2, h3⟩ := eqv_sound he hx hy
        exact ⟨by rw [Sem.run_bind, (h1 ox oy).2, Result.andThen_ok, h3]; rfl, rfl⟩
    · cases h

def un (op : UnOp) (x : AV) : Option AV :=
  match op, x with
  | .not, .bool b => some (.bool (!b))
  | .neg, .int k n => some (.int k (k.wrap (0 - n)))
  | .xor, .int k n => (ibits .xor k (if k.signed then -1 else k.max) n).map (AV.int k)
  | _, _ => none

theorem un_sound {P : Program} {w : World} {O : Nat → Prop} {op : UnOp} {x v : AV} {cx : Value} (h : un op x = some v) (hx : VR w O x cx) : (Op.unary op cx).run P w = .ok (sv v) w ∧ v.small = true := by
  unfold un at h
  split at h
  · injection h with h; subst h; simp only [VR] at hx; subst hx; exact ⟨by simp [Op.unary, sv], rfl⟩
  · injection h with h; subst h; simp only [VR] at hx; subst hx; exact ⟨by simp [Op.unary, Op.intArith, sv], rfl⟩
  · simp only [ibits, Option.map_some, Option.some.injEq] at h; subst h; simp only [VR] at hx; subst hx
    refine ⟨?_, rfl⟩
    simp only [Op.unary, Op.intBits]; rfl
  · cases h

/-- the cells that a slice stands for: how many elements, which cells -/
def srcCells (G : Hp) (sz : Nat) : AV → Option (Nat × List AV)
  | .nils => some (0, [])
  | .sl n cs => if cs.length = n * sz then some (n, cs) else none
  | .ms b off n sz' => if sz' = sz then
      match G b with
      | some (_, cs) => if off + n * sz ≤ cs.length then some (n, (cs.drop off).take (n * sz)) else none
      | none => none
    else none
  | _ => none

theorem srcCells_sound {P : Program} {E : En} {T : Tm} {G : Hp} {a : Act} {w : World} (R : Rel E T G a w) {x : AV} {cx : Value} (hx : VR w (Own E.X G T a.tmps) x cx) {sz n : Nat} {cs : List AV} (h : srcCells G sz x = some (n, cs)) :
    ∃ (p : Option Addr) (cap : Nat) (vs : List Value), cx = .slice p n cap ∧ n ≤ LIM ∧ cs.length = n * sz ∧ VRs w (Own E.X G T a.tmps) cs vs ∧
      (∀ a0, p = some a0 → ∀ i v, vs[i]? = some v → w.cell? (a0.add i) = some v) ∧ (p = none → n = 0) := by
  cases x <;> simp only [srcCells] at h <;> try (cases h; done)
  case nils =>
    injection h with h; injection h with h1 h2; subst h1; subst h2
    simp only [VR] at hx; subst hx
    exact ⟨none, 0, [], rfl, by simp [LIM], by simp, by simp [VRs], by simp, fun _ => rfl⟩
  case sl n' cs' =>
    split at h
    · rename_i hl
      injection h with h; injection h with h1 h2; subst h1; subst h2
      simp only [VR] at hx
      obtain ⟨a0, cap, rfl, h3, h4, h5⟩ := hx
      obtain ⟨vs, h6, h7⟩ := MR_list h5
      refine ⟨some a0, cap, vs, rfl, h4, hl, h6, ?_, fun h => by cases h⟩
      intro a1 ha; injection ha with ha; subst ha
      simpa using h7
    · cases h
  case ms b off n' sz' =>
    split at h
    · rename_i hz; subst hz
      cases hg : G b with
      | none => rw [hg] at h; cases h
      | some q =>
        obtain ⟨τ, cs'⟩ := q
        rw [hg] at h
        simp only at h
        split at h
        · rename_i hle
          injection h with h; injection h with h1 h2; subst h1; subst h2
          simp only [VR] at hx
          obtain ⟨cap, rfl, h3, h4, _⟩ := hx
          obtain ⟨g1, g2, c, ty, vs, rest, g3, g4, g5⟩ := R.gr b τ cs' hg
          refine ⟨some ⟨b, off, none⟩, cap, (vs.drop off).take (n' * sz'), rfl, h4, ?_, VRs_take _ (VRs_drop off g5), ?_, fun h => by cases h⟩
          · simp; omega
          · intro a1 ha; injection ha with ha; subst ha
            intro i v hv
            rw [add_none]
            have hlt : i < n' * sz' := by
              have := (List.getElem?_eq_some_iff.1 hv).1
              simp at this; omega
            rw [List.getElem?_take_of_lt hlt, List.getElem?_drop] at hv
            have hlt2 : off + i < vs.length := (List.getElem?_eq_some_iff.1 hv).1
            have : c.toList[off + i]? = some v := by rw [g4, List.getElem?_append_left hlt2]; exact hv
            simp only [World.cell?, g3]
            simpa using this
        · cases h
    · cases h

def intsOf : List AV → Option (List Int)
  | [] => some []
  | .int .u8 n :: r => (intsOf r).map (n :: ·)
  | _ :: _ => none

theorem intsOf_map (xs : List Int) : intsOf (xs.map (AV.int .u8)) = some xs := by
  induction xs with
  | nil => rfl
  | cons x xs ih => simp [intsOf, ih]

theorem intsOf_sound {w : World} {O : Nat → Prop} : ∀ {cs : List AV} {xs : List Int} {vs : List Value}, intsOf cs = some xs → VRs w O cs vs → vs = xs.map (Value.int .u8)
  | [], xs, vs, h, hv => by simp only [intsOf, Option.some.injEq] at h; subst h; simpa [VRs] using hv
  | x :: cs, xs, vs, h, hv => by
    unfold intsOf at h
    split at h
    · rename_i heq; cases heq
    · rename_i n r heq
      injection heq with h1 h2; subst h1; subst h2
      cases hr : intsOf cs with
      | none => rw [hr] at h; cases h
      | some ys =>
        rw [hr] at h; injection h with h; subst h
        simp only [VRs, VR] at hv
        obtain ⟨v, vs', rfl, rfl, h4⟩ := hv
        rw [intsOf_sound hr h4]; rfl
    · cases h

def conv (P : Program) (G : Hp) (src dst : TypeId) (x : AV) : Option AV :=
  if (ti P src).ok && (ti P dst).ok then
    match (ti P dst).kd, x with
    | .int k, .int _ n => some (.int k (k.wrap n))
    | .str, .str s => some (.str s)
    | .str, .int _ _ => none
    | .str, x => match (ti P src).kd with
      | .slc e => if (ti P e).ok && (ti P e).kd = .int .u8 then
          match srcCells G 1 x with
          | some (_, cs) => (intsOf cs).map fun xs => .str (strOfNums xs)
          | none => none
        else none
      | _ => none
    | _, _ => none
  else none

theorem conv_sound {P : Program} {E : En} {T : Tm} {G : Hp} {a : Act} {w : World} (R : Rel E T G a w) {src dst : TypeId} {x v : AV} {cx : Value} (hx : VR w (Own E.X G T a.tmps) x cx) (h : conv P G src dst x = some v) :
    (convert src dst cx).run P w = .ok (sv v) w ∧ v.small = true := by
  unfold conv at h
  split at h
  · rename_i hok
    simp only [Bool.and_eq_true] at hok
    obtain ⟨i, d, h1, h2, hkd, _⟩ := ti_ok hok.1
    obtain ⟨i', d', h1', h2', hkd', _⟩ := ti_ok hok.2
    rw [hkd'] at h
    split at h
    · rename_i k k0 n hk
      have hd := kdD_int hk
      subst hd
      injection h with h; subst h
      simp only [VR] at hx; subst hx
      refine ⟨?_, rfl⟩
      simp only [convert, Sem.run_bind, run_underlying h2, run_underlying h2', Result.andThen_ok]
      cases d <;> simp [Conv.intToInt, sv]
    · rename_i s hk
      have hd := kdD_str hk
      subst hd
      injection h with h; subst h
      simp only [VR] at hx; obtain ⟨rfl, hl⟩ := hx
      refine ⟨?_, by simpa [AV.small] using hl⟩
      simp only [convert, Sem.run_bind, run_underlying h2, run_underlying h2', Result.andThen_ok]
      cases d <;> simp [sv]
    · cases h
    · rename_i hk _ _
      have hd := kdD_str hk
      subst hd
      rw [hkd] at h
      split at h
      · rename_i e hke
        have hd := kdD_slc hke
        subst hd
        split at h
        · rename_i he
          simp only [Bool.and_eq_true, decide_eq_true_eq] at he
          obtain ⟨ie, de, e1, e2, ekd, _⟩ := ti_ok he.1
          have hde : de = .int .u8 := kdD_int (by have := he.2; rwa [ekd] at this)
          subst hde
          split at h
          · rename_i n cs hs
            obtain ⟨p, cap, vs, rfl, hn, hl, hvs, hc, hp0⟩ := srcCells_sound (P := P) R hx hs
            cases hi : intsOf cs with
            | none => rw [hi] at h; cases h
            | some xs =>
              rw [hi] at h; injection h with h; subst h
              have hvx := intsOf_sound hi hvs
              have hlen : xs.length = n := by
                have := VRs_length _ _ hvs
                rw [hvx] at this; simp at this; omega
              refine ⟨?_, by simp only [AV.small, strOfNums_size, decide_eq_true_eq]; omega⟩
              cases p with
              | none =>
                have h0 := hp0 rfl
                subst h0
                have : xs = [] := List.eq_nil_of_length_eq_zero hlen
                subst this
                rw [run_convert_bytes_nil w src e h2 e2 0 cap dst h2']
                rfl
              | some a0 =>
                have hld : (loadCells a0 n).run P w = .ok (xs.map (Value.int .u8)).toArray w := by
                  have := run_loadCells_list (P := P) (w := w) a0 (xs.map (Value.int .u8)) (fun j u hu => hc a0 rfl j u (by rw [hvx]; exact hu))
                  simpa [hlen] using this
                rw [run_convert_bytes_string w src dst e _ n cap h2 e2 h2', run_bytesToString w _ n cap xs hld, foldl_push_bytes]
                simp [strOfNums, ByteArray.empty, ByteArray.emptyWithCapacity, sv]
                try rfl
          · cases h
        · cases h
      · cases h
    · cases h
  · cases h

end Go.Al

set_option linter.unusedVariables false
set_option linter.unusedSimpArgs false
namespace Go.Al
open Go

def AV.known : AV → Bool
  | .loc _ _ | .box _ | .any => false
  | _ => true

theorem AV.known_plain {x : AV} (h : x.known = true) : x.plain = true := by cases x <;> first | rfl | (simp [AV.known] at h)
theorem AV.known_any {x : AV} (h : x.known = true) : x ≠ .any := by rintro rfl; simp [AV.known] at h

/-! ### building -/
def fillA (place : Nat → Option (Nat × Nat)) : List AV → List (Nat × AV) → Option (List AV)
  | cs, [] => some cs
  | cs, (i, v) :: r => match place i with
    | some (off, sz) => if v.known = true ∧ v.cells.length = sz ∧ off + sz ≤ cs.length then fillA place (splice cs off v.cells) r else none
    | none => none

theorem fold_set : ∀ (l : List Value) (k off : Nat) (cells : Array Value), off + k + l.length ≤ cells.size →
    ((l.zipIdx k).foldl (fun cs (x : Value × Nat) => cs.setIfInBounds (off + x.2) x.1) cells).toList = cells.toList.take (off + k) ++ l ++ cells.toList.drop (off + k + l.length)
  | [], k, off, cells, _ => by simp
  | v :: l, k, off, cells, h => by
    simp only [List.length_cons] at h
    simp only [List.zipIdx_cons, List.foldl_cons]
    rw [fold_set l (k + 1) off _ (by simp; omega)]
    simp only [Array.toList_setIfInBounds, List.length_cons]
    rw [show off + (k + 1) = (off + k) + 1 by omega]
    rw [List.take_succ_eq_append_getElem (by simp; omega)]
    rw [List.take_set_of_le (by omega), List.drop_set_of_lt (by omega)]
    simp only [List.getElem_set_self, List.append_assoc, List.cons_append, List.nil_append]
    rw [show off + k + (l.length + 1) = off + k + 1 + l.length by omega]

theorem fill_sound {w : World} {O : Nat → Prop} (place : Nat → Option (Nat × Nat)) : ∀ (ps : List (Nat × AV)) (qs : List (Nat × Value)) (cs ds : List AV) (cells : Array Value),
    fillA place cs ps = some ds → VRs w O cs cells.toList → ps.length = qs.length → (∀ (i : Nat) (p : Nat × AV) (q : Nat × Value), ps[i]? = some p → qs[i]? = some q → p.1 = q.1 ∧ VR w O p.2 q.2) →
    ∃ cells', Instr.fill place cells qs = some cells' ∧ VRs w O ds cells'.toList
  | [], [], cs, ds, cells, h, hc, _, _ => by
    simp only [fillA, Option.some.injEq] at h; subst h
    exact ⟨cells, rfl, hc⟩
  | [], _ :: _, _, _, _, _, _, hl, _ => by simp at hl
  | _ :: _, [], _, _, _, _, _, hl, _ => by simp at hl
  | (i, v) :: ps, (j, u) :: qs, cs, ds, cells, h, hc, hl, hr => by
    obtain ⟨h1, h2⟩ := hr 0 (i, v) (j, u) rfl rfl
    simp only at h1 h2; subst h1
    simp only [fillA] at h
    simp only [Instr.fill]
    cases hp : place i with
    | none => rw [hp] at h; cases h
    | some q =>
      obtain ⟨off, sz⟩ := q
      rw [hp] at h
      simp only at h ⊢
      split at h
      · rename_i hh
        obtain ⟨hk, hs, hle⟩ := hh
        have hvc := VR_cells (AV.known_any hk) h2
        have hlen := VRs_length _ _ hvc
        rw [Array.length_toList] at hlen
        have hcl := VRs_length _ _ hc
        rw [Array.length_toList] at hcl
        have hcond : (u.cells.size ≠ sz || off + u.cells.size > cells.size) = false := by
          simp; omega
        rw [if_neg (by simp only [hcond]; simp)]
        have hf : (u.cells.zipIdx.foldl (fun cs (x : Value × Nat) => cs.setIfInBounds (off + x.2) x.1) cells).toList = cells.toList.take off ++ u.cells.toList ++ cells.toList.drop (off + u.cells.size) := by
          have := fold_set u.cells.toList 0 off cells (by rw [Array.length_toList]; omega)
          simp only [Nat.add_zero, Array.length_toList] at this
          rw [← this, ← Array.foldl_toList]
          congr 2
          simp
        refine fill_sound place ps qs _ ds _ h ?_ (by simpa using hl) (fun n p q hp hq => hr (n + 1) p q (by simpa using hp) (by simpa using hq))
        have : (u.cells.zipIdx.foldl (fun cs (x : Value × Nat) => cs.setIfInBounds (off + x.2) x.1) cells).toList = _ := hf
        rw [this]
        unfold splice
        rw [← hlen]
        exact VRs_append (VRs_append (VRs_take off hc) hvc) (VRs_drop _ hc)
      · cases h

/-! ### bounds and slices -/
def bnd (x : Option AV) (d : Nat) : Option Nat :=
  match x with
  | none => some d
  | some (.int _ i) => if 0 ≤ i then some i.toNat else none
  | some _ => none

def slcA (i : TI) (x : AV) (lo hi : Option AV) : Option AV :=
  match x with
  | .str s => match bnd hi s.size, bnd lo 0 with
    | some h, some l => if l ≤ h ∧ h ≤ s.size then some (.str (s.extract l h)) else none
    | _, _ => none
  | .nils => match bnd hi 0, bnd lo 0 with
    | some h, some l => if l ≤ h ∧ h ≤ 0 then some .nils else none
    | _, _ => none
  | .sl n cs => match bnd hi n, bnd lo 0 with
    | some h, some l => if l ≤ h ∧ h ≤ n ∧ i.ok = true then some (.sl (h - l) ((cs.drop (l * i.size)).take ((h - l) * i.size))) else none
    | _, _ => none
  | .ms b off n sz => match bnd hi n, bnd lo 0 with
    | some h, some l => if l ≤ h ∧ h ≤ n ∧ i.ok = true ∧ sz = i.size then (if l = 0 then some (.ms b off h sz) else if l < h then some (.ms b (off + l * sz) (h - l) sz) else some (.sl 0 [])) else none
    | _, _ => none
  | _ => none

theorem bnd_hi {P : Program} {w : World} {O : Nat → Prop} {x : Option AV} {cx : Option Value} {d h n cap : Nat} (hx : match x, cx with | none, none => True | some x, some v => VR w O x v | _, _ => False) (hb : bnd x d = some h) (hle : h ≤ cap) (b : Bool) :
    ((match cx, (none : Option Value) with
      | some v, some _ => Instr.sliceBound v cap .slice3B
      | some v, none => Instr.sliceBound v cap (if b then .sliceAcap else .sliceAlen)
      | none, none => pure d
      | none, some _ => stuck "Slice: max without high" : Sem Nat)).run P w = .ok h w := by
  unfold bnd at hb
  cases x with
  | none =>
    cases cx with
    | none => injection hb with hb; subst hb; rfl
    | some v => exact hx.elim
  | some x =>
    cases cx with
    | none => exact hx.elim
    | some v =>
      cases x <;> simp only at hb <;> try (cases hb; done)
      split at hb
      · rename_i k i h0
        injection hb with hb; subst hb
        simp only [VR] at hx; subst hx
        have : 0 ≤ i ∧ i ≤ (cap : Int) := ⟨h0, by omega⟩
        simp [Instr.sliceBound, asIntOf, this]
      · cases hb

theorem bnd_lo {P : Program} {w : World} {O : Nat → Prop} {x : Option AV} {cx : Option Value} {l h : Nat} (hx : match x, cx with | none, none => True | some x, some v => VR w O x v | _, _ => False) (hb : bnd x 0 = some l) (hle : l ≤ h) :
    ((match cx with
      | some v => Instr.sliceBound v h .sliceB
      | none => pure 0 : Sem Nat)).run P w = .ok l w := by
  unfold bnd at hb
  cases x with
  | none =>
    cases cx with
    | none => injection hb with hb; subst hb; rfl
    | some v => exact hx.elim
  | some x =>
    cases cx with
    | none => exact hx.elim
    | some v =>
      cases x <;> simp only at hb <;> try (cases hb; done)
      split at hb
      · rename_i k i h0
        injection hb with hb; subst hb
        simp only [VR] at hx; subst hx
        have : 0 ≤ i ∧ i ≤ (h : Int) := ⟨h0, by omega⟩
        simp [Instr.sliceBound, asIntOf, this]
      · cases hb

theorem bounds_run {P : Program} {w : World} {O : Nat → Prop} {lo hi : Option AV} {clo chi : Option Value} {d cap l h : Nat} (b : Bool)
    (hlo : match lo, clo with | none, none => True | some x, some v => VR w O x v | _, _ => False) (hhi : match hi, chi with | none, none => True | some x, some v => VR w O x v | _, _ => False)
    (h1 : bnd hi d = some h) (h2 : bnd lo 0 = some l) (hl : l ≤ h) (hh : h ≤ cap) : (Instr.sliceBounds b d cap clo chi none).run P w = .ok (l, h, cap) w := by
  unfold Instr.sliceBounds
  simp only [Sem.run_bind, Sem.run_pure, Result.andThen_ok]
  have a := bnd_hi (P := P) (w := w) (O := O) (n := 0) (cap := cap) hhi h1 hh b
  have c := bnd_lo (P := P) (w := w) (O := O) (h := h) hlo h2 hl
  simp only [Option.isSome_none, Bool.false_eq_true, if_false]
  cases chi <;> cases clo <;> simp_all

theorem slcA_sound {P : Program} {w : World} {O : Nat → Prop} {t : TypeId} {e : Nat} {x v : AV} {cx : Value} {lo hi : Option AV} {clo chi : Option Value} (hok : (ti P t).ok = true) (hx : VR w O x cx)
    (hlo : match lo, clo with | none, none => True | some x, some v => VR w O x v | _, _ => False) (hhi : match hi, chi with | none, none => True | some x, some v => VR w O x v | _, _ => False)
    (ht : (ti P t).kd = .str ∨ ((ti P t).kd = .slc e ∧ (ti P e).ok = true)) (hstr : (ti P t).kd = .str → ∃ s, x = .str s) (hns : ∀ s, x = .str s → (ti P t).kd = .str)
    (h : slcA (ti P e) x lo hi = some v) : ∃ cv, (Instr.sliceAt t cx clo chi none).run P w = .ok cv w ∧ VR w O v cv := by
  obtain ⟨i, d, h1, h2, hkd, _⟩ := ti_ok hok
  have nonarr : ∀ n el, d ≠ .array n el := by
    rintro n el rfl
    rw [hkd] at ht
    rcases ht with ht | ⟨ht, _⟩ <;> cases ht
  have e0 : (Instr.sliceAt t cx clo chi none).run P w = (Instr.slice t cx clo chi none).run P w := by
    unfold Instr.sliceAt
    simp only [Sem.run_bind, run_underlying h2, Result.andThen_ok]
  rw [e0]
  unfold Instr.slice
  simp only [Sem.run_bind, run_underlying h2, Result.andThen_ok]
  cases x <;> simp only [slcA] at h <;> try (cases h; done)
  case str s =>
    have hd := kdD_str (hkd ▸ hns s rfl)
    subst hd
    simp only [VR] at hx; obtain ⟨rfl, hsz⟩ := hx
    split at h
    · rename_i hh l hb1 hb2
      split at h
      · rename_i hle
        injection h with h; subst h
        have := bounds_run (P := P) (w := w) (O := O) (cap := s.size) false hlo hhi hb1 hb2 hle.1 hle.2
        refine ⟨.string (s.extract l hh), by simp [this], ?_⟩
        simp only [VR]
        refine ⟨trivial, ?_⟩
        simp [ByteArray.size_extract]; omega
      · cases h
    · cases h
  case nils =>
    have hd : d = .slice e := by
      rcases ht with ht | ⟨ht, _⟩
      · obtain ⟨s, hs⟩ := hstr ht; cases hs
      · exact kdD_slc (hkd ▸ ht)
    have hoke : (ti P e).ok = true := by
      rcases ht with ht | ⟨_, ht⟩
      · obtain ⟨s, hs⟩ := hstr ht; cases hs
      · exact ht
    obtain ⟨ie, de, e1, e2, _⟩ := ti_ok hoke
    subst hd
    simp only [VR] at hx; subst hx
    split at h
    · rename_i hh l hb1 hb2
      split at h
      · rename_i hle
        injection h with h; subst h
        have hh0 : hh = 0 := by omega
        have hl0 : l = 0 := by omega
        subst hh0; subst hl0
        have := bounds_run (P := P) (w := w) (O := O) (cap := 0) true hlo hhi hb1 hb2 (Nat.le_refl _) (Nat.le_refl _)
        refine ⟨.slice none 0 0, by simp [this, run_sizeOf' e1], by simp only [VR]⟩
      · cases h
    · cases h
  case sl n cs =>
    have hd : d = .slice e := by
      rcases ht with ht | ⟨ht, _⟩
      · obtain ⟨s, hs⟩ := hstr ht; cases hs
      · exact kdD_slc (hkd ▸ ht)
    subst hd
    simp only [VR] at hx
    obtain ⟨a0, cap, rfl, hx2, hx3, hx4⟩ := hx
    split at h
    · rename_i hh l hb1 hb2
      split at h
      · rename_i hle
        injection h with h; subst h
        obtain ⟨ie, de, e1, e2, _, _, hsz, _⟩ := ti_ok hle.2.2
        have := bounds_run (P := P) (w := w) (O := O) (cap := cap) true hlo hhi hb1 hb2 hle.1 (Nat.le_trans hle.2.1 hx2)
        refine ⟨.slice (some (if cap = l then a0 else a0.add (l * ie.size))) (hh - l) (cap - l), ?_, ?_⟩
        · simp only [Sem.run_bind, this, Result.andThen_ok, run_sizeOf' e1, Sem.run_pure]
          split <;> simp
        · simp only [VR]
          refine ⟨_, _, rfl, by omega, by omega, ?_⟩
          split
          · rename_i hc
            have : hh - l = 0 := by omega
            rw [this]; simp [MR]
          · rw [hsz]
            exact MR_take _ (MR_shift (by simpa using MR_drop (l * ie.size) hx4))
      · cases h
    · cases h
  case ms b off n sz =>
    have hd : d = .slice e := by
      rcases ht with ht | ⟨ht, _⟩
      · obtain ⟨s, hs⟩ := hstr ht; cases hs
      · exact kdD_slc (hkd ▸ ht)
    subst hd
    simp only [VR] at hx
    obtain ⟨cap, rfl, hx2, hx3, e', c', hx4, hx5⟩ := hx
    split at h
    · rename_i hh l hb1 hb2
      split at h
      · rename_i hle
        obtain ⟨hle1, hle2, hle3, hle4⟩ := hle
        obtain ⟨ie, de, e1, e2, _, _, hsz, _⟩ := ti_ok hle3
        have hrun := bounds_run (P := P) (w := w) (O := O) (cap := cap) true hlo hhi hb1 hb2 hle1 (Nat.le_trans hle2 hx2)
        have hres : ∃ cv, (do
            let __discr ← Instr.sliceBounds true n cap clo chi none
            let size ← sizeOf e
            pure (Value.slice (if __discr.2.2 = __discr.1 then some ⟨b, off, none⟩ else (some (⟨b, off, none⟩ : Addr)).map (·.add (__discr.1 * size))) (__discr.2.1 - __discr.1) (__discr.2.2 - __discr.1)) : Sem Value).run P w = .ok cv w ∧
            cv = .slice (some (if cap = l then ⟨b, off, none⟩ else (⟨b, off, none⟩ : Addr).add (l * ie.size))) (hh - l) (cap - l) := by
          refine ⟨_, ?_, rfl⟩
          simp only [Sem.run_bind, hrun, Result.andThen_ok, run_sizeOf' e1, Sem.run_pure]
          split <;> simp
        obtain ⟨cv, hcv, rfl⟩ := hres
        refine ⟨_, hcv, ?_⟩
        rw [add_none]
        split at h
        · rename_i hl0; subst hl0
          injection h with h; subst h
          simp only [VR]
          refine ⟨cap, ?_, by omega, by omega, e', c', hx4, hx5⟩
          split <;> simp
        · rename_i hl0
          split at h
          · rename_i hlt
            injection h with h; subst h
            simp only [VR]
            refine ⟨cap - l, ?_, by omega, by omega, e', c', hx4, ?_⟩
            · rw [if_neg (by omega), hle4, hsz]
            · have : off + cap * sz = off + l * sz + (cap - l) * sz := by
                rw [Nat.add_assoc, ← Nat.add_mul]; congr 2; omega
              omega
          · injection h with h; subst h
            have : hh - l = 0 := by omega
            rw [this]
            simp only [VR]
            exact ⟨_, _, rfl, Nat.zero_le _, Nat.zero_le _, by simp [MR]⟩
      · cases h
    · cases h

end Go.Al

set_option linter.unusedVariables false
set_option linter.unusedSimpArgs false
namespace Go.Al
open Go

theorem VRs_drew {w : World} {O : Nat → Prop} {xs : List AV} {vs : List Value} (h : VRs w O xs vs) : VRs { w with drawn := w.drawn + 1 } O xs vs :=
  VRs_stab (w := w) (O := O) (w' := { w with drawn := w.drawn + 1 }) (O' := O) ⟨fun _ h _ => ⟨h, rfl⟩, Nat.le_refl _, fun _ _ _ h => h⟩ _ _ h

theorem Rel.drop {E : En} {T : Tm} {G G' : Hp} {a : Act} {w : World} (R : Rel E T G a w) (hs : sub G' G) : Rel E T G' a w := by
  have S : Stab w (Own E.X G T a.tmps) w (Own E.X G' T a.tmps) := Stab.sub fun b hb => by
    rcases hb with hb | hb | hb
    · exact .inl hb
    · right; left
      cases hq : G' b with
      | none => exact absurd hq hb
      | some o => rw [hs b o hq]; simp
    · exact .inr (.inr hb)
  have nn : ∀ b, G b = none → G' b = none := by
    intro b h
    cases hq : G' b with
    | none => rfl
    | some o => have := hs b o hq; rw [h] at this; cases this
  refine ⟨R.defers, R.size, R.xb, ⟨R.tr.os, R.tr.tape, R.tr.output, R.tr.size, fun b hb h0 => ⟨(R.tr.blk b hb h0).1, nn _ (R.tr.blk b hb h0).2⟩, R.tr.shape⟩, ?_, ?_, R.inj, fun i => SlotR_stab S (R.slot i)⟩
  · intro b τ cs h
    obtain ⟨h1, h2, c, ty, vs, rest, h3, h4, h5⟩ := R.gr b τ cs (hs _ _ h)
    exact ⟨h1, h2, c, ty, vs, rest, h3, h4, VRs_stab S _ _ h5⟩
  · intro t cs h
    obtain ⟨b, h4, h5, h6, h7, c, ty, h8, h9⟩ := R.bx t cs h
    exact ⟨b, h4, h5, h6, nn b h7, c, ty, h8, VRs_stab S _ _ h9⟩

theorem sub_setH_none (G : Hp) (b : Nat) : sub (setH G b none) G := by
  intro i o h
  unfold setH at h
  split at h
  · cases h
  · exact h

theorem setH_setH (G : Hp) (b : Nat) (x y : Option (Nat × List AV)) : setH (setH G b x) b y = setH G b y := by
  funext i; unfold setH; split <;> rfl

theorem setH_same (G : Hp) (b : Nat) (x : Option (Nat × List AV)) : setH G b x b = x := by simp [setH]
theorem setH_ne (G : Hp) {b i : Nat} (x : Option (Nat × List AV)) (h : i ≠ b) : setH G b x i = G i := by simp [setH, h]

theorem run_firstCells {P : Program} {w : World} {size n cap : Nat} {p : Option Addr} {vs : List Value} (hl : vs.length = n * size) (hc : ∀ a0, p = some a0 → ∀ i v, vs[i]? = some v → w.cell? (a0.add i) = some v) (hp : p = none → n = 0) :
    (Builtin.firstCells size n (.slice p n cap)).run P w = .ok vs.toArray w := by
  cases p with
  | none =>
    have h0 := hp rfl; subst h0
    have : vs = [] := List.eq_nil_of_length_eq_zero (by simpa using hl)
    subst this
    simp [Builtin.firstCells]
  | some a0 =>
    have := run_loadCells_list (P := P) (w := w) a0 vs (hc a0 rfl)
    rw [hl] at this
    simpa [Builtin.firstCells] using this

/-- append: where there is no room -/
theorem al_append_grow {P : Program} {w : World} {t u ty e : TypeId} {i : TypeInfo} {du : TypeDesc} {z : Value} (ht : P.underlying t = some (.slice e)) (hu : P.underlying u = some du) (hdu : ∀ k, du ≠ .int k) (hi : P.info? e = some i) (hz : i.zero = some z)
    (hzs : z.cells.size = i.size) {base p : Option Addr} {m sCap n cap : Nat} {old new : List Value}
    (hold : old.length = m * i.size) (hoc : ∀ a0, base = some a0 → ∀ j v, old[j]? = some v → w.cell? (a0.add j) = some v) (hop : base = none → m = 0)
    (hnew : new.length = n * i.size) (hnc : ∀ a0, p = some a0 → ∀ j v, new[j]? = some v → w.cell? (a0.add j) = some v) (hnp : p = none → n = 0)
    (hgt : sCap < m + n) (hlim : m + n ≤ LIM) (hby : (m + n) * i.bytes ≤ LIM) :
    ∃ (nc : Nat) (rest : List Value), m + n ≤ nc ∧ (old ++ new ++ rest).length = nc * i.size ∧
      (Builtin.append_ #[t, u] ty #[.slice base m sCap, .slice p n cap]).run P w = .ok (.slice (some ⟨w.heap.size, 0, none⟩) (m + n) nc) (w.drew.alloc (.cells (old ++ new ++ rest).toArray e)) := by
  have e1 := run_firstCells (P := P) (cap := sCap) hold (w := w.drew) (fun a0 h j v hv => by simpa using hoc a0 h j v hv) hop
  have e2 := run_firstCells (P := P) (cap := cap) hnew (w := w.drew) (fun a0 h j v hv => by simpa using hnc a0 h j v hv) hnp
  have h63 : ¬ ((m + n : Nat) : Int) > IntKind.i64.max := by
    have : IntKind.i64.max = 9223372036854775807 := by decide
    rw [this]; unfold LIM at hlim; omega
  have h48 : ¬ Builtin.nextslicecap (m + n) sCap * i.bytes > 2 ^ 48 := by
    have := growslice_fits (need := m + n) (old := sCap) (bytes := i.bytes) hgt (by unfold LIM at hby; exact hby)
    omega
  have hq : (match (du : TypeDesc) with | .int _ => true | _ => false) = false := by
    cases du <;> first | rfl | exact absurd rfl (hdu _)
  refine ⟨(Question.appendCap (m + n) sCap e).cut (w.tape w.drawn (.appendCap (m + n) sCap e)), (Builtin.zeroCells z.cells ((Question.appendCap (m + n) sCap e).cut (w.tape w.drawn (.appendCap (m + n) sCap e)) - (m + n))).toList, ?_, ?_, ?_⟩
  · simp [Question.cut]
  · have hge : m + n ≤ (Question.appendCap (m + n) sCap e).cut (w.tape w.drawn (.appendCap (m + n) sCap e)) := by simp [Question.cut]
    generalize (Question.appendCap (m + n) sCap e).cut (w.tape w.drawn (.appendCap (m + n) sCap e)) = nc at hge ⊢
    simp only [List.length_append, hold, hnew, Builtin.zeroCells, Array.length_toList, Array.size_map, Array.size_range, hzs]
    rw [← Nat.add_mul, ← Nat.add_mul]; congr 1; omega
  · unfold Builtin.append_
    simp only [List.getElem?_toArray, List.getElem?_cons_zero, List.getElem?_cons_succ, Sem.run_bind, run_underlying ht, run_underlying hu, Result.andThen_ok, run_sizeOf' hi, hq, Sem.run_pure, Bool.false_eq_true, if_false, Builtin.lenOf, Bool.not_false, if_true]
    have hn : ¬ (m + n ≤ sCap) := by omega
    have h63' : ¬ (9223372036854775807 < ((m : Int) + (n : Int))) := by unfold LIM at hlim; omega
    have h48' : ¬ (281474976710656 < Builtin.nextslicecap (m + n) sCap * i.bytes) := by omega
    simp [typeInfo, hi, zeroValue, hz, h63', h48', hn, Question.forced, e1, e2, newRow]
    congr 2
    apply Array.ext'
    simp [List.append_assoc]


/-- append: where there is room -/
theorem al_append_room {P : Program} {w : World} {t u ty e : TypeId} {i : TypeInfo} {du : TypeDesc} (ht : P.underlying t = some (.slice e)) (hu : P.underlying u = some du) (hdu : ∀ k, du ≠ .int k) (hi : P.info? e = some i)
    {b : Nat} {p : Option Addr} {m sCap n cap : Nat} {new : List Value} {cur : Array Value} {te : TypeId} (hg : w.heap[b]? = some (.cells cur te (0, 0)))
    (hnew : new.length = n * i.size) (hnc : ∀ a0, p = some a0 → ∀ j v, new[j]? = some v → w.cell? (a0.add j) = some v) (hnp : p = none → n = 0) (h1 : ∀ v ∈ new, v.oneCell' = true)
    (hle : m + n ≤ sCap) (hfit : m * i.size + new.length ≤ cur.size) :
    (Builtin.append_ #[t, u] ty #[.slice (some ⟨b, 0, none⟩) m sCap, .slice p n cap]).run P w =
      .ok (.slice (some ⟨b, 0, none⟩) (m + n) sCap) (w.setRow b (cur.toList.take (m * i.size) ++ new ++ cur.toList.drop (m * i.size + new.length)).toArray) := by
  have e2 := run_firstCells (P := P) (cap := cap) hnew (w := w) hnc hnp
  have hst := run_storeCells_at (P := P) b (m * i.size) te new 0 cur w hg (by simpa using hfit) h1
  have hq : (match (du : TypeDesc) with | .int _ => true | _ => false) = false := by
    cases du <;> first | rfl | exact absurd rfl (hdu _)
  unfold Builtin.append_
  simp only [List.getElem?_toArray, List.getElem?_cons_zero, List.getElem?_cons_succ, Sem.run_bind, run_underlying ht, run_underlying hu, Result.andThen_ok, run_sizeOf' hi, hq, Sem.run_pure, Bool.false_eq_true, if_false, Builtin.lenOf, Bool.not_false, if_true]
  rw [if_pos hle]
  simp only [Sem.run_bind, e2, Result.andThen_ok, add_none, Nat.zero_add]
  simp only [Nat.add_zero] at hst
  rw [hst]
  simp

def aapp (i : TI) (G : Hp) (x : AV) (n : Nat) (xs : List AV) (k : AV → Hp → Prop) : Prop :=
  match x with
  | .nils => if n = 0 then k .nils G else (n ≤ LIM ∧ n * i.bytes ≤ LIM ∧ ∀ b, G b = none → ∃ τ, k (.ms b 0 n i.size) (setH G b (some (τ, xs))))
  | .ms b off m sz => sz = i.size ∧ off = 0 ∧
    match G b with
    | some (τ, cs) => cs.length = m * i.size ∧ xs.all AV.scal = true ∧ m + n ≤ LIM ∧ (m + n) * i.bytes ≤ LIM ∧
        ∀ b', (b' = b ∨ G b' = none) → k (.ms b' 0 (m + n) i.size) (setH (setH G b none) b' (some (τ, cs ++ xs)))
    | none => False
  | _ => False

theorem aapp_sound {P : Program} {E : En} {T : Tm} {G : Hp} {a : Act} {w : World} (R : Rel E T G a w) {t u ty e : TypeId} (hokt : (ti P t).ok = true) (hkt : (ti P t).kd = .slc e) (hoku : (ti P u).ok = true) (hku : ∀ k, (ti P u).kd ≠ .int k) (hoke : (ti P e).ok = true)
    (hz : ∃ zs, (ti P e).zero = some zs ∧ zs.length = (ti P e).size) {x y : AV} {cx cy : Value} (hx : VR w (Own E.X G T a.tmps) x cx) (hy : VR w (Own E.X G T a.tmps) y cy) {n : Nat} {xs : List AV} (hs : srcCells G (ti P e).size y = some (n, xs))
    {k : AV → Hp → Prop} (h : aapp (ti P e) G x n xs k) :
    ∃ cv w' v G', (Builtin.append_ #[t, u] ty #[cx, cy]).run P w = .ok cv w' ∧ Rel E T G' a w' ∧ VR w' (Own E.X G' T a.tmps) v cv ∧ k v G' := by
  obtain ⟨it, dt, t1, t2, tkd, _⟩ := ti_ok hokt
  have hdt := kdD_slc (tkd ▸ hkt); subst hdt
  obtain ⟨iu, du, u1, u2, ukd, _⟩ := ti_ok hoku
  have hdu : ∀ k, du ≠ .int k := by rintro k rfl; exact hku k ukd
  obtain ⟨i, de, e1, e2, ekd, eeg, esz, eby, eag, eel, eof, efl, ezr⟩ := ti_ok hoke
  obtain ⟨zs, hz1, hz2⟩ := hz
  have hzz : ∃ z, i.zero = some z ∧ z.cells.size = i.size := by
    rw [ezr] at hz1
    cases hzi : i.zero with
    | none => rw [hzi] at hz1; cases hz1
    | some z =>
      rw [hzi] at hz1
      simp only [Option.map_some, Option.some.injEq] at hz1
      refine ⟨z, rfl, ?_⟩
      rw [← hz1, esz] at hz2
      simpa using hz2
  obtain ⟨z, hz3, hz4⟩ := hzz
  obtain ⟨p, cap, vs, rfl, hn, hl, hvs, hc, hp⟩ := srcCells_sound (P := P) R hy hs
  rw [esz] at hl
  have hvl : vs.length = n * i.size := by rw [VRs_length _ _ hvs]; exact hl
  cases x <;> simp only [aapp] at h <;> try (exact h.elim)
  case nils =>
    simp only [VR] at hx; subst hx
    split at h
    · rename_i h0; subst h0
      have : vs = [] := List.eq_nil_of_length_eq_zero (by simpa using hvl)
      subst this
      refine ⟨.slice none 0 0, w, .nils, G, ?_, R, by simp only [VR], h⟩
      have e0 := run_firstCells (P := P) (w := w) (cap := cap) hvl hc hp
      have hq : (match (du : TypeDesc) with | .int _ => true | _ => false) = false := by
        cases du <;> first | rfl | exact absurd rfl (hdu _)
      unfold Builtin.append_
      simp only [List.getElem?_toArray, List.getElem?_cons_zero, List.getElem?_cons_succ, Sem.run_bind, run_underlying t2, run_underlying u2, Result.andThen_ok, run_sizeOf' e1, hq, Sem.run_pure, Bool.false_eq_true, if_false, Builtin.lenOf, Bool.not_false, if_true]
      simp [e0]
    · rename_i h0
      obtain ⟨h1, h2, h3⟩ := h
      rw [eby] at h2
      obtain ⟨nc, rest, hnc, hlen, hrun⟩ := al_append_grow (P := P) (w := w) (ty := ty) (m := 0) (sCap := 0) (old := []) (base := none) (cap := cap) t2 u2 hdu e1 hz3 hz4 (by simp) (by simp) (fun _ => rfl) hvl hc hp (by omega) (by omega) (by simpa using h2)
      have hfree : G w.heap.size = none := by
        cases hg : G w.heap.size with
        | none => rfl
        | some q => exact absurd (.inr (.inl (by rw [hg]; simp))) R.fresh
      obtain ⟨τ, hk⟩ := h3 _ hfree
      have R' := (R.drew).own ([] ++ vs ++ rest).toArray e τ xs vs rest (by simp) (VRs_drew hvs)
      refine ⟨_, _, _, _, hrun, R', ?_, hk⟩
      simp only [VR, Nat.zero_add]
      refine ⟨nc, rfl, by omega, h1, e, nc * i.size, ?_, ?_⟩
      · unfold World.shape?
        have := heap_alloc_at w.drew (.cells ([] ++ vs ++ rest).toArray e)
        simp only [World.size_drew] at this
        rw [this]
        simp only [List.size_toArray, hlen]
      · rw [esz]; first | done | omega
  case ms b off m sz =>
    obtain ⟨rfl, rfl, h⟩ := h
    cases hg : G b with
    | none => rw [hg] at h; exact h.elim
    | some q =>
      obtain ⟨τ, cs⟩ := q
      rw [hg] at h
      obtain ⟨h1, h2, h3, h4, h5⟩ := h
      rw [esz] at h1
      rw [eby] at h4
      simp only [VR] at hx
      obtain ⟨sCap, rfl, hx2, hx3, se, sc, hx4, hx5⟩ := hx
      obtain ⟨g1, g2, c, te, us, rest, g3, g4, g5⟩ := R.gr b τ cs hg
      have hul : us.length = m * i.size := by rw [VRs_length _ _ g5]; exact h1
      have hsc : sc = c.size := by
        unfold World.shape? at hx4
        rw [g3] at hx4
        simp at hx4; exact hx4.2.symm
      by_cases hroom : m + n ≤ sCap
      · have hfit : m * i.size + vs.length ≤ c.size := by
          rw [hvl, ← Nat.add_mul, ← hsc]
          have := Nat.mul_le_mul_right i.size hroom
          rw [esz] at hx5
          omega
        have hrun := al_append_room (P := P) (w := w) (ty := ty) (m := m) (sCap := sCap) (cap := cap) t2 u2 hdu e1 g3 hvl hc hp (VRs_one hvs h2) hroom hfit
        have hcl : c.toList.take (m * i.size) = us := by rw [g4, ← hul]; simp
        have R' := R.setG hg (cs' := cs ++ xs) (c' := (c.toList.take (m * i.size) ++ vs ++ c.toList.drop (m * i.size + vs.length)).toArray) (vs' := us ++ vs) (rest' := c.toList.drop (m * i.size + vs.length)) g3
          (by simp; omega) (by simp [hcl]) (VRs_append g5 hvs) τ
        have hk := h5 b (.inl rfl)
        rw [setH_setH] at hk
        refine ⟨_, _, _, _, hrun, R', ?_, hk⟩
        simp only [VR]
        refine ⟨sCap, rfl, hroom, h3, se, sc, ?_, hx5⟩
        rw [shape_setRow g3 (by simp; omega)]
        exact hx4
      · have hoc : ∀ a0, some (⟨b, 0, none⟩ : Addr) = some a0 → ∀ j v, us[j]? = some v → w.cell? (a0.add j) = some v := by
          intro a0 ha j v hv
          injection ha with ha; subst ha
          rw [add_none, Nat.zero_add]
          have hlt := (List.getElem?_eq_some_iff.1 hv).1
          have : c.toList[j]? = some v := by rw [g4, List.getElem?_append_left hlt]; exact hv
          simp only [World.cell?, g3]
          simpa using this
        obtain ⟨nc, rest', hnc, hlen, hrun⟩ := al_append_grow (P := P) (w := w) (ty := ty) (m := m) (sCap := sCap) (old := us) (base := some ⟨b, 0, none⟩) (cap := cap) t2 u2 hdu e1 hz3 hz4 hul hoc (by simp) hvl hc hp (by omega) h3 h4
        have hsub : sub (setH G b none) G := sub_setH_none G b
        have Rd := (R.drew).drop hsub
        have S : Stab w (Own E.X G T a.tmps) { w with drawn := w.drawn + 1 } (Own E.X (setH G b none) T a.tmps) := by
          refine ⟨fun q hq _ => ⟨?_, rfl⟩, Nat.le_refl _, fun _ _ _ h => h⟩
          rintro (hq' | hq' | hq')
          · exact hq (.inl hq')
          · refine hq (.inr (.inl ?_))
            intro hn
            cases hz : setH G b none q with
            | none => exact hq' hz
            | some o => rw [hsub q o hz] at hn; cases hn
          · exact hq (.inr (.inr hq'))
        have R' := Rd.own (us ++ vs ++ rest').toArray e τ (cs ++ xs) (us ++ vs) rest' (by simp) (VRs_append (VRs_stab S _ _ g5) (VRs_stab S _ _ hvs))
        have hfree : G w.heap.size = none := by
          cases hg : G w.heap.size with
          | none => rfl
          | some q => exact absurd (.inr (.inl (by rw [hg]; simp))) R.fresh
        refine ⟨_, _, _, _, hrun, R', ?_, h5 _ (.inr hfree)⟩
        simp only [VR]
        refine ⟨nc, rfl, by omega, h3, e, nc * i.size, ?_, ?_⟩
        · unfold World.shape?
          have := heap_alloc_at w.drew (.cells (us ++ vs ++ rest').toArray e)
          simp only [World.size_drew] at this
          rw [this]
          simp only [List.size_toArray, hlen]
        · rw [esz]; first | done | omega

end Go.Al

set_option linter.unusedVariables false
set_option linter.unusedSimpArgs false
namespace Go.Al
open Go

/-! ### calls -/
theorem Rel.call {E : En} {T : Tm} {G G' : Hp} {a : Act} {w w' : World} (R : Rel E T G a w) (X : Nat → Prop) (hX : ∀ b, X b ↔ E.X b ∨ Bx T a.tmps b) (tr : Tr G w G' w') (hg : GR w' (fun b => X b ∨ G' b ≠ none) X G') : Rel E T G' a w' := by
  have hOwn : ∀ b, Own E.X G' T a.tmps b ↔ (X b ∨ G' b ≠ none) := by
    intro b; unfold Own; rw [hX]
    constructor
    · rintro (h | h | h)
      · exact .inl (.inl h)
      · exact .inr h
      · exact .inl (.inr h)
    · rintro ((h | h) | h)
      · exact .inl h
      · exact .inr (.inr h)
      · exact .inr (.inl h)
  have nn : ∀ b, ¬ Own E.X G T a.tmps b → G b = none := by
    intro b h
    cases hq : G b with
    | none => rfl
    | some o => exact absurd (.inr (.inl (by rw [hq]; simp))) h
  have S : Stab w (Own E.X G T a.tmps) w' (Own E.X G' T a.tmps) := by
    refine ⟨fun b hb hlt => ?_, tr.size, tr.shape⟩
    have h := tr.blk b hlt (nn b hb)
    refine ⟨?_, h.1⟩
    rintro (h' | h' | h')
    · exact hb (.inl h')
    · exact h' h.2
    · exact hb (.inr (.inr h'))
  refine ⟨R.defers, R.size, R.xb, R.tr.trans tr, ?_, ?_, R.inj, fun i => SlotR_stab S (R.slot i)⟩
  · intro b τ cs h
    obtain ⟨h1, h2, c, ty, vs, rest, h3, h4, h5⟩ := hg b τ cs h
    exact ⟨fun h' => h1 ((hX b).2 (.inl h')), h2, c, ty, vs, rest, h3, h4, VRs_stab (Stab.sub fun b hb => (hOwn b).1 hb) _ _ h5⟩
  · intro t cs h
    obtain ⟨b, h4, h5, h6, h7, c, ty, h8, h9⟩ := R.bx t cs h
    have hb := tr.blk b h6 h7
    exact ⟨b, h4, h5, Nat.lt_of_lt_of_le h6 tr.size, hb.2, c, ty, hb.1.trans h8, VRs_stab S _ _ h9⟩

/-- what a call's callee is given -/
theorem Rel.enter {P : Program} {E : En} {T : Tm} {G : Hp} {a : Act} {w : World} (R : Rel E T G a w) {f : FuncId} {args : List AV} {cargs : Array Value} (hv : VRs w (Own E.X G T a.tmps) args cargs.toList) {post : AV → Hp → Prop} (h : ACalls P f args G post) :
    Calls P f cargs w fun e w' => ∃ r cr G', e = .returned cr ∧ Rel E T G' a w' ∧ VR w' (Own E.X G' T a.tmps) r cr ∧ post r G' := by
  let X : Nat → Prop := fun b => E.X b ∨ Bx T a.tmps b
  have hO : ∀ G b, Own E.X G T a.tmps b ↔ (X b ∨ G b ≠ none) := by
    intro G b; unfold Own
    constructor
    · rintro (h | h | h)
      · exact .inl (.inl h)
      · exact .inr h
      · exact .inl (.inr h)
    · rintro ((h | h) | h)
      · exact .inl h
      · exact .inr (.inr h)
      · exact .inr (.inl h)
  have hlt : ∀ b, X b → b < w.heap.size := by
    rintro b (h | ⟨t, cs, h1, h2⟩)
    · exact Nat.lt_of_lt_of_le (R.xb b h) R.tr.size
    · obtain ⟨b', h4, _, h6, _⟩ := R.bx t cs h1
      rw [h2] at h4
      injection h4 with h4; injection h4 with h4; injection h4 with h4
      rw [h4]; exact h6
  have hgr : GR w (fun b => X b ∨ G b ≠ none) X G := by
    intro b τ cs hb
    obtain ⟨h1, h2, c, ty, vs, rest, h3, h4, h5⟩ := R.gr b τ cs hb
    refine ⟨?_, h2, c, ty, vs, rest, h3, h4, VRs_stab (Stab.sub fun b hb => (hO G b).2 hb) _ _ h5⟩
    rintro (h' | ⟨t, cs', h6, h7⟩)
    · exact h1 h'
    · obtain ⟨b', h8, _, _, h9, _⟩ := R.bx t cs' h6
      rw [h7] at h8
      injection h8 with h8; injection h8 with h8; injection h8 with h8
      subst h8; rw [hb] at h9; cases h9
  refine Calls.mono (h X w cargs hlt hgr (VRs_stab (Stab.sub fun b hb => (hO G b).2 hb) _ _ hv)) ?_
  rintro e w' ⟨r, cr, G', he, tr, hg, hr, hp⟩
  exact ⟨r, cr, G', he, R.call X (fun b => Iff.rfl) tr hg, VR_stab (Stab.sub fun b hb => (hO G' b).1 hb) _ _ hr, hp⟩

def callable (P : Program) (f : FuncId) : Bool :=
  match P.funcs[f]? with
  | some fn => fn.name != "runtime.NumGoroutine" && fn.body.isSome
  | none => false

theorem run_callFunc {P : Program} {w : World} {f : FuncId} (h : callable P f = true) (args : Array Value) : (callFunc f args).run P w = .ok (.enter f args) w := by
  unfold callable at h
  cases hf : P.funcs[f]? with
  | none => rw [hf] at h; cases h
  | some fn =>
    rw [hf] at h
    simp only [Bool.and_eq_true, bne_iff_ne, ne_eq] at h
    unfold callFunc
    simp only [Sem.run_bind, run_program, Result.andThen_ok, hf]
    have h1 : (fn.name == "runtime.NumGoroutine") = false := by simpa using h.1
    have h2 : fn.body.isNone = false := by
      have := h.2
      cases hb : fn.body <;> simp [hb] at this ⊢
    simp [h1, h2]

/-! ### the operations -/
def oget (x : Option AV) (k : AV → Prop) : Prop :=
  match x with
  | some v => k v
  | none => False

def zerosA (zs : List AV) (m : Nat) : List AV := (List.range m).map fun j => (zs[j % zs.length]?).getD .any

def aslc (P : Program) (t : TypeId) (x : AV) (lo hi : Option AV) : Option AV :=
  if (ti P t).ok then
    match (ti P t).kd with
    | .str => match x with
      | .str s => slcA (ti P t) (.str s) lo hi
      | _ => none
    | .slc e => if (ti P e).ok then
        match x with
        | .str _ => none
        | x => slcA (ti P e) x lo hi
      else none
    | _ => none
  else none

def fldA (P : Program) (s : TypeId) (x : AV) (f : Nat) : Option AV :=
  match (ti P s).ok, (ti P s).offs[f]? with
  | true, some (some off) => match x with
    | .ptr b o => some (.ptr b (o + off))
    | .loc t o => some (.loc t (o + off))
    | .iptr cs => some (.iptr (cs.drop off))
    | _ => none
  | _, _ => none

def locB (x : AV) : Bool :=
  match x with
  | .loc _ _ => true
  | _ => false

def idxA (P : Program) (t : TypeId) (x ix : AV) : Option AV :=
  if (ti P t).ok then
    match (ti P t).kd, ix with
    | .slc e, .int _ i => if (ti P e).ok then
        match x with
        | .sl n cs => if 0 ≤ i ∧ i < n then some (.iptr ((cs.drop (i.toNat * (ti P e).size)).take (ti P e).size)) else none
        | .ms b off n sz => if 0 ≤ i ∧ i < n ∧ sz = (ti P e).size then some (.ptr b (off + i.toNat * (ti P e).size)) else none
        | _ => none
      else none
    | .arr n e, .int _ i => if (ti P e).ok then
        match x with
        | .ptr b off => if 0 ≤ i ∧ i < n then some (.ptr b (off + i.toNat * (ti P e).size)) else none
        | .iptr cs => if 0 ≤ i ∧ i < n then some (.iptr ((cs.drop (i.toNat * (ti P e).size)).take (ti P e).size)) else none
        | .loc d off => if 0 ≤ i ∧ i < n then some (.loc d (off + i.toNat * (ti P e).size)) else none
        | _ => none
      else none
    | _, _ => none
  else none

def fieldA (P : Program) (t : TypeId) (x : AV) (f : Nat) : Option AV :=
  match P.underlying t with
  | some (.struct fs) => match fs[f]?, x with
    | some fd, .agg cs => partA (ti P fd.type) cs fd.offset
    | _, _ => none
  | _ => none

def atA (P : Program) (t : TypeId) (x ix : AV) : Option AV :=
  if (ti P t).ok then
    match (ti P t).kd, x, ix with
    | .str, .str s, .int _ i => if 0 ≤ i then
        match s[i.toNat]? with
        | some b => some (.int .u8 b.toNat)
        | none => none
      else none
    | .arr n e, .agg cs, .int _ i => if 0 ≤ i ∧ i < n then partA (ti P e) cs (i.toNat * (ti P e).size) else none
    | _, _, _ => none
  else none

def nilA (x : AV) : Bool :=
  match x with
  | .ptr _ _ | .iptr _ | .fn _ _ | .loc _ _ => true
  | _ => false

def alen (P : Program) (t : TypeId) (x : AV) : Option AV :=
  if (ti P t).ok then
    match (ti P t).kd, x with
    | .slc _, .nils => some (.int .i64 0)
    | .slc _, .sl n _ => some (.int .i64 n)
    | .slc _, .ms _ _ n _ => some (.int .i64 n)
    | .str, .str s => some (.int .i64 s.size)
    | _, _ => none
  else none

def mm (mx : Bool) (xs : List AV) : Option AV :=
  match xs with
  | [.int k x, .int k' y] => if k = k' then some (.int k (if mx then (if y > x then y else x) else (if y < x then y else x))) else none
  | [.int k x, .int k' y, .int k'' z] => if k = k' ∧ k = k'' then
      (let u := if mx then (if y > x then y else x) else (if y < x then y else x)
       some (.int k (if mx then (if z > u then z else u) else (if z < u then z else u)))) else none
  | _ => none

/-- builtins that only compute -/
def bval (P : Program) (b : Builtin) (ts : List TypeId) (xs : List AV) : Option AV :=
  match b, ts, xs with
  | .len, [t], [x] => alen P t x
  | .max, _, xs => mm true xs
  | .min, _, xs => mm false xs
  | _, _, _ => none

/-- an operation's value, if it only computes, reads, or makes what nobody owns -/
def pv (P : Program) (op : Op) (T : Tm) (G : Hp) : Option AV :=
  match op with
  | .move x => (match ev T x with | .box _ => none | v => some v)
  | .assign x => (match ev T x with | .box _ => none | v => some v)
  | .pick c x y => match ev T c with
    | .bool t => some (if t then ev T x else ev T y)
    | _ => none
  | .alloc e => if (ti P e).ok then ((ti P e).zero).map AV.box else none
  | .box _ x => if (ev T x).known then some (.box (ev T x).cells) else none
  | .build t ps => if (ti P t).ok && decide ((ti P t).kd = .struct) then
      match (ti P t).flds, (ti P t).zero with
      | some fl, some zs => (fillA (fun i => fl[i]?) zs (ps.toList.map fun p => (p.1, ev T p.2))).map AV.agg
      | _, _ => none
    else if (ti P t).ok then
      match (ti P t).kd, (ti P t).zero with
      | .arr _ e, some zs => if (ti P e).ok then (fillA (fun i => some (i * (ti P e).size, (ti P e).size)) zs (ps.toList.map fun p => (p.1, ev T p.2))).map AV.agg else none
      | _, _ => none
    else none
  | .buildSlice t n ps => if (ti P t).ok then
      match (ti P t).kd with
      | .slc e => if (ti P e).ok && decide (n ≤ 16777216) && decide (n * (ti P e).size ≤ 16777216) then
          match (ti P e).zero with
          | some zs => if zs.length = (ti P e).size then
              (fillA (fun i => some (i * (ti P e).size, (ti P e).size)) (zerosA zs (n * (ti P e).size)) (ps.toList.map fun p => (p.1, ev T p.2))).map (AV.sl n)
            else none
          | none => none
        else none
      | _ => none
    else none
  | .load t x => match memLd T G (ev T x) with
    | some cs => ldV (ti P t) cs
    | none => none
  | .nilCheck x => if nilA (ev T x) then some (ev T x) else none
  | .binOp op t x y _ => if (ev T x).plain && (ev T y).plain then bin P op t (ev T x) (ev T y) else none
  | .unOp op _ x => if (ev T x).plain then un op (ev T x) else none
  | .convert s d x => if (ev T x).plain then conv P G s d (ev T x) else none
  | .makeFunc (.func f) first caps => if first.isEmpty && (caps.toList.map (ev T)).all AV.plain then some (.fn f (caps.toList.map (ev T))) else none
  | .makeSlice t l c => if (ti P t).ok then
      match (ti P t).kd, ev T l, ev T c with
      | .slc e, .int _ n, .int _ m => if n = m ∧ 0 ≤ n ∧ (ti P e).ok = true ∧ n.toNat ≤ LIM ∧ n.toNat * (ti P e).bytes ≤ LIM then
          match (ti P e).zero with
          | some zs => if zs.length = (ti P e).size then some (.sl n.toNat (zerosA zs (n.toNat * (ti P e).size))) else none
          | none => none
        else none
      | _, _, _ => none
    else none
  | .slice t x lo hi none => if (ev T x).plain && (lo.all fun y => (ev T y).plain) && (hi.all fun y => (ev T y).plain) then aslc P t (ev T x) (lo.map (ev T)) (hi.map (ev T)) else none
  | .fieldAddr s x f => fldA P s (ev T x) f
  | .field t x f => if (ev T x).plain then fieldA P t (ev T x) f else none
  | .indexAddr t x ix => if ((ev T x).plain || locB (ev T x)) && (ev T ix).plain then idxA P t (ev T x) (ev T ix) else none
  | .index t x ix => if (ev T x).plain && (ev T ix).plain then atA P t (ev T x) (ev T ix) else none
  | .extract x i => match ev T x with
    | .tup vs => vs[i]?
    | _ => none
  | .call c => match c.callee with
    | .builtin b => if (c.args.toList.map (ev T)).all AV.plain then bval P b c.argTypes.toList (c.args.toList.map (ev T)) else none
    | _ => none
  | _ => none

/-- does it call, write, or make what is owned? -/
def isE (gl : List Nat) (dst : Option Nat) (op : Op) : Bool :=
  match op with
  | .store _ _ _ => true
  | .makeSlice _ _ _ => dst.any gl.contains
  | .buildSlice _ n _ => n == 0
  | .alloc _ => dst.any gl.contains
  | .box _ _ => dst.any gl.contains
  | .call c => match c.callee with
    | .builtin .len => false
    | .builtin .max => false
    | .builtin .min => false
    | _ => true
  | _ => false

def aappB (P : Program) (ts : List TypeId) (xs : List AV) (G : Hp) (k : AV → Hp → Prop) : Prop :=
  match ts, xs with
  | [t, u], [x, y] => (ti P t).ok = true ∧ (ti P u).ok = true ∧ (match (ti P u).kd with | .int _ => False | _ => True) ∧ x.plain = true ∧ y.plain = true ∧
      match (ti P t).kd with
      | .slc e => (ti P e).ok = true ∧ (match (ti P e).zero with | some zs => zs.length = (ti P e).size | none => False) ∧
          match srcCells G (ti P e).size y with
          | some (n, ys) => aapp (ti P e) G x n ys k
          | none => False
      | _ => False
  | _, _ => False

instance (n : Nat) : OfNat Unit n := ⟨()⟩
def eop (P : Program) (dst : Option Nat) (op : Op) (T : Tm) (G : Hp) (k : AV → Tm → Hp → Prop) : Prop :=
  match op with
  | .store t x y => dst = none ∧ (ev T y).known = true ∧ (ev T y).cells.all AV.scal = true ∧ (ti P t).ok = true ∧ (ti P t).size = (ev T y).cells.length ∧
      match memSt T G (ev T x) (ev T y).cells with
      | some (T', G') => k .any T' G'
      | none => False
  | .alloc e => (ti P e).ok = true ∧ match (ti P e).zero with
    | some zs => ∀ b, G b = none → ∃ _u : Unit, k (.ptr b 0) T (setH G b (some (0, zs)))
    | none => False
  | .box _ x => (ev T x).known = true ∧ ∀ b, G b = none → ∃ _u : Unit, k (.ptr b 0) T (setH G b (some (0, (ev T x).cells)))
  | .buildSlice t n ps => n = 0 ∧ ps = #[] ∧ (ti P t).ok = true ∧ match (ti P t).kd with
    | .slc e => (ti P e).ok = true ∧ (match (ti P e).zero with | some _ => True | none => False) ∧ ∀ b, G b = none → ∃ _u : Unit, k (.ms b 0 0 (ti P e).size) T (setH G b (some (0, [])))
    | _ => False
  | .makeSlice t l c => (ti P t).ok = true ∧ match (ti P t).kd, ev T l, ev T c with
    | .slc e, .int _ n, .int _ m => n = m ∧ 0 ≤ n ∧ (ti P e).ok = true ∧ n.toNat ≤ LIM ∧ n.toNat * (ti P e).bytes ≤ LIM ∧ match (ti P e).zero with
      | some zs => zs.length = (ti P e).size ∧ ∀ b, G b = none → ∃ _u : Unit, k (.ms b 0 n.toNat (ti P e).size) T (setH G b (some (0, zerosA zs (n.toNat * (ti P e).size))))
      | none => False
    | _, _, _ => False
  | .call c => match c.callee with
    | .value f => match ev T f with
      | .fn g caps => callable P g = true ∧ (c.args.toList.map (ev T)).all AV.plain = true ∧ ACalls P g (c.args.toList.map (ev T) ++ caps) G fun r G' => k r T G'
      | _ => False
    | .builtin .append => (c.args.toList.map (ev T)).all AV.plain = true ∧ aappB P c.argTypes.toList (c.args.toList.map (ev T)) G fun v G' => k v T G'
    | _ => False
  | _ => False

def Cont (E : En) (dst : Option Nat) (k : AV → Tm → Hp → Prop) (a : Act) (w : World) : Prop := ∃ v T G, Rel E (putT T dst v) G a w ∧ k v T G

section
variable {P : Program} {E : En} {T : Tm} {G : Hp} {a : Act} {w : World} {o : Oper} {k : AV → Tm → Hp → Prop} {Q : Exit → Act → World → Prop}

theorem putT_other {T : Tm} {d : Nat} {v : AV} (h : ∀ cs, v ≠ .box cs) : putT T (some d) v = upd T d v := by
  unfold putT
  cases v <;> first | rfl | exact absurd rfl (h _)

theorem Rel.putO (R : Rel E T G a w) {dst : Option Nat} (hd : ∀ d, dst = some d → d < E.n) {v : AV} {cv : Value} (hv : SlotR w (Own E.X G T a.tmps) T a.tmps v cv) (hb : ∀ cs, v ≠ .box cs) : Rel E (putT T dst v) G (a.put dst cv) w := by
  cases dst with
  | none => exact R
  | some d => rw [putT_other hb]; exact R.put (hd d rfl) hv hb

/-- an operation that ends in a value -/
theorem fin_value {cv : Value} {w' : World} {T' : Tm} {G' : Hp} {v : AV} (hrun : (execOp a.eval o).run P w = .ok (.value cv) w') (R' : Rel E T' G' a w') (hd : ∀ d, o.dst = some d → d < E.n)
    (hv : SlotR w' (Own E.X G' T' a.tmps) T' a.tmps v cv) (hb : ∀ cs, v ≠ .box cs) (hk : k v T' G') : o.wp P a w (Cont E o.dst k) Q := by
  unfold Oper.wp
  rw [hrun]
  exact ⟨v, T', G', R'.putO hd hv hb, hk⟩

theorem VR_nobox {w : World} {O : Nat → Prop} {v : AV} {cv : Value} (h : VR w O v cv) : ∀ cs, v ≠ .box cs := by
  rintro cs rfl; simp only [VR] at h

theorem fin_VR {cv : Value} {w' : World} {T' : Tm} {G' : Hp} {v : AV} (hrun : (execOp a.eval o).run P w = .ok (.value cv) w') (R' : Rel E T' G' a w') (hd : ∀ d, o.dst = some d → d < E.n)
    (hv : VR w' (Own E.X G' T' a.tmps) v cv) (hk : k v T' G') : o.wp P a w (Cont E o.dst k) Q :=
  fin_value hrun R' hd hv.slot (VR_nobox hv) hk

theorem oget_some {x : Option AV} {k : AV → Prop} (h : oget x k) : ∃ v, x = some v ∧ k v := by
  cases x with
  | none => exact h.elim
  | some v => exact ⟨v, rfl, h⟩

theorem ev_VR (R : Rel E T G a w) {x : Operand} (h : (ev T x).plain = true) : VR w (Own E.X G T a.tmps) (ev T x) (a.eval x) := (ev_slot R x).vr h

theorem evs_VR (R : Rel E T G a w) : ∀ (xs : List Operand), (xs.map (ev T)).all AV.plain = true → VRs w (Own E.X G T a.tmps) (xs.map (ev T)) (xs.map a.eval)
  | [], _ => by simp [VRs]
  | x :: xs, h => by
    simp only [List.map_cons, List.all_cons, Bool.and_eq_true] at h
    simp only [List.map_cons, VRs]
    exact ⟨_, _, rfl, ev_VR R h.1, evs_VR R xs h.2⟩

theorem ofVs_VRs {w : World} {O : Nat → Prop} : ∀ (vs : List Value), VRs w O (vs.map ofV) vs
  | [] => by simp [VRs]
  | v :: vs => by simp only [List.map_cons, VRs]; exact ⟨v, vs, rfl, ofV_VR v, ofVs_VRs vs⟩

theorem Rel.none_fresh (R : Rel E T G a w) : G w.heap.size = none := by
  cases hg : G w.heap.size with
  | none => rfl
  | some q => exact absurd (.inr (.inl (by rw [hg]; simp))) R.fresh

/-- a new variable that is owned -/
theorem own_sound (R : Rel E T G a w) (hd : ∀ d, o.dst = some d → d < E.n) {cs : List AV} {c : Array Value} {e : TypeId} (hv : VRs w (Own E.X G T a.tmps) cs c.toList)
    (hk : ∀ b, G b = none → ∃ _u : Unit, k (.ptr b 0) T (setH G b (some (0, cs))))
    (hrun : (execOp a.eval o).run P w = .ok (.value (.pointer (some ⟨w.heap.size, 0, none⟩))) (w.alloc (.cells c e))) : o.wp P a w (Cont E o.dst k) Q := by
  obtain ⟨_, hk⟩ := hk _ R.none_fresh
  refine fin_VR hrun (R.own c e 0 cs c.toList [] (by simp) hv) hd ?_ hk
  simp only [VR]

/-- a new variable of the frame -/
theorem box_sound (R : Rel E T G a w) (hd : ∀ d, o.dst = some d → d < E.n) {cs : List AV} {c : Array Value} {e : TypeId} (hv : VRs w (Own E.X G T a.tmps) cs c.toList) (hk : k (.box cs) T G)
    (hrun : (execOp a.eval o).run P w = .ok (.value (.pointer (some ⟨w.heap.size, 0, none⟩))) (w.alloc (.cells c e))) : o.wp P a w (Cont E o.dst k) Q := by
  unfold Oper.wp
  rw [hrun]
  refine ⟨.box cs, T, G, ?_, hk⟩
  cases hdst : o.dst with
  | none => exact R.alloc _
  | some d => exact R.box (hd d hdst) c e cs hv

end

end Go.Al

set_option linter.unusedVariables false
set_option linter.unusedSimpArgs false
namespace Go.Al
open Go

section
variable {P : Program} {E : En} {T : Tm} {G : Hp} {a : Act} {w : World} {k : AV → Tm → Hp → Prop} {Q : Exit → Act → World → Prop}

theorem mm_sound {P : Program} {w : World} {O : Nat → Prop} {b : Bool} {xs : List AV} {cs : Array Value} {v : AV} (h : mm b xs = some v) (hv : VRs w O xs cs.toList) (t : Array TypeId) (ty : TypeId) :
    ((if b then Builtin.max_ t ty cs else Builtin.min_ t ty cs) : Sem Value).run P w = .ok (sv v) w ∧ v.small = true := by
  unfold mm at h
  split at h
  · split at h
    · rename_i hk; subst hk
      injection h with h; subst h
      simp only [VRs, VR] at hv
      obtain ⟨v1, vs1, h1, rfl, v2, vs2, rfl, rfl, rfl⟩ := hv
      refine ⟨?_, rfl⟩
      cases b <;> simp [Builtin.max_, Builtin.min_, h1, Builtin.max2, Builtin.min2, sv]
    · cases h
  · split at h
    · rename_i hk; obtain ⟨hk1, hk2⟩ := hk; subst hk1; subst hk2
      injection h with h; subst h
      simp only [VRs, VR] at hv
      obtain ⟨v1, vs1, h1, rfl, v2, vs2, rfl, rfl, v3, vs3, rfl, rfl, rfl⟩ := hv
      refine ⟨?_, rfl⟩
      cases b <;> simp [Builtin.max_, Builtin.min_, h1, Builtin.max2, Builtin.min2, sv]
    · cases h
  · cases h

theorem alen_sound {P : Program} {w : World} {O : Nat → Prop} {t : TypeId} {x v : AV} {cx : Value} (h : alen P t x = some v)
    (hx : VR w O x cx) (ty : TypeId) : (Builtin.len_ #[t] ty #[cx]).run P w = .ok (sv v) w ∧ v.small = true := by
  unfold alen at h
  split at h
  · rename_i hok
    obtain ⟨i, d, h1, h2, hkd, _⟩ := ti_ok hok
    rw [hkd] at h
    split at h
    · rename_i e hk
      have := kdD_slc hk; subst this
      injection h with h; subst h
      simp only [VR] at hx; subst hx
      exact ⟨by simp [Builtin.len_, run_underlying h2, goInt, sv], rfl⟩
    · rename_i e n cs hk
      have := kdD_slc hk; subst this
      injection h with h; subst h
      simp only [VR] at hx
      obtain ⟨a0, cap, rfl, h3, h4, _⟩ := hx
      exact ⟨by simp [Builtin.len_, run_underlying h2, goInt, sv], rfl⟩
    · rename_i e b off n sz hk
      have := kdD_slc hk; subst this
      injection h with h; subst h
      simp only [VR] at hx
      obtain ⟨cap, rfl, h3, h4, _⟩ := hx
      exact ⟨by simp [Builtin.len_, run_underlying h2, goInt, sv], rfl⟩
    · rename_i s hk
      have := kdD_str hk; subst this
      injection h with h; subst h
      simp only [VR] at hx
      obtain ⟨rfl, hl⟩ := hx
      exact ⟨by simp [Builtin.len_, run_underlying h2, goInt, sv], rfl⟩
    · cases h
  · cases h

theorem bval_sound {b : Builtin} {ts : Array TypeId} {ty : TypeId} {xs : List AV} {cs : Array Value} {consts : Array Bool} {O : Nat → Prop} {v : AV} (hv : VRs w O xs cs.toList) (h : bval P b ts.toList xs = some v) :
    (builtin b ts ty consts cs).run P w = .ok (.value (sv v)) w ∧ v.small = true := by
  unfold bval at h
  split at h
  · rename_i t x hts
    simp only [VRs] at hv
    obtain ⟨cx, vs, hcs, hx, rfl⟩ := hv
    have ets : ts = #[t] := Array.toList_inj.1 (by simpa using hts)
    have ecs : cs = #[cx] := Array.toList_inj.1 (by simpa using hcs)
    subst ets; subst ecs
    obtain ⟨h1, h2⟩ := alen_sound (P := P) h hx ty
    exact ⟨by simp [builtin, h1], h2⟩
  · obtain ⟨h1, h2⟩ := mm_sound (P := P) h hv ts ty
    exact ⟨by simp only [builtin, Sem.run_bind]; simp only [if_true] at h1; rw [h1]; rfl, h2⟩
  · obtain ⟨h1, h2⟩ := mm_sound (P := P) h hv ts ty
    exact ⟨by simp only [builtin, Sem.run_bind]; simp only [Bool.false_eq_true, if_false] at h1; rw [h1]; rfl, h2⟩
  · cases h

theorem aappB_sound {ts : Array TypeId} {ty : TypeId} {xs : List AV} {cs : Array Value} {k : AV → Hp → Prop} (R : Rel E T G a w) (hv : VRs w (Own E.X G T a.tmps) xs cs.toList) (h : aappB P ts.toList xs G k) :
    ∃ cv w' v G', (Builtin.append_ ts ty cs).run P w = .ok cv w' ∧ Rel E T G' a w' ∧ VR w' (Own E.X G' T a.tmps) v cv ∧ k v G' := by
  unfold aappB at h
  split at h
  · rename_i t u x y hts
    obtain ⟨h1, h2, h3, h4, h5, h6⟩ := h
    split at h6
    · rename_i e he
      obtain ⟨h7, h8, h9⟩ := h6
      split at h9
      · rename_i n ys hs
        simp only [VRs] at hv
        obtain ⟨cx, vs, hcs, hx, cy, vs2, rfl, hy, rfl⟩ := hv
        have ets : ts = #[t, u] := Array.toList_inj.1 (by simpa using hts)
        have ecs : cs = #[cx, cy] := Array.toList_inj.1 (by simpa using hcs)
        subst ets; subst ecs
        have hz : ∃ zs, (ti P e).zero = some zs ∧ zs.length = (ti P e).size := by
          cases hz : (ti P e).zero with
          | none => rw [hz] at h8; exact h8.elim
          | some zs => rw [hz] at h8; exact ⟨zs, rfl, h8⟩
        have hku : ∀ k, (ti P u).kd ≠ .int k := by
          intro k hk; rw [hk] at h3; exact h3
        exact aapp_sound (ty := ty) R h1 he h2 hku h7 hz hx hy hs h9
      · exact h9.elim
    · exact h6.elim
  · exact h.elim

theorem map_fst {ρ : Operand → Value} (ps : Array (Nat × Operand)) : (ps.map fun (x : Nat × Operand) => (x.1, ρ x.2)).toList = ps.toList.map fun x => (x.1, ρ x.2) := by simp

theorem parts_fit (R : Rel E T G a w) (ps : List (Nat × Operand)) (hp : ∀ p ∈ ps, (ev T p.2).plain = true) : ∀ (i : Nat) (p : Nat × AV) (q : Nat × Value), (ps.map fun p => (p.1, ev T p.2))[i]? = some p → (ps.map fun p => (p.1, a.eval p.2))[i]? = some q → p.1 = q.1 ∧ VR w (Own E.X G T a.tmps) p.2 q.2 := by
  intro i p q h1 h2
  simp only [List.getElem?_map, Option.map_eq_some_iff] at h1 h2
  obtain ⟨x, hx, rfl⟩ := h1
  obtain ⟨y, hy, rfl⟩ := h2
  rw [hx] at hy; injection hy with hy; subst hy
  exact ⟨rfl, ev_VR R (hp x (List.mem_of_getElem? hx))⟩

theorem fillA_plain {place : Nat → Option (Nat × Nat)} : ∀ {ps : List (Nat × AV)} {cs ds : List AV}, fillA place cs ps = some ds → ∀ p ∈ ps, p.2.plain = true
  | [], _, _, _, p, hp => by cases hp
  | (i, v) :: ps, cs, ds, h, p, hp => by
    simp only [fillA] at h
    split at h
    · split at h
      · rename_i hh
        rcases List.mem_cons.1 hp with rfl | hp
        · exact AV.known_plain hh.1
        · exact fillA_plain h p hp
      · cases h
    · cases h

theorem fieldsM {fs : Array Field} {fl : List (Nat × Nat)} (h : fldD P (.struct fs) = some fl) : (fs.mapM (m := Sem) fun f => do pure (f.offset, ← sizeOf f.type)).run P w = .ok fl.toArray w := by
  rw [Array.mapM_eq_mapM_toList, Sem.run_map]
  simp only [fldD] at h
  generalize fs.toList = l at h ⊢
  have key : ∀ (l : List Field) (fl : List (Nat × Nat)), (l.mapM fun f => (P.info? f.type).map fun j => (f.offset, j.size)) = some fl → (l.mapM (m := Sem) fun f => do pure (f.offset, ← sizeOf f.type)).run P w = .ok fl w := by
    intro l
    induction l with
    | nil => intro fl h; simp at h; subst h; simp
    | cons f l ih =>
      intro fl h
      simp only [List.mapM_cons, Option.bind_eq_bind, Option.bind_eq_some_iff, Option.map_eq_some_iff] at h
      obtain ⟨p, ⟨j, hj, rfl⟩, r, hr, hp⟩ := h
      simp only [Option.pure_def, Option.some.injEq] at hp; subst hp
      simp only [List.mapM_cons, Sem.run_bind, run_sizeOf' hj, Result.andThen_ok, Sem.run_pure, ih r hr]
  rw [key l fl h]; rfl

theorem zerosA_VRs {O : Nat → Prop} {zs : List AV} {z : Array Value} (hz : VRs w O zs z.toList) (m : Nat) (hm : m = 0 ∨ 0 < zs.length) : VRs w O (zerosA zs m) ((Array.range m).map (fun j => z[j % z.size]!)).toList := by
  have hlen := VRs_length _ _ hz
  rw [Array.length_toList] at hlen
  have key : ∀ l : List Nat, (l = [] ∨ 0 < zs.length) → VRs w O (l.map fun j => (zs[j % zs.length]?).getD .any) (l.map fun j => z[j % z.size]!) := by
    intro l
    induction l with
    | nil => intro _; simp [VRs]
    | cons j l ih =>
      intro h
      have h0 : 0 < zs.length := by rcases h with h | h; cases h; exact h
      simp only [List.map_cons, VRs]
      refine ⟨_, _, rfl, ?_, ih (.inr h0)⟩
      have hj : j % zs.length < zs.length := Nat.mod_lt _ h0
      obtain ⟨v, hv, hr⟩ := VRs_get (j % zs.length) zs[j % zs.length] hz (by simp [hj])
      rw [List.getElem?_eq_getElem hj, Option.getD_some, hlen]
      have : z[j % zs.length]! = v := by
        have h2 : z[j % zs.length]? = some v := by simpa using hv
        rw [getElem!_def, h2]
      rw [this]; exact hr
  have := key (List.range m) (by rcases hm with rfl | h; exact .inl (by simp); exact .inr h)
  simpa [zerosA] using this


theorem run_v {x : Sem Value} {cv : Value} {w w' : World} (h : x.run P w = .ok cv w') : (do pure (Next.value (← x)) : Sem Next).run P w = .ok (.value cv) w' := by
  rw [Sem.run_bind, h]; rfl

theorem ev_nobox (T : Tm) (x : Operand) : ∀ cs, ev T x ≠ .box cs := by
  intro cs e
  cases x <;> simp only [ev] at e <;> try (cases e; done)
  · split at e
    · cases e
    · rename_i hnb; exact hnb _ e
  · rename_i v; have := ofV_VR (w := default) (O := fun _ => False) v; rw [e] at this; simp only [VR] at this

set_option maxHeartbeats 1000000 in
theorem pv_sound {o : Oper} {v : AV} (R : Rel E T G a w) (hd : ∀ d, o.dst = some d → d < E.n) (hv : pv P o.op T G = some v) (hk : k v T G) : o.wp P a w (Cont E o.dst k) Q := by
  unfold pv at hv
  split at hv
  · -- move
    rename_i x ho
    split at hv
    · cases hv
    · injection hv with hv; subst hv
      exact fin_value (by simp [execOp, ho]) R hd (ev_slot R x) (ev_nobox T x) hk
  · rename_i x ho
    split at hv
    · cases hv
    · injection hv with hv; subst hv
      exact fin_value (by simp [execOp, ho]) R hd (ev_slot R x) (ev_nobox T x) hk
  · -- pick
    rename_i c x y ho
    split at hv
    · rename_i t hc
      injection hv with hv; subst hv
      have hcv := ev_slot R c
      rw [hc] at hcv
      simp only [SlotR, VR] at hcv
      refine fin_value (cv := if t then a.eval x else a.eval y) (by simp [execOp, ho, hcv, asBool]) R hd ?_ ?_ hk
      · split
        · exact ev_slot R x
        · exact ev_slot R y
      · intro cs
        split
        · exact ev_nobox T x cs
        · exact ev_nobox T y cs
    · cases hv
  · -- alloc
    rename_i e ho
    split at hv
    · rename_i hok
      obtain ⟨i, d, h1, h2, hkd, heg, h3, h4, h5, h6, h7, hfl, h8⟩ := ti_ok hok
      rw [h8] at hv
      simp only [Option.map_eq_some_iff] at hv
      obtain ⟨zs, ⟨z, hz, rfl⟩, rfl⟩ := hv
      refine box_sound R hd (c := z.cells) (e := e) (ofVs_VRs _) hk ?_
      have hza : (zeroValue e).run P w = .ok z w := by simp [zeroValue, typeInfo, h1, hz]
      simp only [execOp, ho]
      refine run_v ?_
      simp only [Instr.alloc, Sem.run_bind, hza, Result.andThen_ok]
      rfl
    · cases hv
  · -- box
    rename_i e x ho
    split at hv
    · rename_i hkn
      injection hv with hv; subst hv
      have hx := ev_VR R (AV.known_plain hkn)
      refine box_sound R hd (c := (a.eval x).cells) (e := e) (VR_cells (AV.known_any hkn) hx) hk ?_
      simp only [execOp, ho]
      exact run_v rfl
    · cases hv
  · -- build
    rename_i t ps ho
    split at hv
    · rename_i hc
      simp only [Bool.and_eq_true, decide_eq_true_eq] at hc
      obtain ⟨hok, hkd⟩ := hc
      split at hv
      · rename_i fl zs hfl hz
        simp only [Option.map_eq_some_iff] at hv
        obtain ⟨cs, hcs, rfl⟩ := hv
        obtain ⟨i, d, h1, h2, hkd', heg, h3, h4, h5, h6, h7, hfl', h8⟩ := ti_ok hok
        rw [h8] at hz
        simp only [Option.map_eq_some_iff] at hz
        obtain ⟨z, hz, rfl⟩ := hz
        have hd' : ∃ fs, d = .struct fs := by
          rw [hkd'] at hkd
          cases d <;> first | exact ⟨_, rfl⟩ | (cases hkd)
        obtain ⟨fs, rfl⟩ := hd'
        rw [hfl'] at hfl
        have hplain := fillA_plain hcs
        have hpl : ∀ p ∈ ps.toList, (ev T p.2).plain = true := fun p hp => hplain (p.1, ev T p.2) (List.mem_map.2 ⟨p, hp, rfl⟩)
        obtain ⟨cells', hf, hr⟩ := fill_sound (fun i => fl[i]?) (ps.toList.map fun p => (p.1, ev T p.2)) (ps.toList.map fun p => (p.1, a.eval p.2)) _ cs z.cells hcs (ofVs_VRs _) (by simp) (parts_fit R ps.toList hpl)
        have hza : (zeroValue t).run P w = .ok z w := by simp [zeroValue, typeInfo, h1, hz]
        refine fin_VR (cv := .agg cells') ?_ R hd (by simp only [VR]; exact ⟨_, rfl, hr⟩) hk
        simp only [execOp, ho]
        refine run_v ?_
        have hm := fieldsM (P := P) (w := w) hfl
        have hf' : Instr.fill (fun x => fl.toArray[x]?) z.cells (ps.map fun (x : Nat × Operand) => (x.1, a.eval x.2)).toList = some cells' := by
          rw [map_fst]; simpa using hf
        simp only [Instr.build, Sem.run_bind, hza, Result.andThen_ok, run_underlying h2, hm, hf', Sem.run_pure]
      · cases hv
    · split at hv
      · rename_i hok
        split at hv
        · rename_i n0 e zs he hz
          split at hv
          · rename_i hoke
            simp only [Option.map_eq_some_iff] at hv
            obtain ⟨cs, hcs, rfl⟩ := hv
            obtain ⟨i, d, h1, h2, hkd', heg, h3, h4, h5, h6, h7, hfl', h8⟩ := ti_ok hok
            obtain ⟨ie, de, e1, e2, _, _, e3, _⟩ := ti_ok hoke
            rw [h8] at hz
            simp only [Option.map_eq_some_iff] at hz
            obtain ⟨z, hz, rfl⟩ := hz
            have hdt := kdD_arr (hkd' ▸ he); subst hdt
            rw [e3] at hcs
            have hplain := fillA_plain hcs
            have hpl : ∀ p ∈ ps.toList, (ev T p.2).plain = true := fun p hp => hplain (p.1, ev T p.2) (List.mem_map.2 ⟨p, hp, rfl⟩)
            obtain ⟨cells', hf, hr⟩ := fill_sound (fun j => some (j * ie.size, ie.size)) (ps.toList.map fun p => (p.1, ev T p.2)) (ps.toList.map fun p => (p.1, a.eval p.2)) _ cs z.cells hcs (ofVs_VRs _) (by simp) (parts_fit R ps.toList hpl)
            have hza : (zeroValue t).run P w = .ok z w := by simp [zeroValue, typeInfo, h1, hz]
            refine fin_VR (cv := .agg cells') ?_ R hd (by simp only [VR]; exact ⟨_, rfl, hr⟩) hk
            simp only [execOp, ho]
            refine run_v ?_
            have hf' : Instr.fill (fun j => some (j * ie.size, ie.size)) z.cells (ps.map fun (x : Nat × Operand) => (x.1, a.eval x.2)).toList = some cells' := by
              rw [map_fst]; simpa using hf
            simp only [Instr.build, Sem.run_bind, hza, Result.andThen_ok, run_underlying h2, run_sizeOf' e1, hf', Sem.run_pure]
          · cases hv
        · cases hv
      · cases hv
  · -- buildSlice
    rename_i t n ps ho
    split at hv
    · rename_i hok
      obtain ⟨it, dt, t1, t2, tkd, _⟩ := ti_ok hok
      split at hv
      · rename_i e he
        have hdt := kdD_slc (tkd ▸ he); subst hdt
        split at hv
        · rename_i hc
          simp only [Bool.and_eq_true, decide_eq_true_eq] at hc
          obtain ⟨⟨hoke, hnb⟩, hbig⟩ := hc
          obtain ⟨i, d, h1, h2, hkd, heg, h3, h4, h5, h6, h7, hfl, h8⟩ := ti_ok hoke
          split at hv
          · rename_i zs hz
            rw [h8] at hz
            simp only [Option.map_eq_some_iff] at hz
            obtain ⟨z, hz, rfl⟩ := hz
            have hza : (zeroValue e).run P w = .ok z w := by simp [zeroValue, typeInfo, h1, hz]
            have hbig' : ¬ n * i.size > 2 ^ 24 := by rw [← h3]; omega
            split at hv
            · rename_i hzl
              simp only [Option.map_eq_some_iff] at hv
              obtain ⟨cs, hcs, rfl⟩ := hv
              have hplain := fillA_plain hcs
              have hpl : ∀ p ∈ ps.toList, (ev T p.2).plain = true := fun p hp => hplain (p.1, ev T p.2) (List.mem_map.2 ⟨p, hp, rfl⟩)
              rw [h3] at hcs hzl
              simp only [List.length_map, Array.length_toList] at hzl
              have hz0 : n * i.size = 0 ∨ 0 < (z.cells.toList.map ofV).length := by
                simp only [List.length_map, Array.length_toList, hzl]
                rcases Nat.eq_zero_or_pos i.size with h | h
                · left; rw [h]; simp
                · exact .inr h
              have hzv := zerosA_VRs (w := w) (O := Own E.X G T a.tmps) (z := z.cells) (ofVs_VRs z.cells.toList) (n * i.size) hz0
              obtain ⟨cells', hf, hr⟩ := fill_sound (fun j => some (j * i.size, i.size)) (ps.toList.map fun p => (p.1, ev T p.2)) (ps.toList.map fun p => (p.1, a.eval p.2)) _ cs _ hcs hzv (by simp) (parts_fit R ps.toList hpl)
              have hzr : ((if n * i.size = 0 then pure #[] else do pure (← zeroValue e).cells : Sem (Array Value))).run P w = .ok (if n * i.size = 0 then #[] else z.cells) w := by
                split
                · rfl
                · simp [hza]
              have hsame : (Array.range (n * i.size)).map (fun j => (if n * i.size = 0 then #[] else z.cells)[j % (if n * i.size = 0 then (#[] : Array Value) else z.cells).size]!) = (Array.range (n * i.size)).map (fun j => z.cells[j % z.cells.size]!) := by
                split
                · rename_i h0; rw [h0, show Array.range 0 = #[] from rfl]; simp
                · rfl
              have hf' : Instr.fill (fun j => some (j * i.size, i.size)) ((Array.range (n * i.size)).map (fun j => z.cells[j % z.cells.size]!)) (ps.map fun (x : Nat × Operand) => (x.1, a.eval x.2)).toList = some cells' := by
                rw [map_fst]; exact hf
              have R' := R.alloc (.cells cells' e)
              refine fin_VR (cv := .slice (some ⟨w.heap.size, 0, none⟩) n n) ?_ R' hd ?_ hk
              · simp only [execOp, ho]
                refine run_v ?_
                by_cases h0 : n * i.size = 0
                · simp only [if_pos h0] at hsame
                  simp only [Instr.buildSlice, Sem.run_bind, run_underlying t2, Result.andThen_ok, run_sizeOf' h1, Sem.run_ite, if_neg hbig', if_pos h0, Sem.run_pure, hsame, hf']
                  rfl
                · simp only [Instr.buildSlice, Sem.run_bind, run_underlying t2, Result.andThen_ok, run_sizeOf' h1, Sem.run_ite, if_neg hbig', if_neg h0, hza, Sem.run_pure, hf']
                  rfl
              · simp only [VR]
                have hnl : n ≤ LIM := by unfold LIM; omega
                refine ⟨_, n, rfl, Nat.le_refl _, hnl, ?_⟩
                refine MR_of (vs := cells'.toList) R.fresh (by simp) (VRs_stab ?_ _ _ hr) ?_
                · exact ⟨fun b hb hlt => ⟨hb, heap_alloc_old w _ hlt⟩, by simp, fun b e' c' hs => by
                    have hb : b < w.heap.size := by
                      unfold World.shape? at hs
                      split at hs
                      · rename_i hh; exact (Array.getElem?_eq_some_iff.1 hh).1
                      · cases hs
                    unfold World.shape? at hs ⊢
                    rw [heap_alloc_old w _ hb]; exact hs⟩
                · intro j v hv
                  unfold World.cell?
                  simp only [heap_alloc_at, Option.isSome_none, Bool.false_eq_true, if_false, Nat.zero_add]
                  simpa using hv
            · cases hv
          · cases hv
        · cases hv
      · cases hv
    · cases hv
  · -- load
    rename_i t x ho
    split at hv
    · rename_i cs hm
      obtain ⟨cv, hrun, hr⟩ := load_sound R (ev_slot R x) hm hv
      exact fin_VR (by simp only [execOp, ho]; exact run_v hrun) R hd hr hk
    · cases hv
  · -- nilCheck
    rename_i x ho
    split at hv
    · rename_i hn
      injection hv with hv; subst hv
      have hsx := ev_slot R x
      have : ∃ cv, (execOp a.eval o).run P w = .ok (.value cv) w ∧ cv = a.eval x := by
        refine ⟨_, ?_, rfl⟩
        simp only [execOp, ho]
        generalize hq : ev T x = q at hn hsx
        cases q <;> simp only [nilA] at hn <;> try (cases hn; done)
        · simp only [SlotR, VR] at hsx; rw [hsx]; rfl
        · obtain ⟨b, h2, _⟩ := hsx
          rw [h2]; rfl
        · simp only [SlotR, VR] at hsx
          obtain ⟨a0, h1, _⟩ := hsx
          rw [h1]; rfl
        · simp only [SlotR, VR] at hsx
          obtain ⟨c, h1, _⟩ := hsx
          rw [h1]; rfl
      obtain ⟨cv, hrun, rfl⟩ := this
      exact fin_value hrun R hd hsx (ev_nobox T x) hk
    · cases hv
  · -- binOp
    rename_i op t x y ty ho
    split at hv
    · rename_i hc
      simp only [Bool.and_eq_true] at hc
      obtain ⟨h1, h2⟩ := bin_sound (P := P) hv (ev_VR R hc.1) (ev_VR R hc.2) x y
      exact fin_VR (by simp only [execOp, ho]; exact run_v h1) R hd (sv_VR h2) hk
    · cases hv
  · -- unOp
    rename_i op t x ho
    split at hv
    · rename_i hx
      obtain ⟨h1, h2⟩ := un_sound (P := P) (w := w) hv (ev_VR R hx)
      exact fin_VR (by simp only [execOp, ho]; exact run_v h1) R hd (sv_VR h2) hk
    · cases hv
  · -- convert
    rename_i s d x ho
    split at hv
    · rename_i hx
      obtain ⟨h1, h2⟩ := conv_sound R (ev_VR R hx) hv
      exact fin_VR (by simp only [execOp, ho]; exact run_v h1) R hd (sv_VR h2) hk
    · cases hv
  · -- makeFunc
    rename_i f first caps ho
    split at hv
    · rename_i hc
      simp only [Bool.and_eq_true, Array.isEmpty_iff] at hc
      obtain ⟨rfl, hp⟩ := hc
      injection hv with hv; subst hv
      refine fin_VR (cv := .func (.func f) #[] (caps.map a.eval)) (by simp [execOp, ho, Instr.makeFunc]) R hd ?_ hk
      simp only [VR]
      exact ⟨_, rfl, by simpa using evs_VR R caps.toList hp⟩
    · cases hv
  · -- makeSlice
    rename_i t l c ho
    split at hv
    · rename_i hok
      obtain ⟨it, dt, t1, t2, tkd, _⟩ := ti_ok hok
      split at hv
      · rename_i e k1 n k2 m he hl hc
        split at hv
        · rename_i hcond
          obtain ⟨rfl, h0, hoke, hlim, hby⟩ := hcond
          have hdt := kdD_slc (tkd ▸ he); subst hdt
          obtain ⟨i, d, h1, h2, hkd, heg, h3, h4, h5, h6, h7, hfl, h8⟩ := ti_ok hoke
          have hlv := ev_slot R l
          have hcv := ev_slot R c
          rw [hl] at hlv; rw [hc] at hcv
          simp only [SlotR, VR] at hlv hcv
          split at hv
          · rename_i zs hz
            rw [h8] at hz
            simp only [Option.map_eq_some_iff] at hz
            obtain ⟨z, hz, rfl⟩ := hz
            split at hv
            · rename_i hzl
              injection hv with hv; subst hv
              rw [h4] at hby
              rw [h3] at hk hzl
              have hb2 : (i.bytes : Int) * n ≤ 281474976710656 := by
                have : (n.toNat : Int) = n := Int.toNat_of_nonneg h0
                rw [← this, Int.mul_comm]
                have : n.toNat * i.bytes ≤ 281474976710656 := by unfold LIM at hby; omega
                have h' := Int.ofNat_le.2 this
                rw [Int.natCast_mul] at h'
                exact h'
              have hrun := run_make (P := P) w t e i z t2 h1 hz k1 k2 n n h0 (Int.le_refl _) hb2 (by unfold LIM at hlim; omega)
              have hzv := zerosA_VRs (w := w) (O := Own E.X G T a.tmps) (z := z.cells) (ofVs_VRs z.cells.toList) (n.toNat * i.size) (by
                rw [hzl]
                rcases Nat.eq_zero_or_pos i.size with h | h
                · left; rw [h]; simp
                · exact .inr h)
              have R' := R.alloc (.cells (madeCells z.cells (n.toNat * i.size)) e)
              refine fin_VR (cv := .slice (some ⟨w.heap.size, 0, none⟩) n.toNat n.toNat) ?_ R' hd ?_ hk
              · simp only [execOp, ho, hlv, hcv]
                exact run_v hrun
              · simp only [VR]
                refine ⟨_, n.toNat, rfl, Nat.le_refl _, hlim, ?_⟩
                refine MR_of (vs := (madeCells z.cells (n.toNat * i.size)).toList) R.fresh (by simp) (VRs_stab ?_ _ _ hzv) ?_
                · exact ⟨fun b hb hlt => ⟨hb, heap_alloc_old w _ hlt⟩, by simp, fun b e' c' hs => by
                    have hb : b < w.heap.size := by
                      unfold World.shape? at hs
                      split at hs
                      · rename_i hh; exact (Array.getElem?_eq_some_iff.1 hh).1
                      · cases hs
                    unfold World.shape? at hs ⊢
                    rw [heap_alloc_old w _ hb]; exact hs⟩
                · intro j v hv
                  unfold World.cell?
                  simp only [heap_alloc_at, Option.isSome_none, Bool.false_eq_true, if_false, Nat.zero_add]
                  simpa using hv
            · cases hv
          · cases hv
        · cases hv
      · cases hv
    · cases hv
  · -- slice
    rename_i t x lo hi ho
    split at hv
    · rename_i hc
      simp only [Bool.and_eq_true] at hc
      obtain ⟨⟨hx, hlo⟩, hhi⟩ := hc
      have opt : ∀ y : Option Operand, (y.all fun y => (ev T y).plain) = true → match y.map (ev T), y.map a.eval with | none, none => True | some x, some v => VR w (Own E.X G T a.tmps) x v | _, _ => False := by
        intro y hy
        cases y with
        | none => trivial
        | some y => exact ev_VR R (by simpa using hy)
      unfold aslc at hv
      split at hv
      · rename_i hok
        split at hv
        · rename_i hkd
          split at hv
          · rename_i s hs
            have hxv := ev_VR R hx
            rw [hs] at hxv
            obtain ⟨cv, hrun, hr⟩ := slcA_sound (P := P) (t := t) (e := t) hok hxv (opt lo hlo) (opt hi hhi) (.inl hkd) (fun _ => ⟨s, rfl⟩) (fun _ _ => hkd) hv
            exact fin_VR (by simp only [execOp, ho, Option.map_none]; exact run_v hrun) R hd hr hk
          · cases hv
        · rename_i e hkd
          split at hv
          · rename_i hoke
            split at hv
            · cases hv
            · rename_i hns
              have hxv := ev_VR R hx
              obtain ⟨cv, hrun, hr⟩ := slcA_sound (P := P) (t := t) (e := e) hok hxv (opt lo hlo) (opt hi hhi) (.inr ⟨hkd, hoke⟩) (fun h => by rw [hkd] at h; cases h) (fun s hs => absurd hs (hns s)) hv
              exact fin_VR (by simp only [execOp, ho, Option.map_none]; exact run_v hrun) R hd hr hk
          · cases hv
        · cases hv
      · cases hv
    · cases hv
  · -- fieldAddr
    rename_i s x f ho
    unfold fldA at hv
    split at hv
    · rename_i off hok hoff
      obtain ⟨i, d, h1, h2, hkd, heg, h3, h4, h5, h6, h7, hfl, h8⟩ := ti_ok hok
      rw [h7] at hoff
      have hd' : ∃ fs : Array Field, d = .struct fs ∧ ∃ fd j, fs[f]? = some fd ∧ P.info? fd.type = some j ∧ j.size ≠ 0 ∧ fd.offset = off := by
        cases d <;> simp only [offsD] at hoff <;> try (simp at hoff; done)
        rename_i fs
        refine ⟨fs, rfl, ?_⟩
        simp only [List.getElem?_map, Option.map_eq_some_iff] at hoff
        obtain ⟨fd, hfd, ho2⟩ := hoff
        split at ho2
        · rename_i j hj
          split at ho2
          · cases ho2
          · rename_i hne
            injection ho2 with ho2
            exact ⟨fd, j, by simpa using hfd, hj, hne, ho2⟩
        · cases ho2
      obtain ⟨fs, rfl, fd, j, hfd, hj, hne, hfo⟩ := hd'
      have run : ∀ a0 : Addr, a.eval x = .pointer (some a0) → (execOp a.eval o).run P w = .ok (.value (.pointer (some (a0.add off)))) w := by
        intro a0 ha
        simp only [execOp, ho, ha]
        refine run_v ?_
        simp only [Instr.fieldAt, Sem.run_bind, run_underlying h2, Result.andThen_ok, hfd, Instr.sureAddr, Sem.run_pure, fieldPlace, run_sizeOf' hj, if_neg hne, hfo]
      have hsx := ev_slot R x
      generalize hq : ev T x = q at hv hsx
      cases q <;> simp only at hv <;> try (cases hv; done)
      · injection hv with hv; subst hv
        simp only [SlotR, VR] at hsx
        refine fin_VR (run _ hsx) R hd ?_ hk
        simp only [VR, add_none]
      · injection hv with hv; subst hv
        obtain ⟨b, h9, h10⟩ := hsx
        refine fin_value (run _ h9) R hd ?_ (fun cs e => by cases e) hk
        exact ⟨b, by rw [add_none], h10⟩
      · injection hv with hv; subst hv
        simp only [SlotR, VR] at hsx
        obtain ⟨a0, h9, h10⟩ := hsx
        refine fin_VR (run _ h9) R hd ?_ hk
        simp only [VR]
        exact ⟨_, rfl, MR_shift (by simpa using MR_drop off h10)⟩
    · cases hv
  · -- field
    rename_i t x f ho
    split at hv
    · rename_i hx
      unfold fieldA at hv
      split at hv
      · rename_i fs hu
        split at hv
        · rename_i fd cs hfd hcs
          have hxv := ev_VR R hx
          rw [hcs] at hxv
          simp only [VR] at hxv
          obtain ⟨c, h1, h2⟩ := hxv
          obtain ⟨cv, hrun, hr⟩ := part_sound (P := P) hv h2
          refine fin_VR (cv := cv) ?_ R hd hr hk
          simp only [execOp, ho, h1]
          refine run_v ?_
          simp only [Instr.field, Sem.run_bind, run_underlying hu, Result.andThen_ok, hfd, asAgg, Sem.run_pure, hrun]
        · cases hv
      · cases hv
    · cases hv
  · -- indexAddr
    rename_i t x ix ho
    split at hv
    · rename_i hc
      simp only [Bool.and_eq_true] at hc
      obtain ⟨hx0, hix⟩ := hc
      unfold idxA at hv
      split at hv
      · rename_i hok
        obtain ⟨it, dt, t1, t2, tkd, _⟩ := ti_ok hok
        split at hv
        · rename_i e k0 i0 he hi
          split at hv
          · rename_i hoke
            obtain ⟨i, d, h1, h2, hkd, heg, h3, h4, h5, h6, h7, hfl, h8⟩ := ti_ok hoke
            have hdt := kdD_slc (tkd ▸ he); subst hdt
            have hiv := ev_VR R hix
            rw [hi] at hiv; simp only [VR] at hiv
            have hx : (ev T x).plain = true := by
              cases hl : locB (ev T x) with
              | false => rw [hl] at hx0; simpa using hx0
              | true =>
                generalize ev T x = q at hv hl
                cases q <;> simp only [locB] at hl <;> try (cases hl; done)
                cases hv
            have hxv := ev_VR R hx
            have run : ∀ (a0 : Addr) (n cap : Nat), a.eval x = .slice (some a0) n cap → 0 ≤ i0 ∧ i0 < n → (execOp a.eval o).run P w = .ok (.value (.pointer (some (a0.add (i0.toNat * i.size))))) w := by
              intro a0 n cap ha hb
              simp only [execOp, ho, ha, hiv]
              refine run_v ?_
              simp only [Instr.indexAt, asIntOf, Sem.run_bind, Sem.run_pure, Result.andThen_ok, run_underlying t2]
              simp only [hb, and_self, if_true, Sem.run_bind, run_sizeOf' h1, Result.andThen_ok, Sem.run_pure]
            generalize ev T x = q at hv hxv
            cases q <;> simp only at hv <;> try (cases hv; done)
            · split at hv
              · rename_i hb
                injection hv with hv; subst hv
                simp only [VR] at hxv
                obtain ⟨a0, cap, h9, _, _, h10⟩ := hxv
                refine fin_VR (run _ _ _ h9 hb) R hd ?_ hk
                simp only [VR]
                rw [h3]
                exact ⟨_, rfl, MR_take _ (MR_shift (by simpa using MR_drop (i0.toNat * i.size) h10))⟩
              · cases hv
            · split at hv
              · rename_i hb
                injection hv with hv; subst hv
                simp only [VR] at hxv
                obtain ⟨cap, h9, _⟩ := hxv
                refine fin_VR (run _ _ _ h9 ⟨hb.1, hb.2.1⟩) R hd ?_ hk
                simp only [VR, add_none, h3]
              · cases hv
          · cases hv
        · rename_i n0 e k0 i0 he hi
          split at hv
          · rename_i hoke
            obtain ⟨i, d, h1, h2, hkd, heg, h3, h4, h5, h6, h7, hfl, h8⟩ := ti_ok hoke
            have hdt := kdD_arr (tkd ▸ he); subst hdt
            have hiv := ev_VR R hix
            rw [hi] at hiv; simp only [VR] at hiv
            have hsx := ev_slot R x
            have run : ∀ (a0 : Addr), a.eval x = .pointer (some a0) → 0 ≤ i0 ∧ i0 < n0 → (execOp a.eval o).run P w = .ok (.value (.pointer (some (a0.add (i0.toNat * i.size))))) w := by
              intro a0 ha hb
              simp only [execOp, ho, ha, hiv]
              refine run_v ?_
              simp only [Instr.indexAt, asIntOf, Sem.run_bind, Sem.run_pure, Result.andThen_ok, run_underlying t2, Instr.sureAddr]
              simp only [hb, and_self, if_true, Sem.run_bind, run_sizeOf' h1, Result.andThen_ok, Sem.run_pure]
            generalize ev T x = q at hv hsx
            cases q <;> simp only at hv <;> try (cases hv; done)
            · split at hv
              · rename_i hb
                injection hv with hv; subst hv
                simp only [SlotR, VR] at hsx
                refine fin_VR (run _ hsx hb) R hd ?_ hk
                simp only [VR, add_none, h3]
              · cases hv
            · split at hv
              · rename_i hb
                injection hv with hv; subst hv
                obtain ⟨b, h9, h10⟩ := hsx
                refine fin_value (run _ h9 hb) R hd ?_ (fun cs e => by cases e) hk
                exact ⟨b, by rw [add_none, h3], h10⟩
              · cases hv
            · split at hv
              · rename_i hb
                injection hv with hv; subst hv
                simp only [SlotR, VR] at hsx
                obtain ⟨a0, h9, h10⟩ := hsx
                refine fin_VR (run _ h9 hb) R hd ?_ hk
                simp only [VR]
                rw [h3]
                exact ⟨_, rfl, MR_take _ (MR_shift (by simpa using MR_drop (i0.toNat * i.size) h10))⟩
              · cases hv
          · cases hv
        · cases hv
      · cases hv
    · cases hv
  · -- index
    rename_i t x ix ho
    split at hv
    · rename_i hc
      simp only [Bool.and_eq_true] at hc
      obtain ⟨hx, hix⟩ := hc
      unfold atA at hv
      split at hv
      · rename_i hok
        obtain ⟨it, dt, t1, t2, tkd, _⟩ := ti_ok hok
        split at hv
        · rename_i s k0 i0 hkd hs hi
          have hdt := kdD_str (tkd ▸ hkd); subst hdt
          split at hv
          · rename_i h0
            split at hv
            · rename_i b hb
              injection hv with hv; subst hv
              have hiv := ev_VR R hix
              rw [hi] at hiv; simp only [VR] at hiv
              have hxv := ev_VR R hx
              rw [hs] at hxv; simp only [VR] at hxv
              refine fin_VR (cv := .int .u8 b.toNat) ?_ R hd (by simp only [VR]) hk
              simp only [execOp, ho, hiv, hxv.1]
              refine run_v ?_
              simp only [Instr.index, asIntOf, Sem.run_bind, Sem.run_pure, Result.andThen_ok, run_underlying t2, if_pos h0, hb]
            · cases hv
          · cases hv
        · rename_i n0 e cs k0 i0 hkd hs hi
          have hdt := kdD_arr (tkd ▸ hkd); subst hdt
          split at hv
          · rename_i h0
            have hoke : (ti P e).ok = true := by unfold partA at hv; split at hv; assumption; cases hv
            obtain ⟨i, d, h1, h2, _, _, h3, _⟩ := ti_ok hoke
            have hiv := ev_VR R hix
            rw [hi] at hiv; simp only [VR] at hiv
            have hxv := ev_VR R hx
            rw [hs] at hxv; simp only [VR] at hxv
            obtain ⟨c, g1, g2⟩ := hxv
            obtain ⟨cv, hrun, hr⟩ := part_sound (P := P) hv g2
            refine fin_VR (cv := cv) ?_ R hd hr hk
            simp only [execOp, ho, g1, hiv]
            refine run_v ?_
            rw [h3] at hrun
            simp only [Instr.index, asIntOf, Sem.run_bind, Sem.run_pure, Result.andThen_ok, run_underlying t2, if_pos h0, run_sizeOf' h1]
            exact hrun
          · cases hv
        · cases hv
      · cases hv
    · cases hv
  · -- extract
    rename_i x i ho
    split at hv
    · rename_i vs hx
      have hxv := ev_slot R x
      rw [hx] at hxv
      simp only [SlotR, VR] at hxv
      obtain ⟨c, h1, h2⟩ := hxv
      obtain ⟨cv, h3, h4⟩ := VRs_get i v h2 hv
      refine fin_VR (cv := cv) ?_ R hd h4 hk
      simp only [execOp, ho, h1]
      refine run_v ?_
      have : c[i]? = some cv := by simpa using h3
      simp only [Instr.extract, this, Sem.run_pure]
    · cases hv
  · -- builtins
    rename_i c ho
    split at hv
    · rename_i b hc
      split at hv
      · rename_i hp
        have hargs := evs_VR R c.args.toList hp
        have hall : VRs w (Own E.X G T a.tmps) (c.args.toList.map (ev T)) (c.args.map a.eval).toList := by simpa using hargs
        obtain ⟨hrun, hsm⟩ := bval_sound (P := P) (ts := c.argTypes) (ty := o.type) (consts := c.args.map fun | .const _ => true | _ => false) hall hv
        refine fin_VR ?_ R hd (sv_VR hsm) hk
        simp only [execOp, ho, resolve, hc, Sem.run_bind, Sem.run_pure, Result.andThen_ok, invoke]
        exact hrun
      · cases hv
    · cases hv
  · cases hv

theorem VR_plain {w : World} {O : Nat → Prop} {v : AV} {cv : Value} (h : VR w O v cv) : v.plain = true := by
  cases v <;> first | rfl | (simp only [VR] at h)

theorem fin_VRp {o : Oper} {cv : Value} {w' : World} {T' : Tm} {G' : Hp} {v : AV} (hrun : (execOp a.eval o).run P w = .ok (.value cv) w') (R' : Rel E T' G' a w') (hd : ∀ d, o.dst = some d → d < E.n)
    (hv : VR w' (Own E.X G' T' a.tmps) v cv) (hk : k v T' G') : o.wp P a w (Cont E o.dst fun v T G => v.plain = true ∧ k v T G) Q :=
  fin_value hrun R' hd hv.slot (VR_nobox hv) ⟨VR_plain hv, hk⟩

theorem own_soundp {o : Oper} (R : Rel E T G a w) (hd : ∀ d, o.dst = some d → d < E.n) {cs : List AV} {c : Array Value} {e : TypeId} (hv : VRs w (Own E.X G T a.tmps) cs c.toList)
    (hk : ∀ b, G b = none → ∃ _u : Unit, k (.ptr b 0) T (setH G b (some (0, cs))))
    (hrun : (execOp a.eval o).run P w = .ok (.value (.pointer (some ⟨w.heap.size, 0, none⟩))) (w.alloc (.cells c e))) : o.wp P a w (Cont E o.dst fun v T G => v.plain = true ∧ k v T G) Q := by
  obtain ⟨_, hk⟩ := hk _ R.none_fresh
  refine fin_VRp hrun (R.own c e 0 cs c.toList [] (by simp) hv) hd ?_ hk
  simp only [VR]

set_option maxHeartbeats 1000000 in
theorem eop_sound {o : Oper} (R : Rel E T G a w) (hd : ∀ d, o.dst = some d → d < E.n) (h : eop P o.dst o.op T G k) : o.wp P a w (Cont E o.dst fun v T G => v.plain = true ∧ k v T G) Q := by
  unfold eop at h
  split at h
  · -- store
    rename_i t x y ho
    obtain ⟨hdst, hkn, hsc, hok, hsz, h⟩ := h
    split at h
    · rename_i T' G' hm
      obtain ⟨w', hrun, R'⟩ := store_sound R (ev_slot R x) (ev_VR R (AV.known_plain hkn)) (AV.known_any hkn) hsc hok hsz hm
      unfold Oper.wp
      have : (execOp a.eval o).run P w = .ok .skip w' := by simp only [execOp, ho, Sem.run_bind, hrun, Result.andThen_ok, Sem.run_pure]
      rw [this]
      refine ⟨.any, T', G', ?_, rfl, h⟩
      rw [hdst]; exact R'
    · exact h.elim
  · -- alloc
    rename_i e ho
    obtain ⟨hok, h⟩ := h
    split at h
    · rename_i zs hz
      obtain ⟨i, d, h1, h2, hkd, heg, h3, h4, h5, h6, h7, hfl, h8⟩ := ti_ok hok
      rw [h8] at hz
      simp only [Option.map_eq_some_iff] at hz
      obtain ⟨z, hz, rfl⟩ := hz
      refine own_soundp R hd (c := z.cells) (e := e) (ofVs_VRs _) h ?_
      have hza : (zeroValue e).run P w = .ok z w := by simp [zeroValue, typeInfo, h1, hz]
      simp only [execOp, ho]
      refine run_v ?_
      simp only [Instr.alloc, Sem.run_bind, hza, Result.andThen_ok]
      rfl
    · exact h.elim
  · -- box
    rename_i e x ho
    obtain ⟨hkn, h⟩ := h
    have hx := ev_VR R (AV.known_plain hkn)
    refine own_soundp R hd (c := (a.eval x).cells) (e := e) (VR_cells (AV.known_any hkn) hx) h ?_
    simp only [execOp, ho]
    exact run_v rfl
  · -- buildSlice
    rename_i t n ps ho
    obtain ⟨rfl, rfl, hok, h⟩ := h
    obtain ⟨it, dt, t1, t2, tkd, _⟩ := ti_ok hok
    split at h
    · rename_i e he
      obtain ⟨hoke, hz, h⟩ := h
      have hdt := kdD_slc (tkd ▸ he); subst hdt
      obtain ⟨i, d, h1, h2, hkd, heg, h3, h4, h5, h6, h7, hfl, h8⟩ := ti_ok hoke
      obtain ⟨_, hk⟩ := h _ R.none_fresh
      refine fin_VRp (cv := .slice (some ⟨w.heap.size, 0, none⟩) 0 0) ?_ (R.own #[] e 0 [] [] [] (by simp) (by simp [VRs])) hd ?_ hk
      · simp only [execOp, ho]
        refine run_v ?_
        simp only [Instr.buildSlice, Sem.run_bind, run_underlying t2, Result.andThen_ok, run_sizeOf' h1]
        simp [Instr.fill, newRow, newObj, Sem.run]
        rw [show Array.range 0 = #[] from rfl]; simp
      · simp only [VR]
        refine ⟨0, rfl, Nat.le_refl _, Nat.zero_le _, e, 0, ?_, by simp⟩
        unfold World.shape?
        rw [heap_alloc_at]; rfl
    · exact h.elim
  · -- makeSlice
    rename_i t l c ho
    obtain ⟨hok, h⟩ := h
    obtain ⟨it, dt, t1, t2, tkd, _⟩ := ti_ok hok
    split at h
    · rename_i e k1 n k2 m he hl hc
      obtain ⟨rfl, h0, hoke, hlim, hby, h⟩ := h
      have hdt := kdD_slc (tkd ▸ he); subst hdt
      obtain ⟨i, d, h1, h2, hkd, heg, h3, h4, h5, h6, h7, hfl, h8⟩ := ti_ok hoke
      have hlv := ev_slot R l
      have hcv := ev_slot R c
      rw [hl] at hlv; rw [hc] at hcv
      simp only [SlotR, VR] at hlv hcv
      split at h
      · rename_i zs hz
        obtain ⟨hzl, h⟩ := h
        rw [h8] at hz
        simp only [Option.map_eq_some_iff] at hz
        obtain ⟨z, hz, rfl⟩ := hz
        have hfree : G w.heap.size = none := by
          cases hg : G w.heap.size with
          | none => rfl
          | some q => exact absurd (.inr (.inl (by rw [hg]; simp))) R.fresh
        obtain ⟨_, hk⟩ := h _ hfree
        rw [h4] at hby
        rw [h3] at hk hzl
        have hb2 : (i.bytes : Int) * n ≤ 281474976710656 := by
          have : (n.toNat : Int) = n := Int.toNat_of_nonneg h0
          rw [← this, Int.mul_comm]
          have : n.toNat * i.bytes ≤ 281474976710656 := by unfold LIM at hby; omega
          have h' := Int.ofNat_le.2 this
          rw [Int.natCast_mul] at h'
          exact h'
        have hrun := run_make (P := P) w t e i z t2 h1 hz k1 k2 n n h0 (Int.le_refl _) hb2 (by unfold LIM at hlim; omega)
        have hzv := zerosA_VRs (w := w) (O := Own E.X G T a.tmps) (z := z.cells) (ofVs_VRs z.cells.toList) (n.toNat * i.size) (by
          rw [hzl]
          rcases Nat.eq_zero_or_pos i.size with h | h
          · left; rw [h]; simp
          · exact .inr h)
        refine fin_VRp (cv := .slice (some ⟨w.heap.size, 0, none⟩) n.toNat n.toNat) (w' := w.alloc (.cells (madeCells z.cells (n.toNat * i.size)) e)) ?_ (R.own _ e 0 _ (madeCells z.cells (n.toNat * i.size)).toList [] (by simp) hzv) hd ?_ hk
        · simp only [execOp, ho, hlv, hcv]
          exact run_v hrun
        · simp only [VR]
          refine ⟨n.toNat, rfl, Nat.le_refl _, hlim, e, n.toNat * i.size, ?_, by simp⟩
          unfold World.shape?
          rw [heap_alloc_at]
          simp [size_madeCells]
      · exact h.elim
    · exact h.elim
  · -- call
    rename_i c ho
    split at h
    · rename_i f hc
      split at h
      · rename_i g caps hf
        obtain ⟨hcl, hp, hA⟩ := h
        have hfv := ev_slot R f
        rw [hf] at hfv
        simp only [SlotR, VR] at hfv
        obtain ⟨cc, h1, h2⟩ := hfv
        have hargs := evs_VR R c.args.toList hp
        have hall : VRs w (Own E.X G T a.tmps) (c.args.toList.map (ev T) ++ caps) (c.args.map a.eval ++ cc).toList := by
          simpa using VRs_append hargs h2
        have hcalls := R.enter hall hA
        have hrun : (execOp a.eval o).run P w = .ok (.enter g (c.args.map a.eval ++ cc)) w := by
          simp only [execOp, ho, resolve, hc, h1, Deferred.ofValue, Sem.run_bind, Sem.run_pure, Result.andThen_ok, invoke]
          have := run_callFunc (w := w) hcl (c.args.map a.eval ++ cc)
          simpa using this
        unfold Oper.wp
        rw [hrun, Oper.upon_enter]
        refine Calls.mono hcalls ?_
        rintro e w' ⟨r, cr, G', rfl, R', hr, hk⟩
        exact ⟨r, T, G', R'.putO hd hr.slot (VR_nobox hr), VR_plain hr, hk⟩
      · exact h.elim
    · rename_i hc
      obtain ⟨hp, h⟩ := h
      have hargs := evs_VR R c.args.toList hp
      have hall : VRs w (Own E.X G T a.tmps) (c.args.toList.map (ev T)) (c.args.map a.eval).toList := by simpa using hargs
      obtain ⟨cv, w', v, G', hrun, R', hr, hk⟩ := aappB_sound (ty := o.type) R hall h
      refine fin_VRp ?_ R' hd hr hk
      simp only [execOp, ho, resolve, hc, Sem.run_bind, Sem.run_pure, Result.andThen_ok, invoke]
      simp [builtin, hrun]
    · exact h.elim
  · exact h.elim

theorem Cont.mono {dst : Option Nat} {k k' : AV → Tm → Hp → Prop} (hk : ∀ v T G, k v T G → k' v T G) {a : Act} {w : World} (h : Cont E dst k a w) : Cont E dst k' a w := by
  obtain ⟨v, T, G, R, q⟩ := h
  exact ⟨v, T, G, R, hk _ _ _ q⟩

end

end Go.Al

set_option linter.unusedVariables false
set_option linter.unusedSimpArgs false
namespace Go.Al
open Go

/-- an operation, with what the logic looks at -/
structure CO where
  dst : Option Nat
  g : Option (Nat × Bool)
  op : Op

def co (ops : Array Oper) (o : Oper) : Option CO :=
  match o.guard with
  | none => some ⟨o.dst, none, o.op⟩
  | some (j, want) => match (ops[j]?).bind (·.dst) with
    | some d => some ⟨o.dst, some (d, want), o.op⟩
    | none => none

theorem co_eq {ops : Array Oper} {o : Oper} {c : CO} (h : co ops o = some c) : c.dst = o.dst ∧ c.op = o.op := by
  unfold co at h
  split at h
  · injection h with h; subst h; exact ⟨rfl, rfl⟩
  · split at h
    · injection h with h; subst h; exact ⟨rfl, rfl⟩
    · cases h

/-- is it wanted? -/
def gd (T : Tm) (g : Option (Nat × Bool)) : Option Bool :=
  match g with
  | none => some true
  | some (d, want) => match T d with
    | .bool b => some (b == want)
    | .tup [] => some false
    | _ => none

theorem getD_bool {tm : Array Value} {d : Nat} {b : Bool} (h : tm.getD d undef = .bool b) : tm[d]? = some (.bool b) := by
  rw [Array.getD_eq_getD_getElem?] at h
  cases hq : tm[d]? with
  | none => rw [hq] at h; simp [undef] at h
  | some v => rw [hq] at h; simpa using h

theorem gd_sound {E : En} {T : Tm} {G : Hp} {a : Act} {w : World} (R : Rel E T G a w) {ops : Array Oper} {o : Oper} {c : CO} (hc : co ops o = some c) {b : Bool} (h : gd T c.g = some b) : Region.wanted o (yielded ops a.tmps) = b := by
  unfold co at hc
  split at hc
  · rename_i hg
    injection hc with hc; subst hc
    simp only [gd, Option.some.injEq] at h
    simp [Region.wanted, hg, h]
  · rename_i j want hg
    split at hc
    · rename_i d hd
      injection hc with hc; subst hc
      simp only [gd] at h
      have hs := R.slot d
      split at h
      · rename_i b' hb
        injection h with h; subst h
        rw [show get T d = _ from hb] at hs
        simp only [SlotR, VR] at hs
        have := getD_bool hs
        unfold Region.wanted
        rw [hg]
        simp only [yielded, hd, Option.bind_some, this]
        cases b' <;> cases want <;> rfl
      · rename_i hb
        injection h with h; subst h
        rw [show get T d = _ from hb] at hs
        simp only [SlotR, VR, VRs] at hs
        obtain ⟨x, h1, h2⟩ := hs
        unfold Region.wanted
        rw [hg]
        simp only [yielded, hd, Option.bind_some]
        rw [Array.getD_eq_getD_getElem?] at h1
        cases hq : a.tmps[d]? with
        | none => simp
        | some v => rw [hq] at h1; simp at h1; subst h1; simp
      · cases h
    · cases hc

theorem Rel.skip {E : En} {T : Tm} {G : Hp} {a : Act} {w : World} (R : Rel E T G a w) {dst : Option Nat} (hd : ∀ d, dst = some d → d < E.n) : Rel E (putT T dst (.tup [])) G (a.put dst undef) w :=
  R.putO hd (by simp only [SlotR, VR]; exact ⟨#[], rfl, by simp [VRs]⟩) (fun cs e => by cases e)

/-! ### a region in the text's order -/
def aops (P : Program) (gl : List Nat) : List CO → (Tm → Hp → Prop) → Tm → Hp → Prop
  | [], k, T, G => k T G
  | c :: r, k, T, G => match gd T c.g with
    | some true => match isE gl c.dst c.op with
      | true => eop P c.dst c.op T G fun v T' G' => aops P gl r k (putT T' c.dst v) G'
      | false => match pv P c.op T G with
        | some v => aops P gl r k (putT T c.dst v) G
        | none => False
    | some false => aops P gl r k (putT T c.dst (.tup [])) G
    | none => False

/-- what follows an operation -/
def EK (P : Program) (gl : List Nat) (r : List CO) (k : Tm → Hp → Prop) (dst : Option Nat) (v : AV) (T : Tm) (G : Hp) : Prop := aops P gl r k (putT T dst v) G

theorem aops_nil (P : Program) (gl : List Nat) (k : Tm → Hp → Prop) (T : Tm) (G : Hp) : aops P gl [] k T G = k T G := nrfl rfl
theorem aops_cons (P : Program) (gl : List Nat) (dst : Option Nat) (g : Option (Nat × Bool)) (op : Op) (r : List CO) (k : Tm → Hp → Prop) (T : Tm) (G : Hp) : aops P gl (⟨dst, g, op⟩ :: r) k T G = match gd T g with
    | some true => match isE gl dst op with
      | true => eop P dst op T G (EK P gl r k dst)
      | false => match pv P op T G with
        | some v => aops P gl r k (putT T dst v) G
        | none => False
    | some false => aops P gl r k (putT T dst (.tup [])) G
    | none => False := rfl
theorem EK_app (P : Program) (gl : List Nat) (r : List CO) (k : Tm → Hp → Prop) (dst : Option Nat) (v : AV) (T : Tm) (G : Hp) : EK P gl r k dst v T G = aops P gl r k (putT T dst v) G := nrfl rfl

def dstOk (n : Nat) (c : CO) : Bool := c.dst.all fun d => decide (d < n)

theorem dstOk_lt {n : Nat} {c : CO} (h : dstOk n c = true) : ∀ d, c.dst = some d → d < n := by
  intro d hd; unfold dstOk at h; rw [hd] at h; simpa using h

theorem aops_sound {P : Program} {gl : List Nat} {E : En} {ops : Array Oper} {Q : Exit → Act → World → Prop} {k : Tm → Hp → Prop} (hQ : ∀ T G a w, Rel E T G a w → k T G → Q .normal a w) :
    ∀ (l : List Oper) (cs : List CO), (l.mapM (co ops)) = some cs → cs.all (dstOk E.n) = true → ∀ {T : Tm} {G : Hp} {a : Act} {w : World}, Rel E T G a w → aops P gl cs k T G → wpList P ops Q l a w := by
  intro l
  induction l with
  | nil =>
    intro cs h _ T G a w R ha
    simp at h; subst h
    exact wpList_nil (hQ _ _ _ _ R ha)
  | cons o l ih =>
    intro cs h hok T G a w R ha
    simp only [List.mapM_cons, Option.bind_eq_bind, Option.bind_eq_some_iff] at h
    obtain ⟨c, hc, cs', hcs, h⟩ := h
    simp only [Option.pure_def, Option.some.injEq] at h; subst h
    simp only [List.all_cons, Bool.and_eq_true] at hok
    obtain ⟨e1, e2⟩ := co_eq hc
    have hd := dstOk_lt hok.1
    simp only [aops] at ha
    refine wpList_step fun K hK => ?_
    cases hg : gd T c.g with
    | none => rw [hg] at ha; exact ha.elim
    | some b =>
      rw [hg] at ha
      have hw := gd_sound R hc hg
      cases b with
      | true =>
        rw [if_pos (by rw [hw])]
        rw [e1, e2] at ha
        simp only at ha
        have hd' : ∀ d, o.dst = some d → d < E.n := fun d h => hd d (e1.trans h)
        split at ha
        · refine Oper.wp_mono (fun a' w' h => ?_) (eop_sound (Q := Q) R hd' ha)
          obtain ⟨v, T', G', R', _, hk⟩ := h
          exact hK _ _ (ih cs' hcs hok.2 R' hk)
        · split at ha
          · rename_i v hv
            refine Oper.wp_mono (fun a' w' h => ?_) (pv_sound (Q := Q) (k := fun v T G => aops P gl cs' k (putT T o.dst v) G) R hd' hv ha)
            obtain ⟨v, T', G', R', hk⟩ := h
            exact hK _ _ (ih cs' hcs hok.2 R' hk)
          · exact ha.elim
      | false =>
        rw [if_neg (by rw [hw]; simp)]
        simp only at ha
        refine hK _ _ (ih cs' hcs hok.2 ?_ ha)
        rw [← e1]
        exact R.skip hd

theorem goes_region {P : Program} {gl : List Nat} {E : En} {Q : Exit → Tm → Hp → Prop} {T : Tm} {G : Hp} {id : Nat} {ops : Array Oper} {cs : List CO} (hc : ops.toList.mapM (co ops) = some cs) (hd : cs.all (dstOk E.n) = true)
    (h : aops P gl cs (Q .normal) T G) : Goes P E (.region id ops false) Q T G := by
  intro a w R
  exact wp_region_list (aops_sound (k := Q .normal) (fun T G a w R h => ⟨T, G, R, h⟩) _ cs hc hd R h)

end Go.Al

