import Derived.Test.YtdpppigniaafnaaAl1
import Derived.Shelf.Lays2
import Derived.Shelf.RegionOpenPlain
import Derived.WalkKit
import Derived.Deep.LoopGhost
import Derived.Deep.RegionLaw
import Derived.Lib.Walk
import Derived.Lib.SliceRun
import Derived.Lib.SlicesDelete
import Derived.Shelf.Spec.SlicesInsert
import Derived.Lib.AppendZerosOnto
import Derived.Laws.NewBlocks
set_option linter.unusedVariables false
set_option linter.unusedSimpArgs false
namespace Go.Al
open Go

section
variable {α : Type} {f : α → List AV} {sz : Nat} {G0 G : Hp} {out : AV} {l : List α}
/-- a slice that grew, frozen -/
theorem Grow.frz (h : Grow f sz G0 G out l) (hf : ∀ x, (f x).length = sz) : ∃ s : Option (List α), LL s = l ∧ Frz G G0 out (ofS f s) ∧ sub G0 G := by
  rcases h with ⟨rfl, rfl, rfl⟩ | ⟨b, τ, hb, rfl, rfl⟩
  · exact ⟨none, rfl, .refl _, sub.refl _⟩
  · refine ⟨some l, rfl, .ms b 0 l.length sz τ (l.flatMap f) (l.flatMap f) (setH_same ..) hb ?_, fun c o hc => ?_⟩
    · have : ((l.flatMap f).drop 0).take (l.length * sz) = l.flatMap f := by rw [List.drop_zero, ← flat_len hf l, List.take_length]
      rw [this]; exact Frzs.refl _
    · unfold setH
      by_cases h : c = b
      · subst h; rw [hb] at hc; cases hc
      · rw [if_neg h]; exact hc
end

section
variable {P : Program} {rs : List ResultVar} {post : AV → Hp → Prop} {T : Tm} {G G' : Hp}
theorem ends_fr1 {x y : AV} (h : rets P rs T G = [x]) (hx : x.plain = true) (hs : sub G' G) (hz : Frz G G' x y) (hp : post y G') : AEnds P rs post .ret T G :=
  ⟨.inl rfl, by rw [h]; simpa using hx, y, G', hs, by rw [h]; exact hz, hp⟩
theorem ends_frn {x y : AV} {zs ys : List AV} (h : rets P rs T G = x :: y :: zs) (hx : (x :: y :: zs).all AV.plain = true) (hs : sub G' G) (hz : Frzs G G' (x :: y :: zs) ys) (hp : post (.tup ys) G') : AEnds P rs post .ret T G :=
  ⟨.inl rfl, by rw [h]; exact hx, _, G', hs, by rw [h]; exact .tup _ _ hz, hp⟩
end

/-- a call beside a slice that grows -/
theorem CallK.grow {α : Type} {f : α → List AV} {sz : Nat} {G0 G : Hp} {out : AV} {l : List α} {P : Program} {g : Nat} {args : List AV} {k : AV → Tm → Hp → Prop} {T : Tm} {post : AV → Hp → Prop} (hg : Grow f sz G0 G out l) (hc : ACalls P g args G0 post)
    (hk : ∀ r G0' G', Grow f sz G0' G' out l → BD r → r.plain = true → post r G0' → k r T G') : CallK P g args G k T := by
  rcases hg with ⟨h1, h2, rfl⟩ | ⟨b, τ, hb, h1, rfl⟩
  · exact CallK.use hc fun r G' hb hp hq => hk r G' G' (.inl ⟨h1, h2, rfl⟩) hb hp hq
  · refine CallK.use (hc.frame1 (o := (τ, l.flatMap f)) hb) ?_
    rintro r G' hbd hp ⟨h', hb', rfl, hq⟩
    exact hk r h' _ (.inr ⟨b, τ, hb', h1, rfl⟩) hbd hp hq

@[simp] theorem uni_one_at (b : Nat) (o : Nat × List AV) (h : Hp) : uni (one b o) h b = some o := uni_left (one_same ..)
theorem sub_empty (G : Hp) : sub emptyH G := fun _ _ h => by cases h

/-- the bits of a byte -/
def byteBits (c : Int) : List Int := (List.range 8).map fun j => c.fdiv (2 ^ (7 - j)) % 2
theorem byteBits_len (c : Int) : (byteBits c).length = 8 := by simp [byteBits]
theorem bitsL_snoc (l : List Int) (c : Int) : bitsL (l ++ [c]) = bitsL l ++ byteBits c := by
  refine List.ext_getElem (by simp [bitsL_len, byteBits_len]; omega) fun i h1 h2 => ?_
  rw [bitsL_get]
  rw [bitsL_len] at h1
  simp at h1
  by_cases h : i < 8 * l.length
  · rw [bitAt_app h, List.getElem_append_left (by rw [bitsL_len]; exact h), bitsL_get]
  · rw [bitAt_app' (by omega), List.getElem_append_right (by rw [bitsL_len]; omega)]
    simp only [byteBits, List.getElem_map, List.getElem_range, bitsL_len]
    have e1 : (i - 8 * l.length) / 8 = 0 := by omega
    have e2 : (i - 8 * l.length) % 8 = i - 8 * l.length := by omega
    simp [bitAt, e1, e2]
theorem bitsL_nil : bitsL [] = [] := rfl
theorem bitsL_append (l m : List Int) : bitsL (l ++ m) = bitsL l ++ bitsL m := by
  generalize hk : m.length = k
  induction k generalizing m with
  | zero =>
    have : m = [] := List.eq_nil_of_length_eq_zero hk
    subst this; simp [bitsL_nil]
  | succ k ih =>
    have hne : m ≠ [] := by intro h; subst h; simp at hk
    obtain ⟨t, x, rfl⟩ : ∃ t x, m = t ++ [x] := ⟨m.dropLast, m.getLast hne, (List.dropLast_concat_getLast hne).symm⟩
    rw [← List.append_assoc, bitsL_snoc, bitsL_snoc, ih t (by simpa using hk), List.append_assoc]

theorem valL_app (l m : List Int) : valL (l ++ m) = valL l * 2 ^ m.length + valL m := by
  generalize hk : m.length = k
  induction k generalizing m with
  | zero =>
    have : m = [] := List.eq_nil_of_length_eq_zero hk
    subst this; simp [valL]
  | succ k ih =>
    have hne : m ≠ [] := by intro h; subst h; simp at hk
    obtain ⟨t, x, rfl⟩ : ∃ t x, m = t ++ [x] := ⟨m.dropLast, m.getLast hne, (List.dropLast_concat_getLast hne).symm⟩
    have hl : t.length = k := by simpa using hk
    rw [← List.append_assoc, valL_snoc, valL_snoc, ih t hl, Int.pow_succ]
    have : valL l * (2 ^ k * 2) = 2 * (valL l * 2 ^ k) := by rw [← Int.mul_assoc, Int.mul_comm]
    rw [this]; omega

theorem getD_in {α : Type} {l : List α} {i : Nat} {d : α} (h : i < l.length) : l.getD i d = l[i] := by simp [List.getD, h]
theorem getD_out {α : Type} {l : List α} {i : Nat} {d : α} (h : l.length ≤ i) : l.getD i d = d := by simp [List.getD, List.getElem?_eq_none h]
/-- so many from a place on, noughts where there is nothing -/
def getN (l : List Int) (a n : Nat) : List Int := (List.range n).map fun j => l.getD (a + j) 0
theorem getN_succ (l : List Int) (a n : Nat) : getN l a (n + 1) = getN l a n ++ [l.getD (a + n) 0] := by simp [getN, List.range_succ]
theorem getN_len (l : List Int) (a n : Nat) : (getN l a n).length = n := by simp [getN]
theorem Bits01.getD {l : List Int} (h : Bits01 l) (i : Nat) : l.getD i 0 = 0 ∨ l.getD i 0 = 1 := by
  by_cases hi : i < l.length
  · rw [getD_in hi]; exact h _ (List.getElem_mem hi)
  · rw [getD_out (by omega)]; exact .inl rfl
theorem getN01 {l : List Int} (h : Bits01 l) (a n : Nat) : Bits01 (getN l a n) := by
  intro x hx
  obtain ⟨j, _, rfl⟩ := List.mem_map.1 hx
  exact h.getD _
theorem getN_take {l : List Int} {a n : Nat} (h : a + n ≤ l.length) : getN l a n = (l.drop a).take n := by
  refine List.ext_getElem (by simp [getN]; omega) fun i h1 h2 => ?_
  have hi : i < n := by simpa [getN] using h1
  simp only [getN, List.getElem_map, List.getElem_range, List.getElem_take, List.getElem_drop]
  rw [getD_in (by omega)]
/-- bytes of bits, the last one filled up -/
def packL (l : List Int) (k : Nat) : List Int := (List.range k).map fun q => valL (getN l (8 * q) 8)
theorem packL_succ (l : List Int) (k : Nat) : packL l (k + 1) = packL l k ++ [valL (getN l (8 * k) 8)] := by simp [packL, List.range_succ]
theorem packL_len (l : List Int) (k : Nat) : (packL l k).length = k := by simp [packL]
theorem val8 {l : List Int} (h : Bits01 l) (a : Nat) : valL (getN l a 8) = 128 * l.getD a 0 + 64 * l.getD (a + 1) 0 + 32 * l.getD (a + 2) 0 + 16 * l.getD (a + 3) 0 + 8 * l.getD (a + 4) 0 + 4 * l.getD (a + 5) 0 + 2 * l.getD (a + 6) 0 + l.getD (a + 7) 0 := by
  simp only [getN, show List.range 8 = [0, 1, 2, 3, 4, 5, 6, 7] from rfl, valL, List.map_cons, List.map_nil, List.foldl_cons, List.foldl_nil, Nat.add_zero]
  omega
theorem val8_bound {l : List Int} (h : Bits01 l) (a : Nat) : 0 ≤ valL (getN l a 8) ∧ valL (getN l a 8) ≤ 255 := by
  have h1 := valL_bound _ (getN01 h a 8)
  rw [getN_len] at h1
  have : (2 : Int) ^ 8 = 256 := by decide
  omega
theorem val8_bit {l : List Int} (h : Bits01 l) (a r : Nat) (hr : r < 8) : (valL (getN l a 8)).fdiv (2 ^ (7 - r)) % 2 = l.getD (a + r) 0 := by
  rw [val8 h]
  have b : ∀ i, 0 ≤ l.getD i 0 ∧ l.getD i 0 ≤ 1 := fun i => by rcases h.getD i with e | e <;> rw [e] <;> omega
  have b0 := b a; have b1 := b (a + 1); have b2 := b (a + 2); have b3 := b (a + 3)
  have b4 := b (a + 4); have b5 := b (a + 5); have b6 := b (a + 6); have b7 := b (a + 7)
  have f : ∀ (z : Int) (n : Nat), z.fdiv (2 ^ n) = z / 2 ^ n := fun z n => Int.fdiv_eq_ediv_of_nonneg _ (Int.le_of_lt (Int.pow_pos (by omega)))
  rw [f]
  have c : r = 0 ∨ r = 1 ∨ r = 2 ∨ r = 3 ∨ r = 4 ∨ r = 5 ∨ r = 6 ∨ r = 7 := by omega
  clear b
  rcases c with rfl | rfl | rfl | rfl | rfl | rfl | rfl | rfl <;> simp only [Nat.sub_zero, Nat.reduceSub, Int.reducePow, Nat.add_zero]
  · generalize l.getD a 0 = x0 at *; omega
  · omega
  · omega
  · omega
  · omega
  · omega
  · omega
  · omega
theorem packed_packL {l : List Int} {k : Nat} (h : Bits01 l) (h1 : l.length ≤ 8 * k) (h2 : 8 * k < l.length + 8) : Packed (packL l k) l := by
  have hget : ∀ i, i < 8 * k → bitAt (packL l k) i = l.getD i 0 := by
    intro i hi
    unfold bitAt
    have hq : i / 8 < k := by omega
    rw [getD_in (by rw [packL_len]; exact hq)]
    simp only [packL, List.getElem_map, List.getElem_range]
    rw [val8_bit h _ _ (by omega)]
    congr 1; omega
  refine ⟨?_, h, by rw [packL_len]; exact h1, by rw [packL_len]; exact h2, fun i hi => ?_, fun i hi hi2 => ?_⟩
  · intro x hx
    obtain ⟨q, _, rfl⟩ := List.mem_map.1 hx
    exact val8_bound h _
  · rw [hget i (by omega), getD_in hi]
  · rw [packL_len] at hi2
    rw [hget i hi2, getD_out hi]
end Go.Al

set_option linter.unusedVariables false
set_option linter.unusedSimpArgs false
namespace Go.Al
open Go Go.Shelf Go.RowKit Go.Lib Go.Proofs

/-- a step of a drawn region whose run is known -/
theorem step_runI {P : Program} {ops : Array Oper} {o : Oper} {a : Act} {w w' : World} {v' : Value} {K : Act → World → Prop} {Q : Exit → Act → World → Prop} {E : Prop}
    (hg : o.guard = none) (hr : (execOp a.eval o).run P w = .ok (.value v') w') (hK : K (a.put o.dst v') w') :
    if Region.wanted o (yielded ops a.tmps) = true then Oper.wp P o a w K Q else E := by
  have hw : Region.wanted o (yielded ops a.tmps) = true := by simp [Region.wanted, hg]
  rw [if_pos hw]
  unfold Oper.wp
  rw [hr]
  exact hK

/-- what the two functions need of the types -/
structure SlT (P : Program) (ρ : Ren) (sz by_ : Nat) (z : Value) : Prop where
  mixed : P.follows .mixedOrders = true
  t0 : P.underlying (ρ.t 0) = some (TypeDesc.tuple #[])
  a0 : ∀ w, (isAgg (ρ.t 0)).run P w = .ok false w
  z0 : ∀ w, (Go.sizeOf (ρ.t 0)).run P w = .ok 1 w
  v0 : ∀ w, (zeroValue (ρ.t 0)).run P w = .ok (Value.tuple #[]) w
  t3 : P.underlying (ρ.t 3) = some (TypeDesc.int IntKind.i64)
  a3 : ∀ w, (isAgg (ρ.t 3)).run P w = .ok false w
  z3 : ∀ w, (Go.sizeOf (ρ.t 3)).run P w = .ok 1 w
  v3 : ∀ w, (zeroValue (ρ.t 3)).run P w = .ok (Value.int IntKind.i64 0) w
  t4 : P.underlying (ρ.t 4) = some (TypeDesc.bool)
  a4 : ∀ w, (isAgg (ρ.t 4)).run P w = .ok false w
  z4 : ∀ w, (Go.sizeOf (ρ.t 4)).run P w = .ok 1 w
  v4 : ∀ w, (zeroValue (ρ.t 4)).run P w = .ok (Value.bool false) w
  z9 : ∀ w, (Go.sizeOf (ρ.t 9)).run P w = .ok sz w
  v9 : ∀ w, (zeroValue (ρ.t 9)).run P w = .ok z w
  t24 : P.underlying (ρ.t 24) = some (TypeDesc.slice (ρ.t 9))
  a24 : ∀ w, (isAgg (ρ.t 24)).run P w = .ok false w
  z24 : ∀ w, (Go.sizeOf (ρ.t 24)).run P w = .ok 1 w
  v24 : ∀ w, (zeroValue (ρ.t 24)).run P w = .ok (Value.slice none 0 0) w
  i9 : (P.info? (ρ.t 9)).map (fun i => (i.zero, i.size, i.bytes)) = some (some z, sz, by_)
  zs : z.cells.size = sz
  z1 : ∀ v ∈ z.cells.toList, v.oneCell' = true

variable {P : Program} {ρ : Ren} {sz by_ : Nat} {z : Value} {nm nm9 : String}

theorem clear_run (L : SlT P ρ sz by_ z) {w : World} {b o n c : Nat} {te ty : TypeId} {cur : Array Value} (hg : w.heap[b]? = some (.cells cur te (0, 0))) (hfit : o + n * sz ≤ cur.size) (hn : 0 < n) :
    (Builtin.clear_ #[ρ.t 24] ty #[.slice (some ⟨b, o, none⟩) n c]).run P w = .ok (.tuple #[]) (w.setRow b (cur.toList.take o ++ (Builtin.zeroCells z.cells n).toList ++ cur.toList.drop (o + n * sz)).toArray) := by
  have hl : (Builtin.zeroCells z.cells n).toList.length = n * sz := by simp [Builtin.zeroCells, L.zs]
  have h1 : ∀ v ∈ (Builtin.zeroCells z.cells n).toList, v.oneCell' = true := by
    intro v hv
    simp only [Builtin.zeroCells, Array.toList_map, List.mem_map] at hv
    obtain ⟨j, hj, rfl⟩ := hv
    have h0 : z.cells.size ≠ 0 := by
      intro h0
      rw [h0] at hj; simp at hj
    have : j % z.cells.size < z.cells.size := Nat.mod_lt _ (by omega)
    refine L.z1 _ ?_
    rw [getElem!_pos z.cells (j % z.cells.size) this]
    exact Array.mem_toList_iff.2 (Array.getElem_mem this)
  have hst := run_storeCells_at (P := P) b o te (Builtin.zeroCells z.cells n).toList 0 cur w hg (by rw [hl]; omega) h1
  simp only [Nat.add_zero, hl] at hst
  obtain ⟨m, rfl⟩ : ∃ m, n = m + 1 := ⟨n - 1, by omega⟩
  simp [Builtin.clear_, run_underlying L.t24, L.v9, hst]

set_option maxHeartbeats 4000000 in
set_option maxRecDepth 1000000 in
theorem del_raw (L : SlT P ρ sz by_ z) (f24 : P.funcs[ρ.f 24]? = some { Body2.n24 ρ with name := nm }) (b cap n i j : Nat) {te : TypeId} (us rest : List Value) (w : World) (hg : w.heap[b]? = some (.cells (us ++ rest).toArray te (0, 0)))
    (hl : us.length = n * sz) (hn : n ≤ cap) (hm : n ≤ 140737488355328) (hcap : (us ++ rest).length = cap * sz) (hij : i ≤ j) (hj : j ≤ n) (h1 : ∀ v ∈ us, v.oneCell' = true) :
    Calls P (ρ.f 24) #[.slice (some ⟨b, 0, none⟩) n cap, .int .i64 i, .int .i64 j] w fun e w' => e = .returned (.slice (some ⟨b, 0, none⟩) (n - (j - i)) cap) ∧
      ∃ W rest', (W = w ∨ W = w.drew) ∧ rest'.length = (j - i) * sz + rest.length ∧ w' = W.setRow b (us.take (i * sz) ++ us.drop (j * sz) ++ rest').toArray := by
  have mixed := L.mixed; have t0 := L.t0; have a0 := L.a0; have z0 := L.z0; have v0 := L.v0; have t3 := L.t3; have a3 := L.a3; have z3 := L.z3; have v3 := L.v3; have t4 := L.t4; have a4 := L.a4; have z4 := L.z4; have v4 := L.v4; have z9 := L.z9; have v9 := L.v9; have t24 := L.t24; have a24 := L.a24; have z24 := L.z24; have v24 := L.v24
  by_cases heq : i = j
  · subst heq
    have h0 : Calls P (ρ.f 24) #[.slice (some ⟨b, 0, none⟩) n cap, .int .i64 i, .int .i64 i] w fun e w' => e = .returned (.slice (some ⟨b, 0, none⟩) n cap) ∧ w' = w := by
      clear hg hcap
      go_enter f24, Body2.n24_ntmps ρ
      go_wp2
      all_goals (go_ret; exact ⟨rfl, rfl⟩)
    refine h0.mono ?_
    rintro e w' ⟨rfl, rfl⟩
    refine ⟨by rw [Nat.sub_self, Nat.sub_zero], w', rest, .inl rfl, by simp, ?_⟩
    rw [List.take_append_drop, setRow_self w' b _ te (0, 0) hg]
  · have hlt : i < j := by omega
    have hic : i ≤ cap := by omega
    have hjc : j ≤ cap := by omega
    obtain ⟨i0, hi0, hzz, hsz, hby⟩ := info_parts L.i9
    obtain ⟨news, hnews⟩ : ∃ news, news = us.drop (j * sz) := ⟨_, rfl⟩
    have hmul : n * sz = j * sz + (n - j) * sz := by rw [← Nat.add_mul]; congr 1; omega
    have hnl : news.length = (n - j) * sz := by rw [hnews, List.length_drop, hl]; omega
    obtain ⟨A, hA, hsrc⟩ : ∃ A : Addr, (if cap = j then some (⟨b, 0, none⟩ : Addr) else some ⟨b, j * sz, none⟩) = some A ∧ Hid (∀ t u, news[t]? = some u → w.drew.cell? (A.add t) = some u) := by
      by_cases h : cap = j
      · refine ⟨⟨b, 0, none⟩, by simp [h], fun t u hu => ?_⟩
        have h0 : news.length = 0 := by rw [hnl, show n - j = 0 by omega, Nat.zero_mul]
        rw [List.length_eq_zero_iff.1 h0] at hu
        simp at hu
      · refine ⟨⟨b, j * sz, none⟩, by simp [h], fun t u hu => ?_⟩
        have ht : t < news.length := (List.getElem?_eq_some_iff.1 hu).1
        rw [hnews, List.getElem?_drop] at hu
        rw [Addr.add_lit]
        show w.cell? _ = _
        have hlt2 : j * sz + t < us.length := (List.getElem?_eq_some_iff.1 hu).1
        simp only [World.cell?, hg]
        rw [List.getElem?_toArray, List.getElem?_append_left hlt2]; exact hu
    have hfit : i * sz + news.length ≤ (us ++ rest).toArray.size := by
      rw [List.size_toArray, List.length_append, hl, hnl]
      have := Nat.mul_le_mul_right sz (show i + (n - j) ≤ n by omega)
      rw [Nat.add_mul] at this; omega
    have hrun := fun ty => al_append_room (P := P) (w := w.drew) (ty := ty) (m := i) (sCap := cap) (n := n - j) (cap := cap - j) (p := some A) (b := b) (new := news) L.t24 L.t24 (by intro k h; cases h) hi0 hg (by rw [hsz]; exact hnl)
      (by intro a0 h; injection h with h; subst h; exact hsrc) (by intro h; cases h) (fun v hv => h1 v (by rw [hnews] at hv; exact List.mem_of_mem_drop hv)) (by omega) (by rw [hsz]; exact hfit)
    rw [hsz] at hrun
    obtain ⟨us1, hus1⟩ : ∃ us1, us1 = us.take (i * sz) ++ news := ⟨_, rfl⟩
    have hi1 : i * sz ≤ us.length := by rw [hl]; exact Nat.mul_le_mul_right sz (by omega)
    have hu1l : us1.length = (i + (n - j)) * sz := by rw [hus1, List.length_append, List.length_take, Nat.min_eq_left hi1, hnl, Nat.add_mul]
    obtain ⟨W1, hW1⟩ : ∃ W1, W1 = w.drew.setRow b ((us ++ rest).toArray.toList.take (i * sz) ++ news ++ (us ++ rest).toArray.toList.drop (i * sz + news.length)).toArray := ⟨_, rfl⟩
    rw [← hW1] at hrun
    have hq : n - (i + (n - j)) = j - i := by omega
    have htk : (us ++ rest).toArray.toList.take (i * sz) = us.take (i * sz) := by
      show (us ++ rest).take (i * sz) = _
      rw [List.take_append_of_le_length hi1]
    have hW1g : W1.heap[b]? = some (.cells (us1 ++ ((us ++ rest).drop (i * sz + news.length))).toArray te (0, 0)) := by
      rw [hW1, setRow_heap w.drew b (us ++ rest).toArray _ te (0, 0) hg, htk, hus1]
    have hnij : n * sz = (i + (n - j)) * sz + (j - i) * sz := by rw [← Nat.add_mul]; congr 1; omega
    have hij2 : (i + (n - j)) * sz = i * sz + (n - j) * sz := Nat.add_mul ..
    have hdl : ((us ++ rest).drop (i * sz + news.length)).length = (j - i) * sz + rest.length := by
      rw [List.length_drop, List.length_append, hl, hnl]; omega
    have hcl := fun ty c => clear_run L (w := W1) (ty := ty) (b := b) (o := (i + (n - j)) * sz) (n := j - i) (c := c) hW1g (by rw [List.size_toArray, List.length_append, hu1l, hdl]; omega) (by omega)
    obtain ⟨W2, hW2⟩ : ∃ W2, W2 = W1.setRow b ((us1 ++ ((us ++ rest).drop (i * sz + news.length))).toArray.toList.take ((i + (n - j)) * sz) ++ (Builtin.zeroCells z.cells (j - i)).toList ++ (us1 ++ ((us ++ rest).drop (i * sz + news.length))).toArray.toList.drop ((i + (n - j)) * sz + (j - i) * sz)).toArray := ⟨_, rfl⟩
    rw [← hW2] at hcl
    have hfin : Hid (∃ W rest', (W = w ∨ W = w.drew) ∧ rest'.length = (j - i) * sz + rest.length ∧ W2 = W.setRow b (us.take (i * sz) ++ us.drop (j * sz) ++ rest').toArray) := by
      refine ⟨w.drew, (Builtin.zeroCells z.cells (j - i)).toList ++ ((us ++ rest).drop (i * sz + news.length)).drop ((j - i) * sz), .inr rfl, ?_, ?_⟩
      · simp only [List.length_append, Array.length_toList, Builtin.zeroCells, Array.size_map, Array.size_range, L.zs, List.length_drop]
        have := hdl
        rw [List.length_drop, List.length_append] at this
        omega
      · rw [hW2, hW1, setRow_setRow]
        congr 1
        apply congrArg
        show (us1 ++ _).take _ ++ _ ++ (us1 ++ _).drop _ = _
        rw [← hu1l, List.take_left', List.drop_append, hus1, hnews]
        · simp [List.append_assoc]
        · rfl
    clear hW2 hW1g hdl hW1 hus1 hu1l hnews hnl htk hnij hij2
    clear hg hcap hfit
    go_enter f24, Body2.n24_ntmps ρ
    go_wp2_with fail
    go_region_law_o (refine step_runI rfl (v' := .slice (some ⟨b, 0, none⟩) (i + (n - j)) cap) (w' := W1) (by simp [execOp, resolve, invoke, builtin, Act.eval, Act.put, hA, hrun, Result.andThen]) ?_)
    go_wp2
    go_ret
    exact ⟨by rw [show n - (j - i) = i + (n - j) by omega]; rfl, hfin.out⟩
end Go.Al

set_option linter.unusedVariables false
set_option linter.unusedSimpArgs false
namespace Go.Al
open Go Go.Shelf Go.RowKit Go.Lib Go.Proofs
variable {P : Program} {ρ : Ren} {sz by_ : Nat} {z : Value} {nm nm9 : String}

theorem Own_any (X : Nat → Prop) (G : Hp) : Own X G (fun _ => .any) #[] = fun b => X b ∨ G b ≠ none := by
  funext b
  apply propext
  unfold Own
  constructor
  · rintro (h | h | ⟨t, cs, h, _⟩)
    · exact .inl h
    · exact .inr h
    · cases h
  · rintro (h | h)
    · exact .inl h
    · exact .inr (.inl h)

/-- a frame of no slots -/
theorem rel0 {X : Nat → Prop} {G : Hp} {w : World} (hX : ∀ b, X b → b < w.heap.size) (hG : GR w (fun b => X b ∨ G b ≠ none) X G) : Rel ⟨X, G, w, 0⟩ (fun _ => .any) G ⟨#[], []⟩ w := by
  refine ⟨rfl, rfl, hX, Tr.refl G w, ?_, ?_, ?_, ?_⟩
  · show GR w (Own X G (fun _ => .any) #[]) X G
    rw [Own_any]; exact hG
  · intro t cs h; cases h
  · intro t t' cs cs' _ h; cases h
  · intro i; show SlotR _ _ _ _ AV.any _; simp only [SlotR, VR]

theorem out0 {X : Nat → Prop} {G G' : Hp} {w w' : World} (R : Rel ⟨X, G, w, 0⟩ (fun _ => .any) G' ⟨#[], []⟩ w') : Tr G w G' w' ∧ GR w' (fun b => X b ∨ G' b ≠ none) X G' := by
  refine ⟨R.tr, ?_⟩
  have := R.gr
  rw [Own_any] at this
  exact this

theorem del_c (L : SlT P ρ sz by_ z) (f24 : P.funcs[ρ.f 24]? = some { Body2.n24 ρ with name := nm }) {G : Hp} {b n i j τ : Nat} {cs : List AV} (hb : G b = some (τ, cs)) (hl : cs.length = n * sz) (hs : cs.all AV.scal = true) (hsz : 0 < sz) (hij : i ≤ j) (hj : j ≤ n) :
    ACalls P (ρ.f 24) [.ms b 0 n sz, .int .i64 i, .int .i64 j] G fun r G' => r = .ms b 0 (n - (j - i)) sz ∧ G' = setH G b (some (τ, cs.take (i * sz) ++ cs.drop (j * sz))) := by
  intro X w cargs hX hG hA
  have hA' := hA
  simp only [VRs, VR] at hA'
  obtain ⟨v0, t0, h0, ⟨cap, rfl, hn, hn2, e, c, hsh, hcap⟩, v1, t1, rfl, rfl, v2, t2, rfl, rfl, rfl⟩ := hA'
  have hca : cargs = #[.slice (some ⟨b, 0, none⟩) n cap, .int .i64 i, .int .i64 j] := by
    apply Array.ext'; rw [h0]
  subst hca
  have R := rel0 hX hG
  obtain ⟨g1, g2, cc, te, us, rest, g3, g4, g5⟩ := R.gr b τ cs hb
  have hcc : cc = (us ++ rest).toArray := by apply Array.ext'; rw [g4]
  subst hcc
  have hul : us.length = n * sz := by rw [VRs_length _ _ g5]; exact hl
  have hcs : (us ++ rest).length = cap * sz := by
    unfold World.shape? at hsh
    rw [g3] at hsh
    simp only [Option.map_some, Option.bind_some, Option.some.injEq, Prod.mk.injEq, List.size_toArray] at hsh
    omega
  have hm : n ≤ 140737488355328 := hn2
  refine Calls.mono (del_raw L f24 b cap n i j us rest w g3 hul hn hm hcs hij hj (VRs_one g5 hs)) ?_
  rintro e' w' ⟨rfl, W, rest', hW, hrl, rfl⟩
  have hisz : i * sz ≤ n * sz := Nat.mul_le_mul_right _ (by omega)
  have hjsz : j * sz ≤ n * sz := Nat.mul_le_mul_right _ hj
  have hji : (j - i) * sz = j * sz - i * sz := Nat.sub_mul ..
  have hijs : i * sz ≤ j * sz := Nat.mul_le_mul_right _ hij
  have key : ∀ W, W.heap = w.heap → Rel ⟨X, G, w, 0⟩ (fun _ => .any) G ⟨#[], []⟩ W → ∃ r cr G', Ending.returned (Value.slice (some ⟨b, 0, none⟩) (n - (j - i)) cap) = .returned cr ∧ Tr G w G' (W.setRow b (us.take (i * sz) ++ us.drop (j * sz) ++ rest').toArray) ∧ GR (W.setRow b (us.take (i * sz) ++ us.drop (j * sz) ++ rest').toArray) (fun b => X b ∨ G' b ≠ none) X G' ∧ VR (W.setRow b (us.take (i * sz) ++ us.drop (j * sz) ++ rest').toArray) (fun b => X b ∨ G' b ≠ none) r cr ∧ r = .ms b 0 (n - (j - i)) sz ∧ G' = setH G b (some (τ, cs.take (i * sz) ++ cs.drop (j * sz))) := by
    intro W hWh RW
    have g3' : W.heap[b]? = some (.cells (us ++ rest).toArray te (0, 0)) := by rw [hWh]; exact g3
    obtain ⟨g1', g2', cc', te', us', rest'', g3'', g4', g5'⟩ := RW.gr b τ cs hb
    have hsz2 : (us.take (i * sz) ++ us.drop (j * sz) ++ rest').toArray.size = (us ++ rest).toArray.size := by
      simp only [List.size_toArray, List.length_append, List.length_take, List.length_drop, hrl, hul]; omega
    have hus : us' = us := by
      rw [g3'] at g3''
      injection g3'' with g3''; injection g3'' with g3'' _ _
      rw [← g3''] at g4'
      have hl' : us'.length = us.length := by rw [VRs_length _ _ g5', hul]; exact hl
      exact (List.append_inj g4'.symm hl').1
    subst hus
    have R' := RW.setG hb (cs' := cs.take (i * sz) ++ cs.drop (j * sz)) (c' := (us'.take (i * sz) ++ us'.drop (j * sz) ++ rest').toArray) (vs' := us'.take (i * sz) ++ us'.drop (j * sz)) (rest' := rest') g3' hsz2 rfl (VRs_append (VRs_take _ g5') (VRs_drop _ g5')) τ
    obtain ⟨q1, q2⟩ := out0 R'
    refine ⟨_, _, _, rfl, q1, q2, ?_, rfl, rfl⟩
    simp only [VR]
    refine ⟨cap, rfl, by omega, by omega, e, c, ?_, hcap⟩
    rw [shape_setRow g3' hsz2]
    unfold World.shape? at hsh ⊢
    rw [hWh]; exact hsh
  rcases hW with rfl | rfl
  · exact key _ rfl R
  · exact key _ rfl R.drew
end Go.Al

set_option linter.unusedVariables false
set_option linter.unusedSimpArgs false
namespace Go.Al
open Go Go.Shelf Go.RowKit Go.Lib Go.Proofs
variable {P : Program} {ρ : Ren} {sz by_ : Nat} {z : Value} {nm nm9 : String}

/-- overlaps: the second slice is in a block that is owned (never frozen), the first elsewhere -/
theorem overlaps_own {w : World} {tS tR e : TypeId} (ht : P.underlying tS = some (.slice e)) {size : Nat} (hz : ∀ w, (Go.sizeOf e).run P w = .ok size w)
    {a b : Addr} {la ca lb cb : Nat} (hne : a.block ≠ b.block) {c : Array Value} {te : TypeId} (hg : w.heap[b.block]? = some (.cells c te (0, 0))) (hc : c.size ≠ 0) {u : Value} (ha : w.cell? a = some u) :
    (Extern.SlicesOverlaps.overlaps #[tS, tS] #[tR] #[.slice (some a) la ca, .slice (some b) lb cb]).run P w = .ok (.bool false) w := by
  have hnb : (a.block != b.block) = true := by simpa using hne
  have hnb' : (a.block == b.block) = false := by simpa using hne
  have hsb : w.shape? b.block = some (te, c.size) := by unfold World.shape?; rw [hg]
  obtain ⟨ta, na, hsa⟩ : ∃ ta na, w.shape? a.block = some (ta, na + 1) := by
    unfold World.cell? at ha; unfold World.shape?
    cases hq : w.heap[a.block]? with
    | none => rw [hq] at ha; cases ha
    | some o =>
      rw [hq] at ha
      cases o <;> try (cases ha; done)
      rename_i c0 e0 f0
      simp only at ha
      split at ha
      · cases ha
      · have := (Array.getElem?_eq_some_iff.1 ha).1
        exact ⟨e0, c0.size - 1, by simp only; rw [show c0.size - 1 + 1 = c0.size by omega]⟩
  have hfb : ∀ k, w.frozen? { block := b.block, off := k } = false := by
    intro k; unfold World.frozen?; simp [hg]
  have hfb' : w.frozen? b = false := by
    unfold World.frozen?; rw [hg]; simp
  change Sem.run P (α := Value) (do
    let some t := (#[tS, tS] : Array TypeId)[0]? | stuck "slices.overlaps: no parameter types"
    let .slice elem ← underlying t | stuck "slices.overlaps: slice type expected"
    let size ← sizeOf elem
    match (some a : Option Addr), (some b : Option Addr) with
    | some a, some b =>
      if la = 0 ∨ lb = 0 ∨ size = 0 then pure (Value.bool false)
      else if a.block != b.block && (← frozen a) && (← frozen b) then unsupported .addressObserved
      else do
        if a.block != b.block then do
          noView a; noView b
          if ← mayBeOne a b then return Value.bool ((← choose (.extern "sameAddr.stringBytes" 2)) == 1)
        pure (Value.bool (a.block == b.block && a.off < b.off + lb * size && b.off < a.off + la * size))
    | _, _ => pure (Value.bool false)) w = _
  by_cases h0 : la = 0 ∨ lb = 0 ∨ size = 0
  · simp [run_underlying ht, hz, h0]
  · obtain ⟨k, hk⟩ : ∃ k, c.size = k + 1 := ⟨c.size - 1, by omega⟩
    rw [hk] at hsb
    cases hfa : w.frozen? a <;> cases hfe : w.frozen? { block := a.block, off := na + 1 } <;>
    simp [run_underlying ht, hz, h0, hnb, hnb', frozen, noView, viewAt, mayBeOne, stringish, shape, Sem.run, hsa, hsb, hfb, hfb', hfa, hfe]

/-- copy into an owned block: all is read before anything is written -/
theorem copy_own {w : World} {dT sT ty elem : TypeId} {b o dLen dCap : Nat} {a : Addr} {sLen sCap : Nat} {news : List Value} {cur : Array Value} {te : TypeId} (hu : P.underlying dT = some (.slice elem)) (hs : (P.info? elem).map (·.size) = some sz)
    (hg : w.heap[b]? = some (.cells cur te (0, 0))) (hn : news.length = Nat.min sLen dLen * sz) (hsrc : ∀ j v, news[j]? = some v → w.cell? (a.add j) = some v) (hfit : o + news.length ≤ cur.size) (h1 : ∀ v ∈ news, v.oneCell' = true) :
    (Builtin.copy_ #[dT, sT] ty #[.slice (some ⟨b, o, none⟩) dLen dCap, .slice (some a) sLen sCap]).run P w = .ok (goInt (Nat.min sLen dLen)) (w.setRow b (cur.toList.take o ++ news ++ cur.toList.drop (o + news.length)).toArray) := by
  have hl := run_loadCells_list (P := P) w a news hsrc
  have hst := run_storeCells_at (P := P) b o te news 0 cur w hg (by simpa using hfit) h1
  simp only [Nat.add_zero] at hst
  cases hq : P.info? elem with
  | none => simp [hq] at hs
  | some i =>
    have hi : i.size = sz := by simpa [hq] using hs
    subst hi
    rw [hn] at hl
    simp [Builtin.copy_, run_underlying hu, Builtin.lenOf, Builtin.firstCells, sizeOf, typeInfo, hq, hl, hst]

theorem setRow_alloc (w : World) (e : TypeId) (r0 r2 : Array Value) : (w.alloc (.cells r0 e)).setRow w.heap.size r2 = w.alloc (.cells r2 e) := by
  have e1 : (w.alloc (.cells r0 e)).heap[w.heap.size]? = some (.cells r0 e (0, 0)) := heap_alloc_at w (.cells r0 e)
  have hh : ((w.alloc (.cells r0 e)).setRow w.heap.size r2).heap = (w.alloc (.cells r2 e)).heap := by
    apply Array.ext_getElem?
    intro k
    by_cases hk : k = w.heap.size
    · subst hk
      rw [setRow_heap _ _ _ _ _ _ e1]
      exact (heap_alloc_at w (.cells r2 e)).symm
    · rw [setRow_other _ _ _ _ hk]
      simp only [World.alloc, Array.getElem?_push, hk, if_false]
  cases w
  simp only [World.setRow, World.alloc] at hh ⊢
  rw [hh]

/-- the entry of the model for slices.overlaps -/
def Ovl (P : Program) (ρ : Ren) : Prop := ∃ fn, P.funcs[ρ.f 29]? = some fn ∧ (fn.name == "runtime.NumGoroutine") = false ∧ fn.body.isNone = true ∧ Extern.findNext fn = none ∧ Extern.find fn = some (Extern.SlicesOverlaps.overlaps #[(ρ.t 24), (ρ.t 24)] #[(ρ.t 4)])
theorem Ovl.run (h : Ovl P ρ) (args : Array Value) (w : World) : (callFunc (ρ.f 29) args).run P w = ((Extern.SlicesOverlaps.overlaps #[(ρ.t 24), (ρ.t 24)] #[(ρ.t 4)] args).run P w).andThen fun v w' => .ok (.value v) w' := by
  obtain ⟨fn, h1, h2, h3, h4, h5⟩ := h
  exact run_callFunc_extern h1 h2 h3 h4 h5 args w

/-- Insert at the end is an append -/
theorem ins_end (L : SlT P ρ sz by_ z) (f22 : P.funcs[ρ.f 22]? = some { Body2.n22 ρ with name := nm }) {base a : Option Addr} {n c vc : Nat} {w w' : World} {cv : Value} (hm : n ≤ 140737488355328) (hnc : n ≤ c) (hnil : base = none → n = 0 ∧ c = 0)
    (hrun : ∀ ty, (Builtin.append_ #[ρ.t 24, ρ.t 24] ty #[.slice base n c, .slice a 1 vc]).run P w = .ok cv w') :
    Calls P (ρ.f 22) #[.slice base n c, .int .i64 n, .slice a 1 vc] w fun e w'' => e = .returned cv ∧ w'' = w' := by
  have mixed := L.mixed; have t0 := L.t0; have a0 := L.a0; have z0 := L.z0; have v0 := L.v0; have t3 := L.t3; have a3 := L.a3; have z3 := L.z3; have v3 := L.v3; have t4 := L.t4; have a4 := L.a4; have z4 := L.z4; have v4 := L.v4; have z9 := L.z9; have v9 := L.v9; have t24 := L.t24; have a24 := L.a24; have z24 := L.z24; have v24 := L.v24
  have u0 := run_underlying L.t0; have u3 := run_underlying L.t3; have u4 := run_underlying L.t4; have u24 := run_underlying L.t24
  go_enter f22, Body2.n22_ntmps ρ
  cases base with
  | none =>
    obtain ⟨h1, h2⟩ := hnil rfl
    subst h1; subst h2
    go_wp2_with (at_builtin; refine Lib.wpList_append_run _ rfl _ _ _ _ rfl _ _ rfl rfl _ _ (hrun _) ?_)
    go_ret
    exact ⟨rfl, rfl⟩
  | some a0 =>
    obtain ⟨ab, ao, asp⟩ := a0
    go_wp2_with (at_builtin; refine Lib.wpList_append_run _ rfl _ _ _ _ rfl _ _ rfl rfl _ _ (hrun _) ?_)
    all_goals (go_ret; exact ⟨rfl, rfl⟩)

set_option maxHeartbeats 4000000 in
set_option maxRecDepth 100000 in
/-- Insert in place -/
theorem ins_shift (L : SlT P ρ sz by_ z) (f22 : P.funcs[ρ.f 22]? = some { Body2.n22 ρ with name := nm }) (f29 : Ovl P ρ) (hsz : 0 < sz) {b n c i vc : Nat} {a : Addr} {te : TypeId} {us xs rest : List Value} {w : World} (hi : i < n) (hm : n ≤ 140737488355328) (hroom : n + 1 ≤ c)
    (hg : w.heap[b]? = some (.cells (us ++ rest).toArray te (0, 0))) (hl : us.length = n * sz) (hxl : xs.length = sz) (hcap : (us ++ rest).length = c * sz) (hab : a.block ≠ b) (hxs : ∀ j v, xs[j]? = some v → w.cell? (a.add j) = some v)
    (h1 : ∀ v ∈ us, v.oneCell' = true) (h1x : ∀ v ∈ xs, v.oneCell' = true) :
    Calls P (ρ.f 22) #[.slice (some ⟨b, 0, none⟩) n c, .int .i64 i, .slice (some a) 1 vc] w fun e w' => e = .returned (.slice (some ⟨b, 0, none⟩) (n + 1) c) ∧
      ∃ rest', rest'.length + sz = rest.length ∧ w' = w.drew.setRow b (us.take (i * sz) ++ xs ++ us.drop (i * sz) ++ rest').toArray := by
  have mixed := L.mixed; have t0 := L.t0; have a0 := L.a0; have z0 := L.z0; have v0 := L.v0; have t3 := L.t3; have a3 := L.a3; have z3 := L.z3; have v3 := L.v3; have t4 := L.t4; have a4 := L.a4; have z4 := L.z4; have v4 := L.v4; have z9 := L.z9; have v9 := L.v9; have t24 := L.t24; have a24 := L.a24; have z24 := L.z24; have v24 := L.v24
  have u0 := run_underlying L.t0; have u3 := run_underlying L.t3; have u4 := run_underlying L.t4; have u24 := run_underlying L.t24
  have hsi : (P.info? (ρ.t 9)).map (·.size) = some sz := by
    obtain ⟨i0, hi0, h0, h1, h2⟩ := info_parts L.i9
    rw [hi0]; simp [h1]
  have hz2 : ¬ ((i : Int) = (n : Int)) := by omega
  have hcell : w.cell? a = some (xs[0]'(by omega)) := by
    have := hxs 0 _ (List.getElem?_eq_getElem (by omega))
    simpa [Addr.add] using this
  have hcs0 : (us ++ rest).toArray.size ≠ 0 := by
    rw [List.size_toArray, List.length_append, hl]
    have := Nat.mul_le_mul_right sz (show 1 ≤ n by omega)
    omega
  have hov : ∀ lb cb, (callFunc (ρ.f 29) #[.slice (some a) 1 vc, .slice (some ⟨b, (i + 1) * sz, none⟩) lb cb]).run P w = .ok (.value (.bool false)) w := fun lb cb => by
    rw [f29.run,
      overlaps_own (b := ⟨b, (i + 1) * sz, none⟩) L.t24 L.z9 hab hg hcs0 hcell]
    rfl
  have hw1 : IntKind.i64.wrap ((i : Int) + 1) = (i : Int) + 1 := by rw [IntKind.wrap_i64]; omega
  have hw2 : IntKind.i64.wrap ((n : Int) + 1) = (n : Int) + 1 := by rw [IntKind.wrap_i64]; omega
  have hcc : ¬ ((c : Int) < (n : Int) + 1) := by omega
  have hmul : n * sz = i * sz + (n - i) * sz := by rw [← Nat.add_mul]; congr 1; omega
  have hmul1 : (i + 1) * sz = i * sz + sz := Nat.succ_mul ..
  have hdl : (us.drop (i * sz)).length = (n - i) * sz := by rw [List.length_drop, hl]; omega
  have hisz : i * sz ≤ us.length := by rw [hl]; omega
  have hrl : sz ≤ rest.length := by
    have := Nat.mul_le_mul_right sz hroom
    rw [List.length_append, hl] at hcap
    rw [Nat.succ_mul] at this; omega
  have hmin1 : Nat.min (n + 1 - i) (n - i) = n - i := by simp only [Nat.min_def]; split <;> omega
  have hmin2 : Nat.min 1 (n + 1 - i) = 1 := by simp only [Nat.min_def]; split <;> omega
  have hcp1 := fun ty dc sc => copy_own (P := P) (w := w.drew) (dT := ρ.t 24) (sT := ρ.t 24) (ty := ty) (b := b) (o := (i + 1) * sz) (dLen := n - i) (dCap := dc) (a := ⟨b, i * sz, none⟩) (sLen := n + 1 - i) (sCap := sc) (news := us.drop (i * sz)) L.t24 hsi hg (by rw [hmin1, hdl])
    (fun j v hj => by
      rw [Addr.add_lit]
      show w.cell? _ = _
      rw [List.getElem?_drop] at hj
      have hlt := (List.getElem?_eq_some_iff.1 hj).1
      simp only [World.cell?, hg]
      rw [List.getElem?_toArray, List.getElem?_append_left hlt]; exact hj)
    (by rw [List.size_toArray, List.length_append, hl, hdl]; omega) (fun v hv => h1 v (List.mem_of_mem_drop hv))
  rw [hmin1] at hcp1
  obtain ⟨r1, hr1⟩ : ∃ r1, r1 = (us ++ rest).toArray.toList.take ((i + 1) * sz) ++ us.drop (i * sz) ++ (us ++ rest).toArray.toList.drop ((i + 1) * sz + (us.drop (i * sz)).length) := ⟨_, rfl⟩
  rw [← hr1] at hcp1
  obtain ⟨W1, hW1⟩ : ∃ W1, W1 = w.drew.setRow b r1.toArray := ⟨_, rfl⟩
  rw [← hW1] at hcp1
  have hW1g : W1.heap[b]? = some (.cells r1.toArray te (0, 0)) := by
    rw [hW1, setRow_heap w.drew b (us ++ rest).toArray _ te (0, 0) hg]
  have hr1l : r1.length = (us ++ rest).length := by
    rw [hr1]
    show ((us ++ rest).take _ ++ _ ++ (us ++ rest).drop _).length = _
    simp only [List.length_append, List.length_take, List.length_drop, hl]; omega
  have hcp2 := fun ty dc => copy_own (P := P) (w := W1) (dT := ρ.t 24) (sT := ρ.t 24) (ty := ty) (b := b) (o := i * sz) (dLen := n + 1 - i) (dCap := dc) (a := a) (sLen := 1) (sCap := vc) (news := xs) L.t24 hsi hW1g (by rw [hmin2, hxl, Nat.one_mul])
    (fun j v hj => by
      rw [hW1, cell_setRow_other _ _ _ _ (by rw [add_block]; exact hab)]
      exact hxs j v hj)
    (by rw [List.size_toArray, hr1l, List.length_append, hl, hxl]; omega) h1x
  rw [hmin2] at hcp2
  obtain ⟨W2, hW2⟩ : ∃ W2, W2 = W1.setRow b (r1.toArray.toList.take (i * sz) ++ xs ++ r1.toArray.toList.drop (i * sz + xs.length)).toArray := ⟨_, rfl⟩
  rw [← hW2] at hcp2
  have hfin : Hid (∃ rest', rest'.length + sz = rest.length ∧ W2 = w.drew.setRow b (us.take (i * sz) ++ xs ++ us.drop (i * sz) ++ rest').toArray) := by
    refine ⟨rest.drop sz, by rw [List.length_drop]; omega, ?_⟩
    rw [hW2, hW1, setRow_setRow]
    congr 1
    apply congrArg
    show r1.take _ ++ xs ++ r1.drop _ = _
    have e1 : r1 = us.take (i * sz) ++ ((us ++ rest).drop (i * sz)).take sz ++ us.drop (i * sz) ++ rest.drop sz := by
      rw [hr1]
      show (us ++ rest).take _ ++ _ ++ (us ++ rest).drop _ = _
      have e2 : (us ++ rest).take ((i + 1) * sz) = us.take (i * sz) ++ ((us ++ rest).drop (i * sz)).take sz := by
        rw [hmul1, List.take_add, List.take_append_of_le_length hisz]
      have e3 : (us ++ rest).drop ((i + 1) * sz + (us.drop (i * sz)).length) = rest.drop sz := by
        rw [hdl, show (i + 1) * sz + (n - i) * sz = us.length + sz by omega, List.drop_append]
        simp
      rw [e2, e3]
    have htl : (us.take (i * sz)).length = i * sz := by rw [List.length_take]; omega
    have hml : (((us ++ rest).drop (i * sz)).take sz).length = sz := by rw [List.length_take, List.length_drop, List.length_append]; omega
    have e4 : r1.take (i * sz) = us.take (i * sz) := by
      rw [e1, List.append_assoc, List.append_assoc, List.take_left' htl]
    have e5 : r1.drop (i * sz + xs.length) = us.drop (i * sz) ++ rest.drop sz := by
      rw [e1, List.append_assoc, List.drop_left' (by rw [List.length_append, htl, hml, hxl])]
    rw [e4, e5]
    simp only [List.append_assoc]
  have hb1 : (0 : Int) ≤ (i : Int) + 1 := by omega
  have hin : i ≤ n := by omega
  have htn : ((i : Int) + 1).toNat = i + 1 := by omega
  have hb2 : ¬ (c = i + 1) := by omega
  have hb3 : (i : Int) ≤ (n : Int) + 1 := by omega
  have hb4 : ¬ (c = i) := by omega
  clear hW2 hW1 hW1g hr1 hr1l hmul hmul1 hdl hisz hrl hmin1 hmin2 hg hcap hcs0 hcell hl hxl
  go_enter f22, Body2.n22_ntmps ρ
  go_wp2_with (simp only [hov])
  go_region_law_o (refine step_runI rfl (v' := goInt ((n - i : Nat) : Int)) (w' := W1) (by simp [execOp, resolve, invoke, builtin, Act.eval, Act.put, hcp1, Result.andThen]) ?_)
  go_wp2_with (at_builtin; refine wpList_copy_runI _ rfl _ _ (ρ.t 24) (ρ.t 24) rfl _ _ rfl rfl (hcp2 _ _) ?_)
  go_ret
  exact ⟨rfl, hfin.out⟩
end Go.Al

set_option linter.unusedVariables false
set_option linter.unusedSimpArgs false
namespace Go.Al
open Go Go.Shelf Go.RowKit Go.Lib Go.Proofs
variable {P : Program} {ρ : Ren} {sz by_ : Nat} {z : Value} {nm nm9 : String}

theorem zeroCells_one (L : SlT P ρ sz by_ z) (n : Nat) : ∀ v ∈ (Builtin.zeroCells z.cells n).toList, v.oneCell' = true := by
  intro v hv
  simp only [Builtin.zeroCells, Array.toList_map, List.mem_map] at hv
  obtain ⟨j, hj, rfl⟩ := hv
  have h0 : z.cells.size ≠ 0 := by
    intro h0
    rw [h0] at hj; simp at hj
  have : j % z.cells.size < z.cells.size := Nat.mod_lt _ (by omega)
  refine L.z1 _ ?_
  rw [getElem!_pos z.cells (j % z.cells.size) this]
  exact Array.mem_toList_iff.2 (Array.getElem_mem this)
theorem zeroCells_len (L : SlT P ρ sz by_ z) (n : Nat) : (Builtin.zeroCells z.cells n).toList.length = n * sz := by simp [Builtin.zeroCells, L.zs]

set_option maxHeartbeats 4000000 in
set_option maxRecDepth 100000 in
/-- Insert where there is no room -/
theorem ins_grow (L : SlT P ρ sz by_ z) (f22 : P.funcs[ρ.f 22]? = some { Body2.n22 ρ with name := nm }) (hsz : 0 < sz) {b n c i vc : Nat} {a : Addr} {te : TypeId} {us xs rest : List Value} {w : World} (hi : i < n) (hm : n + 1 ≤ 140737488355328) (hroom : c < n + 1) (hnc : n ≤ c) (hbig : (n + 1) * by_ ≤ 140737488355328)
    (hg : w.heap[b]? = some (.cells (us ++ rest).toArray te (0, 0))) (hl : us.length = n * sz) (hxl : xs.length = sz) (haw : a.block < w.heap.size) (hxs : ∀ j v, xs[j]? = some v → w.cell? (a.add j) = some v)
    (h1 : ∀ v ∈ us, v.oneCell' = true) (h1x : ∀ v ∈ xs, v.oneCell' = true) :
    Calls P (ρ.f 22) #[.slice (some ⟨b, 0, none⟩) n c, .int .i64 i, .slice (some a) 1 vc] w fun e w' => ∃ q rest', n + 1 ≤ q ∧ (n + 1) * sz + rest'.length = q * sz ∧ e = .returned (.slice (some ⟨w.heap.size, 0, none⟩) (n + 1) q) ∧
      w' = w.drew.drew.alloc (.cells (us.take (i * sz) ++ xs ++ us.drop (i * sz) ++ rest').toArray (ρ.t 9)) := by
  have mixed := L.mixed; have t0 := L.t0; have a0 := L.a0; have z0 := L.z0; have v0 := L.v0; have t3 := L.t3; have a3 := L.a3; have z3 := L.z3; have v3 := L.v3; have t4 := L.t4; have a4 := L.a4; have z4 := L.z4; have v4 := L.v4; have z9 := L.z9; have v9 := L.v9; have t24 := L.t24; have a24 := L.a24; have z24 := L.z24; have v24 := L.v24
  have u0 := run_underlying L.t0; have u3 := run_underlying L.t3; have u4 := run_underlying L.t4; have u24 := run_underlying L.t24
  obtain ⟨i0, hi0, hzz, hzs, hzb⟩ := info_parts L.i9
  have hsi : (P.info? (ρ.t 9)).map (·.size) = some sz := by rw [hi0]; simp [hzs]
  have hz2 : ¬ ((i : Int) = (n : Int)) := by omega
  have hmul : n * sz = i * sz + (n - i) * sz := by rw [← Nat.add_mul]; congr 1; omega
  have hmul1 : (i + 1) * sz = i * sz + sz := Nat.succ_mul ..
  have hmul2 : (n + 1 - i) * sz = (n - i) * sz + sz := by rw [show n + 1 - i = (n - i) + 1 by omega, Nat.succ_mul]
  have hdl : (us.drop (i * sz)).length = (n - i) * sz := by rw [List.length_drop, hl]; omega
  have hisz : i * sz ≤ us.length := by rw [hl]; omega
  have hbw : b < w.heap.size := (Array.getElem?_eq_some_iff.1 hg).1
  have hkk : (n : Int) + 1 - (i : Int) = ((n + 1 - i : Nat) : Int) := by omega
  have hik : i + (n + 1 - i) = n + 1 := by omega
  have hold : (Builtin.firstCells i0.size i (.slice (some ⟨b, 0, none⟩) i c)).run P w.drew = .ok (us.take (i * sz)).toArray w.drew :=
    run_firstCells (by rw [List.length_take, hzs]; omega) (fun a0 ha j v hj => by
      injection ha with ha; subst ha
      rw [Addr.add_lit, Nat.zero_add]
      show w.cell? _ = _
      have hlt := (List.getElem?_eq_some_iff.1 hj).1
      rw [List.length_take] at hlt
      rw [List.getElem?_take_of_lt (by omega)] at hj
      simp only [World.cell?, hg]
      rw [List.getElem?_toArray, List.getElem?_append_left (by omega)]; exact hj) (by intro h; cases h)
  have hrz : ∀ ty, (Builtin.append_ #[(ρ.t 24), (ρ.t 3)] ty #[.slice (some ⟨b, 0, none⟩) i c, .int .i64 ((n : Int) + 1 - (i : Int))]).run P w =
      .ok (.slice (some ⟨w.heap.size, 0, none⟩) (n + 1) (grownCap w (n + 1) c (ρ.t 9))) (w.drew.alloc (.cells ((us.take (i * sz)).toArray ++ Builtin.zeroCells z.cells (n + 1 - i) ++ Builtin.zeroCells z.cells (grownCap w (n + 1) c (ρ.t 9) - (n + 1))) (ρ.t 9))) := fun ty => by
    have hq1 : (n + 1 - i) * by_ ≤ (n + 1) * by_ := Nat.mul_le_mul_right _ (by omega)
    have h := Lib.run_append_grow_zeros w (ρ.t 24) (ρ.t 3) ty (ρ.t 9) i0 _ .i64 .i64 L.t24 L.t3 hi0 hzz (some ⟨b, 0, none⟩) i c (us.take (i * sz)) hold (n + 1 - i) (by omega) (by omega) (by omega) (by omega) (by rw [hzb]; omega) (by rw [hzb, hik]; exact growslice_fits hroom hbig)
    rw [hik] at h
    rw [hkk]
    exact h
  obtain ⟨G, hG⟩ : ∃ G, G = grownCap w (n + 1) c (ρ.t 9) := ⟨_, rfl⟩
  have hGn : n + 1 ≤ G := by rw [hG]; exact grownCap_ge w _ _ _
  obtain ⟨ROW, hROW⟩ : ∃ ROW : List Value, ROW = us.take (i * sz) ++ (Builtin.zeroCells z.cells (n + 1 - i)).toList ++ (Builtin.zeroCells z.cells (G - (n + 1))).toList := ⟨_, rfl⟩
  have hRR : (us.take (i * sz)).toArray ++ Builtin.zeroCells z.cells (n + 1 - i) ++ Builtin.zeroCells z.cells (G - (n + 1)) = ROW.toArray := by
    apply Array.ext'; rw [hROW]; simp
  rw [← hG, hRR] at hrz
  have hRl : ROW.length = (n + 1) * sz + (G - (n + 1)) * sz := by
    rw [hROW]
    simp only [List.length_append, zeroCells_len L, List.length_take]
    rw [Nat.min_eq_left hisz, ← Nat.add_mul, hik]
  have hGs : (n + 1) * sz + (G - (n + 1)) * sz = G * sz := by rw [← Nat.add_mul]; congr 1; omega
  have hn1 : (n + 1) * sz = n * sz + sz := Nat.succ_mul ..
  obtain ⟨N, hN⟩ : ∃ N, N = w.heap.size := ⟨_, rfl⟩
  obtain ⟨W1, hW1⟩ : ∃ W1, W1 = w.drew.alloc (.cells ROW.toArray (ρ.t 9)) := ⟨_, rfl⟩
  rw [← hW1] at hrz
  have hW1g : W1.heap[N]? = some (.cells ROW.toArray (ρ.t 9) (0, 0)) := by rw [hW1, hN]; exact heap_alloc_at w.drew _
  have hW1b : ∀ k, k < w.heap.size → W1.heap[k]? = w.heap[k]? := fun k hk => by rw [hW1]; exact heap_alloc_old w.drew _ hk
  have hmin1 : Nat.min 1 (n + 1 - i) = 1 := by simp only [Nat.min_def]; split <;> omega
  have hmin2 : Nat.min (n - i) (n - i) = n - i := Nat.min_self _
  have hcpA := fun ty dc => copy_own (P := P) (w := W1) (dT := ρ.t 24) (sT := ρ.t 24) (ty := ty) (b := N) (o := i * sz) (dLen := n + 1 - i) (dCap := dc) (a := a) (sLen := 1) (sCap := vc) (news := xs) L.t24 hsi hW1g (by rw [hmin1, hxl, Nat.one_mul])
    (fun j v hj => by
      have := hxs j v hj
      rw [← this]
      exact cell?_congr (by rw [add_block]; exact hW1b _ haw))
    (by rw [List.size_toArray, hRl, hxl]; omega) h1x
  rw [hmin1] at hcpA
  obtain ⟨r1, hr1⟩ : ∃ r1, r1 = ROW.toArray.toList.take (i * sz) ++ xs ++ ROW.toArray.toList.drop (i * sz + xs.length) := ⟨_, rfl⟩
  rw [← hr1] at hcpA
  obtain ⟨W2, hW2⟩ : ∃ W2, W2 = W1.setRow N r1.toArray := ⟨_, rfl⟩
  rw [← hW2] at hcpA
  have hr1l : r1.length = ROW.length := by
    rw [hr1]
    show (ROW.take _ ++ _ ++ ROW.drop _).length = _
    simp only [List.length_append, List.length_take, List.length_drop, hxl]; omega
  have hW2g : W2.heap[N]? = some (.cells r1.toArray (ρ.t 9) (0, 0)) := by rw [hW2, setRow_heap W1 N ROW.toArray _ (ρ.t 9) (0, 0) hW1g]
  have hbN : b ≠ N := by omega
  have hcpB := fun ty dc sc => copy_own (P := P) (w := W2.drew) (dT := ρ.t 24) (sT := ρ.t 24) (ty := ty) (b := N) (o := (i + 1) * sz) (dLen := n - i) (dCap := dc) (a := ⟨b, i * sz, none⟩) (sLen := n - i) (sCap := sc) (news := us.drop (i * sz)) L.t24 hsi hW2g (by rw [hmin2, hdl])
    (fun j v hj => by
      rw [Addr.add_lit]
      show W2.cell? _ = _
      rw [hW2, cell_setRow_other _ _ _ _ hbN]
      rw [List.getElem?_drop] at hj
      have hlt := (List.getElem?_eq_some_iff.1 hj).1
      simp only [World.cell?, hW1b b hbw, hg]
      rw [List.getElem?_toArray, List.getElem?_append_left hlt]; exact hj)
    (by rw [List.size_toArray, hr1l, hRl, hdl]; omega) (fun v hv => h1 v (List.mem_of_mem_drop hv))
  rw [hmin2] at hcpB
  obtain ⟨W3, hW3⟩ : ∃ W3, W3 = W2.drew.setRow N (r1.toArray.toList.take ((i + 1) * sz) ++ us.drop (i * sz) ++ r1.toArray.toList.drop ((i + 1) * sz + (us.drop (i * sz)).length)).toArray := ⟨_, rfl⟩
  rw [← hW3] at hcpB
  have hfin : Hid (∃ rest' : List Value, (n + 1) * sz + rest'.length = G * sz ∧ W3 = w.drew.drew.alloc (.cells (us.take (i * sz) ++ xs ++ us.drop (i * sz) ++ rest').toArray (ρ.t 9))) := by
    have htl : (us.take (i * sz)).length = i * sz := by rw [List.length_take]; omega
    have e1 : ROW.take (i * sz) = us.take (i * sz) := by rw [hROW, List.append_assoc, List.take_left' htl]
    have e2 : r1 = us.take (i * sz) ++ xs ++ ROW.drop (i * sz + sz) := by
      rw [hr1]; show ROW.take _ ++ xs ++ ROW.drop _ = _
      rw [e1, hxl]
    have e3 : r1.take ((i + 1) * sz) = us.take (i * sz) ++ xs := by
      rw [e2, List.take_left' (by rw [List.length_append, htl, hxl, hmul1])]
    refine ⟨r1.drop ((i + 1) * sz + (us.drop (i * sz)).length), by rw [List.length_drop, hr1l, hRl, hdl]; omega, ?_⟩
    rw [hW3]
    show (W2.drew).setRow N (r1.take _ ++ _ ++ r1.drop _).toArray = _
    rw [e3, hW2]
    show ((W1.drew).setRow N _).setRow N _ = _
    rw [setRow_setRow, hW1, hN]
    exact setRow_alloc (w.drew.drew) (ρ.t 9) ROW.toArray _
  have hb1 : (0 : Int) ≤ (i : Int) + 1 := by omega
  have hin : i ≤ n := by omega
  have htn : ((i : Int) + 1).toNat = i + 1 := by omega
  have hw1 : IntKind.i64.wrap ((i : Int) + 1) = (i : Int) + 1 := by rw [IntKind.wrap_i64]; omega
  have hw2 : IntKind.i64.wrap ((n : Int) + 1) = (n : Int) + 1 := by rw [IntKind.wrap_i64]; omega
  have hw3 : IntKind.i64.wrap ((n : Int) + 1 - (i : Int)) = (n : Int) + 1 - (i : Int) := by rw [IntKind.wrap_i64]; omega
  have hz3 : (c : Int) < (n : Int) + 1 := by omega
  have hGi : ¬ (G = i) := by omega
  have hGim : ¬ (G = i + 1) := by omega
  have hci : ¬ (c = i) := by omega
  have hb3 : (i : Int) ≤ (n : Int) := by omega
  rw [← hN] at hrz ⊢
  have hGs' : Hid (n + 1 ≤ G) := hGn
  clear hW3 hW2 hW1 hW1g hW2g hr1 hr1l hROW hRR hRl hG hmul hmul1 hmul2 hdl hisz hmin1 hmin2 hg hl hxl hkk hik hold hGs hn1 hN hW1b
  go_enter f22, Body2.n22_ntmps ρ
  go_wp2_with (first
    | (at_builtin; refine Lib.wpList_append_run _ rfl _ _ _ _ rfl _ _ rfl rfl _ _ (hrz _) ?_)
    | (at_builtin; refine wpList_copy_runI _ rfl _ _ (ρ.t 24) (ρ.t 24) rfl _ _ rfl rfl (hcpA _ _) ?_))
  go_region_law_o (refine step_runI rfl (v' := goInt ((n - i : Nat) : Int)) (w' := W3) (by simp [execOp, resolve, invoke, builtin, Act.eval, Act.put, hcpB, Result.andThen]) ?_)
  go_wp2
  go_ret
  obtain ⟨rest', hr, hw⟩ := hfin.out
  exact ⟨G, rest', hGs'.out, hr, rfl, hw⟩
end Go.Al

set_option linter.unusedVariables false
set_option linter.unusedSimpArgs false
namespace Go.Al
open Go Go.Shelf Go.RowKit Go.Lib Go.Proofs
variable {P : Program} {ρ : Ren} {sz by_ : Nat} {z : Value} {nm nm9 : String}

/-- what the logic knows of the types -/
structure SlK (P : Program) (ρ : Ren) (sz by_ : Nat) (z : Value) : Prop extends SlT P ρ sz by_ z where
  s24 : (ti P (ρ.t 24)).ok = true
  k24 : (ti P (ρ.t 24)).kd = .slc (ρ.t 9)
  s9 : (ti P (ρ.t 9)).ok = true
  zz : ∃ zs, (ti P (ρ.t 9)).zero = some zs ∧ zs.length = (ti P (ρ.t 9)).size
  sz9 : (ti P (ρ.t 9)).size = sz
  by9 : (ti P (ρ.t 9)).bytes = by_

theorem ins_nil (L : SlK P ρ sz by_ z) (f22 : P.funcs[ρ.f 22]? = some { Body2.n22 ρ with name := nm }) {G : Hp} {xs : List AV} (hxl : xs.length = sz) (hbig : by_ ≤ LIM) :
    ACalls P (ρ.f 22) [.nils, .int .i64 0, .sl 1 xs] G fun r G' => ∃ b' τ', G b' = none ∧ r = .ms b' 0 1 sz ∧ G' = setH G b' (some (τ', xs)) := by
  intro X w cargs hX hG hA
  have hA' := hA
  simp only [VRs] at hA'
  obtain ⟨v0, t0, h0, hv0, v1, t1, rfl, hv1, v2, t2, rfl, hv2, rfl⟩ := hA'
  have R := rel0 hX hG
  rw [← Own_any] at hv0 hv2
  obtain ⟨cv, w', v, G', hrun, R', hv, hk⟩ := aapp_sound (P := P) (ty := 0) R (t := ρ.t 24) (u := ρ.t 24) (e := ρ.t 9) L.s24 L.k24 L.s24 (by intro k; rw [L.k24]; intro h; cases h) L.s9 L.zz hv0 hv2 (n := 1) (xs := xs) (by simp only [srcCells, L.sz9, hxl, Nat.one_mul, if_true])
    (k := fun r G' => ∃ b' τ', G b' = none ∧ r = .ms b' 0 1 sz ∧ G' = setH G b' (some (τ', xs))) (by
      simp only [aapp, L.sz9, L.by9]
      rw [if_neg (by omega)]
      exact ⟨by unfold LIM; omega, by rw [Nat.one_mul]; exact hbig, fun b hb => ⟨0, b, 0, hb, rfl, rfl⟩⟩)
  simp only [VR] at hv0 hv1 hv2
  subst hv0; subst hv1
  obtain ⟨a, vc, rfl, hx1, hx2, hx3⟩ := hv2
  have hca : cargs = #[.slice none 0 0, .int .i64 (0 : Nat), .slice (some a) 1 vc] := by
    apply Array.ext'; rw [h0]; rfl
  subst hca
  refine Calls.mono (ins_end L.toSlT f22 (n := 0) (c := 0) (by omega) (by omega) (fun _ => ⟨rfl, rfl⟩) (fun ty => hrun)) ?_
  rintro e w'' ⟨rfl, rfl⟩
  obtain ⟨q1, q2⟩ := out0 R'
  exact ⟨v, cv, G', rfl, q1, q2, by rw [← Own_any]; exact hv, hk⟩

theorem ins_c (L : SlK P ρ sz by_ z) (f22 : P.funcs[ρ.f 22]? = some { Body2.n22 ρ with name := nm }) (f29 : Ovl P ρ) {G : Hp} {b n i τ : Nat} {cs xs : List AV} (hb : G b = some (τ, cs)) (hl : cs.length = n * sz) (hs : cs.all AV.scal = true)
    (hxl : xs.length = sz) (hxs : xs.all AV.scal = true) (hsz : 0 < sz) (hi : i ≤ n) (hlim : n + 1 ≤ LIM) (hbig : (n + 1) * by_ ≤ LIM) :
    ACalls P (ρ.f 22) [.ms b 0 n sz, .int .i64 i, .sl 1 xs] G fun r G' => ∃ b' τ', (b' = b ∨ G b' = none) ∧ r = .ms b' 0 (n + 1) sz ∧ G' = setH (setH G b none) b' (some (τ', cs.take (i * sz) ++ xs ++ cs.drop (i * sz))) := by
  intro X w cargs hX hG hA
  have hA' := hA
  simp only [VRs] at hA'
  obtain ⟨v0, t0, h0, hv0, v1, t1, rfl, hv1, v2, t2, rfl, hv2, rfl⟩ := hA'
  have R := rel0 hX hG
  rw [← Own_any] at hv0 hv2
  have hv0' := hv0
  have hv2' := hv2
  simp only [VR] at hv0' hv1 hv2'
  obtain ⟨c, rfl, hnc, hn2, e, ec, hsh, hcap⟩ := hv0'
  subst hv1
  obtain ⟨a, vc, rfl, hx1, hx2, hx3⟩ := hv2'
  have hca : cargs = #[.slice (some ⟨b, 0, none⟩) n c, .int .i64 i, .slice (some a) 1 vc] := by
    apply Array.ext'; rw [h0]
  subst hca
  by_cases hin : i = n
  · subst hin
    obtain ⟨cv, w', v, G', hrun, R', hv, hk⟩ := aapp_sound (P := P) (ty := 0) R (t := ρ.t 24) (u := ρ.t 24) (e := ρ.t 9) L.s24 L.k24 L.s24 (by intro k; rw [L.k24]; intro h; cases h) L.s9 L.zz hv0 hv2 (n := 1) (xs := xs) (by simp only [srcCells, L.sz9, hxl, Nat.one_mul, if_true])
      (k := fun r G' => ∃ b' τ', (b' = b ∨ G b' = none) ∧ r = .ms b' 0 (i + 1) sz ∧ G' = setH (setH G b none) b' (some (τ', cs.take (i * sz) ++ xs ++ cs.drop (i * sz)))) (by
        simp only [aapp, L.sz9, L.by9, hb, true_and]
        refine ⟨hl, hxs, hlim, hbig, fun b' hb' => ⟨b', τ, hb', rfl, ?_⟩⟩
        rw [← hl, List.take_length, List.drop_length, List.append_nil])
    refine Calls.mono (ins_end L.toSlT f22 (n := i) (c := c) (by unfold LIM at hlim; omega) hnc (fun h => by cases h) (fun ty => hrun)) ?_
    rintro e w'' ⟨rfl, rfl⟩
    obtain ⟨q1, q2⟩ := out0 R'
    exact ⟨v, cv, G', rfl, q1, q2, by rw [← Own_any]; exact hv, hk⟩
  · obtain ⟨g1, g2, cc, te, us, rest, g3, g4, g5⟩ := R.gr b τ cs hb
    have hcc : cc = (us ++ rest).toArray := by apply Array.ext'; rw [g4]
    subst hcc
    have hul : us.length = n * sz := by rw [VRs_length _ _ g5]; exact hl
    have hcs : (us ++ rest).length = c * sz := by
      unfold World.shape? at hsh
      rw [g3] at hsh
      simp only [Option.map_some, Option.bind_some, Option.some.injEq, Prod.mk.injEq, List.size_toArray] at hsh
      omega
    have hnil : xs ≠ [] := by intro h; subst h; simp at hxl; omega
    obtain ⟨x0, xt, hx0⟩ : ∃ x0 xt, xs = x0 :: xt := by
      cases xs with
      | nil => exact absurd rfl hnil
      | cons x0 xt => exact ⟨x0, xt, rfl⟩
    have hx3' := hx3
    rw [hx0] at hx3'
    simp only [MR] at hx3'
    obtain ⟨⟨hno, haw, _⟩, _⟩ := hx3'
    have hab : a.block ≠ b := by
      intro h
      apply hno
      rw [h]
      exact .inr (.inl (by rw [hb]; simp))
    obtain ⟨xv, hxv, hxc⟩ := MR_list hx3
    have hxc' : ∀ j v, xv[j]? = some v → w.cell? (a.add j) = some v := fun j v hj => by simpa using hxc j v hj
    have hxvl : xv.length = sz := by rw [VRs_length _ _ hxv]; exact hxl
    have hi' : i < n := by omega
    have hisz : i * sz ≤ n * sz := Nat.mul_le_mul_right _ hi
    have hVl : (us.take (i * sz) ++ xv ++ us.drop (i * sz)).length = (n + 1) * sz := by
      simp only [List.length_append, List.length_take, List.length_drop, hul, hxvl]
      rw [Nat.succ_mul]; omega
    by_cases hroom : n + 1 ≤ c
    · refine Calls.mono (ins_shift L.toSlT f22 f29 hsz (rest := rest) (te := te) hi' (by unfold LIM at hlim; omega) hroom g3 hul hxvl hcs hab hxc' (VRs_one g5 hs) (VRs_one hxv hxs)) ?_
      rintro e' w' ⟨rfl, rest', hrl, rfl⟩
      have hsz2 : (us.take (i * sz) ++ xv ++ us.drop (i * sz) ++ rest').toArray.size = (us ++ rest).toArray.size := by
        rw [List.size_toArray, List.size_toArray, List.length_append, hVl, List.length_append, hul, ← hrl, Nat.succ_mul]; omega
      have R' := R.drew.setG hb (cs' := cs.take (i * sz) ++ xs ++ cs.drop (i * sz)) (c' := (us.take (i * sz) ++ xv ++ us.drop (i * sz) ++ rest').toArray) (vs' := us.take (i * sz) ++ xv ++ us.drop (i * sz)) (rest' := rest') g3 hsz2 rfl
        (VRs_append (VRs_append (VRs_take _ (VRs_drew g5)) (VRs_drew hxv)) (VRs_drop _ (VRs_drew g5))) τ
      obtain ⟨q1, q2⟩ := out0 R'
      refine ⟨_, _, _, rfl, q1, q2, ?_, b, τ, .inl rfl, rfl, by rw [setH_setH]⟩
      simp only [VR]
      refine ⟨c, rfl, hroom, hlim, e, ec, ?_, hcap⟩
      rw [shape_setRow (w := w.drew) g3 hsz2]
      exact hsh
    · refine Calls.mono (ins_grow L.toSlT f22 hsz (rest := rest) (te := te) hi' (by unfold LIM at hlim; omega) (by omega) hnc (by unfold LIM at hbig; exact hbig) g3 hul hxvl haw hxc' (VRs_one g5 hs) (VRs_one hxv hxs)) ?_
      rintro e' w' ⟨q, rest', hq, hql, rfl, rfl⟩
      have hsub : sub (setH G b none) G := sub_setH_none G b
      have Rd := (R.drew.drew).drop hsub
      have S : Stab w (Own X G (fun _ => .any) #[]) w.drew.drew (Own X (setH G b none) (fun _ => .any) #[]) := by
        refine ⟨fun q hq _ => ⟨?_, rfl⟩, Nat.le_refl _, fun _ _ _ h => h⟩
        rintro (hq' | hq' | hq')
        · exact hq (.inl hq')
        · refine hq (.inr (.inl ?_))
          intro hn
          cases hz : setH G b none q with
          | none => exact hq' hz
          | some o => rw [hsub q o hz] at hn; cases hn
        · exact hq (.inr (.inr hq'))
      have R' := Rd.own (us.take (i * sz) ++ xv ++ us.drop (i * sz) ++ rest').toArray (ρ.t 9) τ (cs.take (i * sz) ++ xs ++ cs.drop (i * sz)) (us.take (i * sz) ++ xv ++ us.drop (i * sz)) rest' rfl
        (VRs_append (VRs_append (VRs_take _ (VRs_stab S _ _ g5)) (VRs_stab S _ _ hxv)) (VRs_drop _ (VRs_stab S _ _ g5)))
      have hfree : G w.heap.size = none := R.none_fresh
      obtain ⟨q1, q2⟩ := out0 R'
      refine ⟨_, _, _, rfl, q1, q2, ?_, w.heap.size, τ, .inr hfree, rfl, rfl⟩
      simp only [VR]
      refine ⟨q, rfl, hq, hlim, ρ.t 9, q * sz, ?_, by omega⟩
      unfold World.shape?
      have := heap_alloc_at w.drew.drew (.cells (us.take (i * sz) ++ xv ++ us.drop (i * sz) ++ rest').toArray (ρ.t 9))
      simp only [World.size_drew] at this
      rw [this]
      simp only [List.size_toArray, List.length_append (bs := rest'), hVl, hql]
end Go.Al

set_option linter.unusedVariables false
set_option linter.unusedSimpArgs false
namespace Go.Al
open Go Go.Shelf Go.RowKit Go.Lib Go.Proofs
variable {P : Program} {ρ : Ren} {sz by_ : Nat} {z : Value} {nm nm9 : String}

theorem isAgg_no {t : TypeId} {d : TypeDesc} (h : P.underlying t = some d) (hd : isAggD d = false) : ∀ w, (isAgg t).run P w = .ok false w := by
  intro w
  unfold isAgg
  simp only [Sem.run_bind, run_underlying h, Result.andThen_ok]
  cases d <;> first | rfl | (cases hd)

theorem infos {t : TypeId} {z : Value} {s : Nat} (h : (P.info? t).map (fun i => (i.zero, i.size)) = some (some z, s)) : (∀ w, (Go.sizeOf t).run P w = .ok s w) ∧ ∀ w, (zeroValue t).run P w = .ok z w := by
  cases hi : P.info? t with
  | none => rw [hi] at h; cases h
  | some i =>
    rw [hi] at h
    simp only [Option.map_some, Option.some.injEq, Prod.mk.injEq] at h
    refine ⟨fun w => ?_, fun w => ?_⟩
    · rw [run_sizeOf' hi, h.2]
    · simp [zeroValue, typeInfo, hi, h.1]

theorem SlT.of (mixed : P.follows .mixedOrders = true)
    (t0 : P.underlying (ρ.t 0) = some (.tuple #[])) (j0 : (P.info? (ρ.t 0)).map (fun i => (i.zero, i.size)) = some (some (.tuple #[]), 1))
    (t3 : P.underlying (ρ.t 3) = some (.int .i64)) (j3 : (P.info? (ρ.t 3)).map (fun i => (i.zero, i.size)) = some (some (.int .i64 0), 1))
    (t4 : P.underlying (ρ.t 4) = some .bool) (j4 : (P.info? (ρ.t 4)).map (fun i => (i.zero, i.size)) = some (some (.bool false), 1))
    (t24 : P.underlying (ρ.t 24) = some (.slice (ρ.t 9))) (j24 : (P.info? (ρ.t 24)).map (fun i => (i.zero, i.size)) = some (some (.slice none 0 0), 1))
    (i9 : (P.info? (ρ.t 9)).map (fun i => (i.zero, i.size, i.bytes)) = some (some z, sz, by_)) (zs : z.cells.size = sz) (z1 : z.cells.toList.all (·.oneCell') = true) : SlT P ρ sz by_ z := by
  have j9 : (P.info? (ρ.t 9)).map (fun i => (i.zero, i.size)) = some (some z, sz) := by
    cases hi : P.info? (ρ.t 9) with
    | none => rw [hi] at i9; cases i9
    | some i =>
      rw [hi] at i9
      simp only [Option.map_some, Option.some.injEq, Prod.mk.injEq] at i9 ⊢
      exact ⟨i9.1, i9.2.1⟩
  exact ⟨mixed, t0, isAgg_no t0 rfl, (infos j0).1, (infos j0).2, t3, isAgg_no t3 rfl, (infos j3).1, (infos j3).2, t4, isAgg_no t4 rfl, (infos j4).1, (infos j4).2, (infos j9).1, (infos j9).2, t24, isAgg_no t24 rfl, (infos j24).1, (infos j24).2, i9, zs, fun v hv => by rw [List.all_eq_true] at z1; exact z1 v hv⟩

section
variable {α : Type} {f : α → List AV} {G0 G : Hp} {out : AV} {l : List α}

theorem flat_scal (hs : ∀ x, (f x).all AV.scal = true) (l : List α) : (l.flatMap f).all AV.scal = true := by
  rw [List.all_flatMap]; rw [List.all_eq_true]; intro x _; exact hs x

theorem delG (L : SlT P ρ sz by_ z) (f24 : P.funcs[ρ.f 24]? = some { Body2.n24 ρ with name := nm }) (hf : ∀ x, (f x).length = sz) (hs : ∀ x, (f x).all AV.scal = true) (hsz : 0 < sz) (hg : Grow f sz G0 G out l) {i j : Nat} (hij : i ≤ j) (hj : j ≤ l.length) (hlt : 0 < l.length) :
    ACalls P (ρ.f 24) [out, .int .i64 i, .int .i64 j] G fun r G' => Grow f sz G0 G' r (l.take i ++ l.drop j) := by
  rcases hg with ⟨rfl, rfl, rfl⟩ | ⟨b, τ, hb, rfl, rfl⟩
  · simp at hlt
  · refine (del_c L f24 (setH_same ..) (flat_len hf l) (flat_scal hs l) hsz hij hj).mono ?_
    rintro r G' ⟨rfl, rfl⟩
    refine .inr ⟨b, τ, hb, ?_, ?_⟩
    · rw [List.length_append, List.length_take, List.length_drop]; congr 1; omega
    · rw [setH_setH, flat_take hf, flat_drop hf, List.flatMap_append]

theorem insG (L : SlK P ρ sz by_ z) (f22 : P.funcs[ρ.f 22]? = some { Body2.n22 ρ with name := nm }) (f29 : Ovl P ρ) (hf : ∀ x, (f x).length = sz) (hs : ∀ x, (f x).all AV.scal = true) (hsz : 0 < sz) (hg : Grow f sz G0 G out l) {i : Nat} (x : α) (hi : i ≤ l.length) (hlim : l.length + 1 ≤ LIM) (hbig : (l.length + 1) * by_ ≤ LIM) :
    ACalls P (ρ.f 22) [out, .int .i64 i, .sl 1 (f x)] G fun r G' => Grow f sz G0 G' r (l.take i ++ x :: l.drop i) := by
  rcases hg with ⟨rfl, rfl, rfl⟩ | ⟨b, τ, hb, rfl, rfl⟩
  · have h0 : i = 0 := by simpa using hi
    subst h0
    refine (ins_nil L f22 (hf x) (by simpa using hbig)).mono ?_
    rintro r G' ⟨b', τ', hb', rfl, rfl⟩
    exact .inr ⟨b', τ', hb', rfl, by simp⟩
  · refine (ins_c L f22 f29 (setH_same ..) (flat_len hf l) (flat_scal hs l) (hf x) (hs x) hsz hi hlim hbig).mono ?_
    rintro r G' ⟨b', τ', hb', rfl, rfl⟩
    refine .inr ⟨b', τ', ?_, ?_, ?_⟩
    · rcases hb' with rfl | hb'
      · exact hb
      · unfold setH at hb'
        split at hb'
        · cases hb'
        · exact hb'
    · congr 1; simp; omega
    · rw [setH_setH, flat_take hf, flat_drop hf, List.flatMap_append, List.flatMap_cons, List.append_assoc]
      congr 1
      funext q; unfold setH
      split
      · rename_i h; subst h; exact hb.symm ▸ rfl
      · rfl
end
end Go.Al
namespace Go.Al
open Go
theorem ends_two {P : Program} {rs : List ResultVar} {post : AV → Hp → Prop} {T : Tm} {G : Hp} {x y : AV} (h : rets P rs T G = [x, y]) (hx : x.plain = true) (hy : y.plain = true) (hp : post (.tup [x, y]) G) : AEnds P rs post .ret T G :=
  ends_many h (by simp [hx, hy]) hp
theorem ends_three {P : Program} {rs : List ResultVar} {post : AV → Hp → Prop} {T : Tm} {G : Hp} {x y z : AV} (h : rets P rs T G = [x, y, z]) (hx : x.plain = true) (hy : y.plain = true) (hz : z.plain = true) (hp : post (.tup [x, y, z]) G) : AEnds P rs post .ret T G :=
  ends_many h (by simp [hx, hy, hz]) hp
theorem ends_four {P : Program} {rs : List ResultVar} {post : AV → Hp → Prop} {T : Tm} {G : Hp} {x y z u : AV} (h : rets P rs T G = [x, y, z, u]) (hx : x.plain = true) (hy : y.plain = true) (hz : z.plain = true) (hu : u.plain = true) (hp : post (.tup [x, y, z, u]) G) : AEnds P rs post .ret T G :=
  ends_many h (by simp [hx, hy, hz, hu]) hp
end Go.Al
namespace Go.Al
open Go
theorem ends_one_sub {P : Program} {rs : List ResultVar} {post : AV → Hp → Prop} {T : Tm} {G G' : Hp} {x : AV} (h : rets P rs T G = [x]) (hx : x.plain = true) (hs : sub G' G) (hp : post x G') : AEnds P rs post .ret T G :=
  ⟨.inl rfl, by rw [h]; simpa using hx, x, G', hs, (by rw [h]; exact Frz.refl x), hp⟩
theorem ends_two_sub {P : Program} {rs : List ResultVar} {post : AV → Hp → Prop} {T : Tm} {G G' : Hp} {x y : AV} (h : rets P rs T G = [x, y]) (hx : x.plain = true) (hy : y.plain = true) (hs : sub G' G) (hp : post (.tup [x, y]) G') : AEnds P rs post .ret T G :=
  ⟨.inl rfl, by rw [h]; simp [hx, hy], _, G', hs, (by rw [h]; exact Frz.refl _), hp⟩
theorem ends_none_sub {P : Program} {post : AV → Hp → Prop} {T : Tm} {G G' : Hp} (hs : sub G' G) (hp : post (.tup []) G') : AEnds P [] post .normal T G :=
  ⟨.inr rfl, by simp [rets], _, G', hs, Frz.refl _, hp⟩
/-- only the block and the slice that it holds -/
theorem Grow.cut {α : Type} {f : α → List AV} {sz : Nat} {G0 G : Hp} {out : AV} {l : List α} (h : Grow f sz G0 G out l) {b : Nat} {o o' : Nat × List AV} (e : G0 b = some o) : ∃ h', sub h' (setH G b (some o')) ∧ Grow f sz (one b o') h' out l := by
  rcases h with ⟨rfl, rfl, rfl⟩ | ⟨c, τ, hc, rfl, rfl⟩
  · refine ⟨one b o', fun i q hq => ?_, .inl ⟨rfl, rfl, rfl⟩⟩
    unfold one setH emptyH at hq
    unfold setH
    split at hq
    · rename_i hi; rw [if_pos hi]; exact hq
    · cases hq
  · have hcb : c ≠ b := by rintro rfl; rw [e] at hc; cases hc
    refine ⟨setH (one b o') c (some (τ, l.flatMap f)), fun i q hq => ?_, .inr ⟨c, τ, ?_, rfl, rfl⟩⟩
    · unfold setH at hq
      unfold setH
      by_cases hi : i = c
      · subst hi; rw [if_pos rfl] at hq; rw [if_neg hcb, if_pos rfl]; exact hq
      · rw [if_neg hi] at hq
        unfold one setH emptyH at hq
        split at hq
        · rename_i hi2; rw [if_pos hi2]; exact hq
        · cases hq
    · unfold one setH emptyH; rw [if_neg hcb]
end Go.Al

set_option linter.unusedVariables false
set_option linter.unusedSimpArgs false
set_option linter.unusedSectionVars false
namespace Go.Al
open Go

/-- keys that are in order -/
class KO (κ : Type) where
  lt : κ → κ → Bool
  irr : ∀ a, lt a a = false
  tr : ∀ {a b c}, lt a b = true → lt b c = true → lt a c = true
  tri : ∀ {a b}, lt a b = false → lt b a = false → a = b

instance : KO Int where
  lt a b := decide (a < b)
  irr a := by simp
  tr := by intro a b c h k; simp at *; omega
  tri := by intro a b h k; simp at *; omega

theorem KO_int (a b : Int) : KO.lt a b = decide (a < b) := rfl

section
variable {κ ν : Type} [DecidableEq κ] [KO κ]
open KO

theorem KO.asym {a b : κ} (h : lt a b = true) : lt b a = false := by
  cases hb : lt b a with
  | false => rfl
  | true => have := tr h hb; rw [irr] at this; cases this
theorem KO.ne {a b : κ} (h : lt a b = true) : a ≠ b := by rintro rfl; rw [irr] at h; cases h

/-- in order, no key twice -/
def Srt (L : List (κ × ν)) : Prop := L.Pairwise fun p q => lt p.1 q.1 = true
def posL (L : List (κ × ν)) (k : κ) : Nat := match L with
  | [] => 0
  | p :: r => if lt p.1 k = true then posL r k + 1 else 0
def hasL (L : List (κ × ν)) (k : κ) : Bool := L.any fun p => decide (p.1 = k)
def getL (L : List (κ × ν)) (k : κ) : Option ν := match L with
  | [] => none
  | p :: r => if p.1 = k then some p.2 else getL r k
def setL (L : List (κ × ν)) (k : κ) (v : ν) : List (κ × ν) := match L with
  | [] => [(k, v)]
  | p :: r => if lt p.1 k = true then p :: setL r k v else if p.1 = k then (k, v) :: r else (k, v) :: p :: r
def delL (L : List (κ × ν)) (k : κ) : List (κ × ν) := L.filter fun p => decide (p.1 ≠ k)
def nextL (L : List (κ × ν)) (k : κ) : Option (κ × ν) := L.find? fun p => lt k p.1

theorem Srt.nil : Srt ([] : List (κ × ν)) := List.Pairwise.nil
theorem Srt.cons {p : κ × ν} {r : List (κ × ν)} : Srt (p :: r) ↔ (∀ q ∈ r, lt p.1 q.1 = true) ∧ Srt r := List.pairwise_cons
theorem posL_le (L : List (κ × ν)) (k : κ) : posL L k ≤ L.length := by
  induction L with
  | nil => simp [posL]
  | cons p r ih => simp only [posL, List.length_cons]; split <;> omega
theorem posL_lt {L : List (κ × ν)} (h : Srt L) {k : κ} {i : Nat} (hi : i < L.length) : lt (L[i]).1 k = decide (i < posL L k) := by
  induction L generalizing i with
  | nil => simp at hi
  | cons p r ih =>
    obtain ⟨h1, h2⟩ := Srt.cons.1 h
    simp only [posL]
    cases i with
    | zero =>
      simp only [List.getElem_cons_zero]
      split
      · rename_i hp; rw [hp]; simp
      · rename_i hp; simp at hp; rw [hp]; simp
    | succ i =>
      simp only [List.getElem_cons_succ]
      have hi' : i < r.length := by simpa using hi
      split
      · rename_i hp
        rw [ih h2 hi']; simp
      · rename_i hp
        simp at hp
        have := h1 _ (List.getElem_mem hi')
        cases hq : lt (r[i]).1 k with
        | false => simp
        | true => have := tr this hq; rw [hp] at this; cases this
theorem hasL_pos {L : List (κ × ν)} (h : Srt L) (k : κ) : hasL L k = decide (∃ h : posL L k < L.length, (L[posL L k]).1 = k) := by
  induction L with
  | nil => simp [hasL]
  | cons p r ih =>
    obtain ⟨h1, h2⟩ := Srt.cons.1 h
    simp only [hasL, List.any_cons] at ih ⊢
    rw [ih h2]
    by_cases hp : lt p.1 k = true
    · have e1 : posL (p :: r) k = posL r k + 1 := by simp [posL, hp]
      have hne : p.1 ≠ k := KO.ne hp
      simp only [e1, List.length_cons, List.getElem_cons_succ, Nat.add_lt_add_iff_right, hne, decide_false, Bool.false_or]
    · have e1 : posL (p :: r) k = 0 := by simp [posL, hp]
      simp only [e1, List.length_cons, List.getElem_cons_zero]
      by_cases hk : p.1 = k
      · simp [hk]
      · have : ¬ ∃ h : posL r k < r.length, (r[posL r k]).1 = k := by
          rintro ⟨h3, h4⟩
          have := h1 _ (List.getElem_mem h3)
          rw [h4] at this
          exact hp this
        simp [hk, this]
theorem hasL_get {L : List (κ × ν)} {k : κ} : hasL L k = (getL L k).isSome := by
  induction L with
  | nil => simp [hasL, getL]
  | cons p r ih =>
    simp only [hasL, getL, List.any_cons] at ih ⊢
    by_cases hk : p.1 = k
    · simp [hk]
    · simp [hk, ih]
theorem getL_pos {L : List (κ × ν)} (h : Srt L) {k : κ} (hh : hasL L k = true) : ∃ h : posL L k < L.length, (L[posL L k]).1 = k ∧ getL L k = some (L[posL L k]).2 := by
  have h0 := hh
  rw [hasL_pos h] at hh
  obtain ⟨h1, h2⟩ := of_decide_eq_true hh
  refine ⟨h1, h2, ?_⟩
  clear h0 hh
  induction L with
  | nil => simp at h1
  | cons p r ih =>
    obtain ⟨k1, k2⟩ := Srt.cons.1 h
    by_cases hp : lt p.1 k = true
    · have e1 : posL (p :: r) k = posL r k + 1 := by simp [posL, hp]
      have hne : p.1 ≠ k := KO.ne hp
      simp only [e1, List.getElem_cons_succ, List.length_cons] at h1 h2 ⊢
      simp only [getL, hne, if_false]
      exact ih k2 (by omega) h2
    · have e1 : posL (p :: r) k = 0 := by simp [posL, hp]
      simp only [e1, List.getElem_cons_zero] at h2 ⊢
      simp [getL, h2]
theorem setL_has {L : List (κ × ν)} (h : Srt L) {k : κ} {v : ν} (hh : hasL L k = true) : setL L k v = L.set (posL L k) (k, v) := by
  rw [hasL_pos h] at hh
  obtain ⟨h1, h2⟩ := of_decide_eq_true hh
  clear hh
  induction L with
  | nil => simp at h1
  | cons p r ih =>
    obtain ⟨k1, k2⟩ := Srt.cons.1 h
    by_cases hp : lt p.1 k = true
    · have e1 : posL (p :: r) k = posL r k + 1 := by simp [posL, hp]
      simp only [e1, List.getElem_cons_succ, List.length_cons] at h1 h2 ⊢
      simp only [setL, hp, if_true, List.set_cons_succ]
      rw [ih k2 (by omega) h2]
    · have e1 : posL (p :: r) k = 0 := by simp [posL, hp]
      simp only [e1, List.getElem_cons_zero] at h2 ⊢
      simp only [setL, hp, if_false, h2, if_true, List.set_cons_zero]
      simp [h2, irr]
theorem setL_new {L : List (κ × ν)} (h : Srt L) {k : κ} {v : ν} (hh : hasL L k = false) : setL L k v = L.take (posL L k) ++ (k, v) :: L.drop (posL L k) := by
  induction L with
  | nil => simp [setL, posL]
  | cons p r ih =>
    obtain ⟨k1, k2⟩ := Srt.cons.1 h
    have hh2 : p.1 ≠ k ∧ hasL r k = false := by
      simp only [hasL, List.any_cons, Bool.or_eq_false_iff, decide_eq_false_iff_not] at hh
      exact ⟨hh.1, hh.2⟩
    by_cases hp : lt p.1 k = true
    · have e1 : posL (p :: r) k = posL r k + 1 := by simp [posL, hp]
      simp only [setL, hp, if_true, e1, List.take_succ_cons, List.drop_succ_cons, List.cons_append]
      rw [ih k2 hh2.2]
    · have e1 : posL (p :: r) k = 0 := by simp [posL, hp]
      simp only [setL, hp, if_false, hh2.1, e1, List.take_zero, List.drop_zero, List.nil_append]
      simp
theorem delL_none {L : List (κ × ν)} {k : κ} (hh : hasL L k = false) : delL L k = L := by
  unfold delL
  rw [List.filter_eq_self]
  intro p hp
  simp only [hasL, List.any_eq_false, decide_eq_true_eq] at hh
  simpa using hh p hp
theorem delL_has {L : List (κ × ν)} (h : Srt L) {k : κ} (hh : hasL L k = true) : delL L k = L.take (posL L k) ++ L.drop (posL L k + 1) := by
  rw [hasL_pos h] at hh
  obtain ⟨h1, h2⟩ := of_decide_eq_true hh
  clear hh
  induction L with
  | nil => simp at h1
  | cons p r ih =>
    obtain ⟨k1, k2⟩ := Srt.cons.1 h
    by_cases hp : lt p.1 k = true
    · have e1 : posL (p :: r) k = posL r k + 1 := by simp [posL, hp]
      have hne : p.1 ≠ k := KO.ne hp
      simp only [e1, List.getElem_cons_succ, List.length_cons] at h1 h2 ⊢
      have := ih k2 (by omega) h2
      simp only [delL] at this ⊢
      rw [List.filter_cons_of_pos (by simpa using hne), this]; rfl
    · have e1 : posL (p :: r) k = 0 := by simp [posL, hp]
      simp only [e1, List.getElem_cons_zero] at h2 ⊢
      unfold delL
      rw [List.filter_cons_of_neg (by simp [h2])]
      simp only [List.take_zero, List.nil_append, Nat.zero_add, List.drop_succ_cons, List.drop_zero]
      rw [List.filter_eq_self]
      intro q hq
      have := KO.ne (k1 q hq)
      rw [h2] at this
      simpa using fun e => this e.symm
theorem nextL_pos {L : List (κ × ν)} (h : Srt L) (k : κ) : nextL L k = L[if hasL L k then posL L k + 1 else posL L k]? := by
  induction L with
  | nil => simp [nextL, hasL]
  | cons p r ih =>
    obtain ⟨k1, k2⟩ := Srt.cons.1 h
    have ih := ih k2
    unfold nextL at ih ⊢
    by_cases hp : lt p.1 k = true
    · have e1 : posL (p :: r) k = posL r k + 1 := by simp [posL, hp]
      have hne : p.1 ≠ k := KO.ne hp
      have e2 : hasL (p :: r) k = hasL r k := by simp [hasL, hne]
      rw [List.find?_cons_of_neg (by rw [KO.asym hp]; simp), ih, e1, e2]
      cases hasL r k <;> simp
    · have e1 : posL (p :: r) k = 0 := by simp [posL, hp]
      by_cases hk : p.1 = k
      · have e2 : hasL (p :: r) k = true := by simp [hasL, hk]
        rw [e1, e2, List.find?_cons_of_neg (by rw [hk, irr]; simp)]
        simp only [if_true, Nat.zero_add, List.getElem?_cons_succ]
        cases r with
        | nil => simp
        | cons q r => rw [List.find?_cons_of_pos (by rw [← hk]; exact k1 q (by simp))]; simp
      · have hkp : lt k p.1 = true := by
          cases hq : lt k p.1 with
          | true => rfl
          | false => exact absurd (tri (by simpa using hp) hq) hk
        have e2 : hasL (p :: r) k = false := by
          rw [hasL_pos h, e1]
          simp [hk]
        rw [e1, e2, List.find?_cons_of_pos (by exact hkp)]
        simp

theorem hasL_at {L : List (κ × ν)} {j : Nat} (hj : j < L.length) : hasL L (L[j]).1 = true := by
  simp only [hasL, List.any_eq_true, decide_eq_true_eq]
  exact ⟨L[j], List.getElem_mem hj, rfl⟩
theorem posL_at {L : List (κ × ν)} (h : Srt L) {j : Nat} (hj : j < L.length) : posL L (L[j]).1 = j := by
  have h1 := posL_lt h (k := (L[j]).1) hj
  rw [irr] at h1
  have h2 : ¬ j < posL L (L[j]).1 := of_decide_eq_false h1.symm
  rcases Nat.lt_or_ge (posL L (L[j]).1) j with h3 | h3
  · have h4 := posL_lt h (k := (L[j]).1) (i := posL L (L[j]).1) (by omega)
    have h5 := (List.pairwise_iff_getElem.1 h) (posL L (L[j]).1) j (by omega) hj h3
    rw [h5] at h4; simp at h4
  · omega
theorem nextL_at {L : List (κ × ν)} (h : Srt L) {j : Nat} (hj : j < L.length) : nextL L (L[j]).1 = L[j + 1]? := by
  rw [nextL_pos h, hasL_at hj, posL_at h hj, if_pos rfl]
theorem hasL_mem {L : List (κ × ν)} {k : κ} : hasL L k = true ↔ ∃ v, (k, v) ∈ L := by
  simp only [hasL, List.any_eq_true, decide_eq_true_eq]
  constructor
  · rintro ⟨p, hp, rfl⟩; exact ⟨p.2, hp⟩
  · rintro ⟨v, hv⟩; exact ⟨_, hv, rfl⟩

/- what is kept -/
theorem setL_mem {L : List (κ × ν)} {k : κ} {v : ν} {q : κ × ν} (hq : q ∈ setL L k v) : q = (k, v) ∨ q ∈ L := by
  induction L with
  | nil => simp [setL] at hq; exact .inl hq
  | cons p r ih =>
    simp only [setL] at hq
    split at hq
    · rcases List.mem_cons.1 hq with h | h
      · exact .inr (by simp [h])
      · rcases ih h with h | h
        · exact .inl h
        · exact .inr (by simp [h])
    · split at hq
      · rcases List.mem_cons.1 hq with h | h
        · exact .inl h
        · exact .inr (by simp [h])
      · rcases List.mem_cons.1 hq with h | h
        · exact .inl h
        · exact .inr h
theorem Srt.set {L : List (κ × ν)} (h : Srt L) (k : κ) (v : ν) : Srt (setL L k v) := by
  induction L with
  | nil => simp [setL, Srt]
  | cons p r ih =>
    obtain ⟨k1, k2⟩ := Srt.cons.1 h
    simp only [setL]
    split
    · rename_i hp
      refine Srt.cons.2 ⟨fun q hq => ?_, ih k2⟩
      rcases setL_mem hq with rfl | hq
      · exact hp
      · exact k1 q hq
    · rename_i hp
      split
      · rename_i hk; subst hk
        exact Srt.cons.2 ⟨k1, k2⟩
      · rename_i hk
        have hkp : lt k p.1 = true := by
          cases hq : lt k p.1 with
          | true => rfl
          | false => exact absurd (tri (by simpa using hp) hq) hk
        refine Srt.cons.2 ⟨fun q hq => ?_, h⟩
        rcases List.mem_cons.1 hq with rfl | hq
        · exact hkp
        · exact tr hkp (k1 q hq)
theorem Srt.del {L : List (κ × ν)} (h : Srt L) (k : κ) : Srt (delL L k) := h.filter _
theorem getL_set {L : List (κ × ν)} (h : Srt L) (k : κ) (v : ν) (k' : κ) : getL (setL L k v) k' = if k' = k then some v else getL L k' := by
  induction L with
  | nil =>
    simp only [setL, getL]
    by_cases hk : k = k'
    · subst hk; simp
    · simp [hk, Ne.symm hk]
  | cons p r ih =>
    obtain ⟨k1, k2⟩ := Srt.cons.1 h
    simp only [setL]
    by_cases hp : lt p.1 k = true
    · rw [if_pos hp]
      simp only [getL, ih k2]
      by_cases hk : p.1 = k'
      · have : k' ≠ k := by rw [← hk]; exact KO.ne hp
        simp [hk, this]
      · simp [hk]
    · rw [if_neg hp]
      by_cases hk : p.1 = k
      · rw [if_pos hk]
        simp only [getL]
        by_cases hk' : k = k'
        · subst hk'; simp
        · simp [hk', hk, Ne.symm hk']
      · rw [if_neg hk]
        simp only [getL]
        by_cases hk' : k = k'
        · subst hk'; simp
        · simp [hk', Ne.symm hk']
theorem getL_del {L : List (κ × ν)} (k k' : κ) : getL (delL L k) k' = if k' = k then none else getL L k' := by
  induction L with
  | nil => simp [delL, getL]
  | cons p r ih =>
    unfold delL at ih ⊢
    by_cases hp : p.1 = k
    · rw [List.filter_cons_of_neg (by simp [hp]), ih]
      by_cases hk : k' = k
      · simp [hk]
      · simp [getL, hp, hk, Ne.symm hk]
    · rw [List.filter_cons_of_pos (by simp [hp])]
      simp only [getL, ih]
      by_cases hk : p.1 = k'
      · have : k' ≠ k := by rw [← hk]; exact hp
        simp [hk, this]
      · simp [hk]
theorem getL_mem {L : List (κ × ν)} {k : κ} {v : ν} (hg : getL L k = some v) : (k, v) ∈ L := by
  induction L with
  | nil => simp [getL] at hg
  | cons p r ih =>
    simp only [getL] at hg
    split at hg
    · rename_i hk; injection hg with hg; subst hg; subst hk; simp
    · exact List.mem_cons_of_mem _ (ih hg)
theorem mem_getL {L : List (κ × ν)} (h : Srt L) {k : κ} {v : ν} (hm : (k, v) ∈ L) : getL L k = some v := by
  induction L with
  | nil => cases hm
  | cons p r ih =>
    obtain ⟨k1, k2⟩ := Srt.cons.1 h
    simp only [getL]
    rcases List.mem_cons.1 hm with rfl | hm
    · simp
    · rw [if_neg (KO.ne (k1 _ hm)), ih k2 hm]
theorem getL_some {L : List (κ × ν)} (h : Srt L) {k : κ} {v : ν} : getL L k = some v ↔ (k, v) ∈ L := ⟨getL_mem, mem_getL h⟩
theorem Srt.ext {L M : List (κ × ν)} (h : Srt L) (k : Srt M) (e : ∀ x, getL L x = getL M x) : L = M := by
  induction L generalizing M with
  | nil =>
    cases M with
    | nil => rfl
    | cons q M => have := e q.1; simp [getL] at this
  | cons p L ih =>
    cases M with
    | nil => have := e p.1; simp [getL] at this
    | cons q M =>
      obtain ⟨h1, h2⟩ := Srt.cons.1 h
      obtain ⟨k1, k2⟩ := Srt.cons.1 k
      have a : p = q := by
        have e1 : (p.1, p.2) ∈ q :: M := getL_mem (by rw [← e p.1]; simp [getL])
        have e2 : (q.1, q.2) ∈ p :: L := getL_mem (by rw [e q.1]; simp [getL])
        rcases List.mem_cons.1 e1 with e1 | e1
        · exact e1
        · rcases List.mem_cons.1 e2 with e2 | e2
          · exact e2.symm
          · have a1 := k1 _ e1
            have a2 := h1 _ e2
            have := KO.asym a1
            rw [a2] at this; cases this
      subst a
      congr 1
      refine ih h2 k2 fun x => ?_
      have := e x
      simp only [getL] at this
      by_cases hx : p.1 = x
      · have a1 : getL L x = none := by
          cases hg : getL L x with
          | none => rfl
          | some v => exact absurd hx (KO.ne (h1 _ (getL_mem hg)))
        have a2 : getL M x = none := by
          cases hg : getL M x with
          | none => rfl
          | some v => exact absurd hx (KO.ne (k1 _ (getL_mem hg)))
        rw [a1, a2]
      · simpa [hx] using this
theorem setL_len {L : List (κ × ν)} (h : Srt L) (k : κ) (v : ν) : (setL L k v).length = if hasL L k then L.length else L.length + 1 := by
  cases hh : hasL L k with
  | true => rw [setL_has h hh]; simp
  | false => rw [setL_new h hh]; have := posL_le L k; simp; omega
theorem setL_len_le {L : List (κ × ν)} (h : Srt L) (k : κ) (v : ν) : (setL L k v).length ≤ L.length + 1 := by rw [setL_len h]; split <;> omega
theorem delL_len {L : List (κ × ν)} (h : Srt L) (k : κ) : (delL L k).length + (if hasL L k then 1 else 0) = L.length := by
  cases hh : hasL L k with
  | true => rw [delL_has h hh]; obtain ⟨h1, _⟩ := getL_pos h hh; simp; omega
  | false => rw [delL_none hh]; simp
theorem delL_len_le (L : List (κ × ν)) (k : κ) : (delL L k).length ≤ L.length := List.length_filter_le _ _
end
end Go.Al

set_option linter.unusedVariables false
set_option linter.unusedSimpArgs false
set_option linter.unusedSectionVars false
namespace Go.Al
open Go

/-- a ghost step behind a call: what is no longer owned is frozen -/
theorem ACalls.frz {P : Program} {f : FuncId} {args : List AV} {G : Hp} {p q : AV → Hp → Prop} (h : ACalls P f args G p)
    (k : ∀ r G', p r G' → ∃ r' G'', sub G'' G' ∧ Frz G' G'' r r' ∧ q r' G'') : ACalls P f args G q := by
  intro X w cargs h1 h2 h3
  refine Calls.mono (h X w cargs h1 h2 h3) ?_
  rintro e w' ⟨r, cr, G', a, b, c, d, hp⟩
  obtain ⟨r', G'', hs, hz, hq⟩ := k _ _ hp
  refine ⟨r', cr, G'', a, ?_, ?_, Frz.vr hs c hz d, hq⟩
  · refine ⟨b.os, b.tape, b.output, b.size, fun i hi h0 => ⟨(b.blk i hi h0).1, ?_⟩, b.shape⟩
    cases hq : G'' i with
    | none => rfl
    | some o => have := hs i o hq; rw [(b.blk i hi h0).2] at this; cases this
  · intro i τ cs hi
    obtain ⟨h1, h2, c', ty, vs, rest, h3, h4, h5⟩ := c i τ cs (hs _ _ hi)
    refine ⟨h1, h2, c', ty, vs, rest, h3, h4, VRs_stab (Stab.sub fun j hj => ?_) _ _ h5⟩
    rcases hj with hj | hj
    · exact .inl hj
    · right
      cases hq : G'' j with
      | none => exact absurd hq hj
      | some o => rw [hs j o hq]; simp

section
variable {α : Type} {f : α → List AV} {sz : Nat} {G0 G : Hp} {out : AV} {l : List α}
theorem flat_at0 (hf : ∀ x, (f x).length = sz) {i : Nat} (h : i < l.length) : (l.flatMap f).drop (i * sz) = f l[i] ++ (l.drop (i + 1)).flatMap f := by
  rw [flat_drop hf, List.drop_eq_getElem_cons h, List.flatMap_cons]
theorem flat_at1 (hf : ∀ x, (f x).length = sz) {i j : Nat} (h : i < l.length) (hj : j ≤ sz) : (l.flatMap f).drop (i * sz + j) = (f l[i]).drop j ++ (l.drop (i + 1)).flatMap f := by
  rw [← List.drop_drop, flat_at0 hf h, List.drop_append_of_le_length (by rw [hf]; exact hj)]
theorem flat_set (hf : ∀ x, (f x).length = sz) {i : Nat} (h : i < l.length) (y : α) : (l.set i y).flatMap f = (l.take i).flatMap f ++ f y ++ (l.drop (i + 1)).flatMap f := by
  rw [List.set_eq_take_append_cons_drop, if_pos h, List.flatMap_append, List.flatMap_cons, List.append_assoc]
theorem flat_splice (hf : ∀ x, (f x).length = sz) {i j : Nat} (h : i < l.length) {vs : List AV} {y : α} (hj : j + vs.length ≤ sz) (hy : f y = (f l[i]).take j ++ vs ++ (f l[i]).drop (j + vs.length)) :
    splice (l.flatMap f) (i * sz + j) vs = (l.set i y).flatMap f := by
  rw [flat_set hf h, hy]
  unfold splice
  have hle : i * sz ≤ (l.flatMap f).length := by rw [flat_len hf]; exact Nat.mul_le_mul_right _ (by omega)
  have e1 : (l.flatMap f).take (i * sz + j) = (l.take i).flatMap f ++ (f l[i]).take j := by
    rw [List.take_add, flat_take hf, flat_at0 hf h, List.take_append_of_le_length (by rw [hf]; omega)]
  have e2 : (l.flatMap f).drop (i * sz + j + vs.length) = (f l[i]).drop (j + vs.length) ++ (l.drop (i + 1)).flatMap f := by
    rw [Nat.add_assoc, flat_at1 hf h hj]
  rw [e1, e2]
  simp only [List.append_assoc]

/-- the result of a call that grew a slice, frozen -/
theorem ACalls.grow {P : Program} {g : FuncId} {args : List AV} (h : ACalls P g args G0 fun r G' => Grow f sz G0 G' r l) (hf : ∀ x, (f x).length = sz) :
    ACalls P g args G0 fun r G' => G' = G0 ∧ ∃ s : Option (List α), r = ofS f s ∧ LL s = l := by
  refine h.frz ?_
  intro r G' hg
  obtain ⟨s, hs, hz, hsub⟩ := hg.frz hf
  exact ⟨_, _, hsub, hz, rfl, s, rfl, hs⟩
end

/-! ### loops that are walked round by round -/
def unr (P : Program) (gl : List Nat) (a : CC) (Q : Exit → Tm → Hp → Prop) : Nat → Tm → Hp → Prop
  | 0, _, _ => False
  | n + 1, T, G => ∀ N : Tm → Hp → Prop, (∀ T' G', unr P gl a Q n T' G' → N T' G') → awp P gl a (thn N Q) T G
theorem awp_unroll {P : Program} {gl : List Nat} {Q : Exit → Tm → Hp → Prop} {T : Tm} {G : Hp} {a : CC} (n : Nat) (h : unr P gl a Q n T G) : awp P gl (.loop a) Q T G := by
  refine awp_loop' (unr P gl a Q) n h ?_
  intro n T G hI N hN
  cases n with
  | zero => exact hI.elim
  | succ n => exact hI N fun T' G' h => hN n T' G' (by omega) h
theorem unr_step {P : Program} {gl : List Nat} {Q : Exit → Tm → Hp → Prop} {T : Tm} {G : Hp} {a : CC} {n : Nat} (h : ∀ N : Tm → Hp → Prop, KImp (unr P gl a Q n) N → awp P gl a (thn N Q) T G) : unr P gl a Q (n + 1) T G := fun N hN => h N hN

theorem bytesLess_irr : ∀ x : List UInt8, Op.bytesLess x x = false
  | [] => rfl
  | a :: x => by simp [Op.bytesLess, bytesLess_irr x]
theorem bytesLess_tr : ∀ {x y z : List UInt8}, Op.bytesLess x y = true → Op.bytesLess y z = true → Op.bytesLess x z = true
  | [], [], z, h, k => by simp [Op.bytesLess] at h
  | [], b :: y, [], h, k => by simp [Op.bytesLess] at k
  | [], b :: y, c :: z, h, k => by simp [Op.bytesLess]
  | a :: x, [], z, h, k => by simp [Op.bytesLess] at h
  | a :: x, b :: y, [], h, k => by simp [Op.bytesLess] at k
  | a :: x, b :: y, c :: z, h, k => by
    simp only [Op.bytesLess, Bool.or_eq_true, decide_eq_true_eq, Bool.and_eq_true, beq_iff_eq] at h k ⊢
    rcases h with h | ⟨rfl, h⟩
    · rcases k with k | ⟨rfl, k⟩
      · exact .inl (UInt8.lt_trans h k)
      · exact .inl h
    · rcases k with k | ⟨rfl, k⟩
      · exact .inl k
      · exact .inr ⟨rfl, bytesLess_tr h k⟩
theorem bytesLess_tri : ∀ {x y : List UInt8}, Op.bytesLess x y = false → Op.bytesLess y x = false → x = y
  | [], [], h, k => rfl
  | [], b :: y, h, k => by simp [Op.bytesLess] at h
  | a :: x, [], h, k => by simp [Op.bytesLess] at k
  | a :: x, b :: y, h, k => by
    simp only [Op.bytesLess, Bool.or_eq_false_iff, decide_eq_false_iff_not, Bool.and_eq_false_imp, beq_iff_eq] at h k
    have hab : a = b := by
      have h1 := UInt8.not_lt.1 h.1
      have h2 := UInt8.not_lt.1 k.1
      exact UInt8.le_antisymm h2 h1
    subst hab
    rw [bytesLess_tri (h.2 rfl) (k.2 rfl)]

theorem ba_toList (a : ByteArray) : a.toList = a.data.toList := by
  have key : ∀ (n i : Nat) (r : List UInt8), a.size - i = n → ByteArray.toList.loop a i r = r.reverse ++ a.data.toList.drop i := by
    intro n
    induction n with
    | zero =>
      intro i r h
      unfold ByteArray.toList.loop
      rw [if_neg (by omega)]
      have : a.data.toList.length ≤ i := by simp; have : a.data.size = a.size := rfl; omega
      rw [List.drop_of_length_le this]; simp
    | succ n ih =>
      intro i r h
      unfold ByteArray.toList.loop
      rw [if_pos (by omega), ih (i + 1) _ (by omega)]
      have hi : i < a.data.toList.length := by simp; have : a.data.size = a.size := rfl; omega
      rw [List.drop_eq_getElem_cons hi]
      simp only [List.reverse_cons, List.append_assoc, List.singleton_append]
      congr 2
      simp [ByteArray.get!]
      have hi2 : i < a.data.size := by have : a.data.size = a.size := rfl; omega
      rw [getElem!_pos a.data i hi2]
  have := key a.size 0 [] (by omega)
  unfold ByteArray.toList
  rw [this]; simp
theorem ba_inj {a b : ByteArray} (h : a.toList = b.toList) : a = b := by
  rw [ba_toList, ba_toList] at h
  cases a; cases b; simp at h; rw [h]

instance : KO ByteArray where
  lt a b := Op.bytesLess a.toList b.toList
  irr a := bytesLess_irr _
  tr h k := bytesLess_tr h k
  tri h k := ba_inj (bytesLess_tri h k)
theorem KO_str (a b : ByteArray) : KO.lt a b = Op.bytesLess a.toList b.toList := rfl
theorem ba_eq (a b : ByteArray) : (a.toList == b.toList) = decide (a = b) := by
  by_cases h : a = b
  · subst h; simp
  · have : a.toList ≠ b.toList := fun e => h (ba_inj e)
    simp [h, this]

theorem sbin_eql (x y : ByteArray) : sbin .eql x y = some (.bool (decide (x = y))) := by simp only [sbin, ba_eq]
theorem sbin_neq (x y : ByteArray) : sbin .neq x y = some (.bool (!decide (x = y))) := by simp only [sbin, ba_eq]
theorem sbin_lss (x y : ByteArray) : sbin .lss x y = some (.bool (KO.lt x y)) := by simp only [sbin, KO_str]
theorem ba_le (x y : ByteArray) : (Op.bytesLess x.toList y.toList || x.toList == y.toList) = !KO.lt y x := by
  rw [ba_eq, ← KO_str]
  by_cases h : x = y
  · subst h; simp [KO.irr]
  · simp only [h, decide_false, Bool.or_false]
    cases h1 : KO.lt x y with
    | true => rw [KO.asym h1]; rfl
    | false =>
      cases h2 : KO.lt y x with
      | true => rfl
      | false => exact absurd (KO.tri h1 h2) h
theorem sbin_leq (x y : ByteArray) : sbin .leq x y = some (.bool (!KO.lt y x)) := by simp only [sbin, ba_le]
theorem sbin_gtr (x y : ByteArray) : sbin .gtr x y = some (.bool (KO.lt y x)) := by simp only [sbin, ba_le, Bool.not_not]
theorem sbin_geq (x y : ByteArray) : sbin .geq x y = some (.bool (!KO.lt x y)) := by simp only [sbin, KO_str]
theorem sbin_add {x y : ByteArray} (h : x.size + y.size ≤ LIM) : sbin .add x y = some (.str (x ++ y)) := by simp only [sbin, if_pos h]
theorem ba_size_mk (a : Array UInt8) : (ByteArray.mk a).size = a.size := nrfl rfl
theorem ba_empty : (ByteArray.mk #[]) = ByteArray.empty := nrfl rfl
attribute [simp] ba_size_mk ba_empty sbin_eql sbin_neq sbin_lss sbin_leq sbin_gtr sbin_geq sbin_add

@[simp] theorem isAddr_al (t : TypeId) : isAddr (.alloc t) = true := by simp only [isAddr]
@[simp] theorem isAddr_bx (t : TypeId) (x : Operand) : isAddr (.box t x) = true := by simp only [isAddr]
@[simp] theorem isAddr_pk (c x y : Operand) : isAddr (.pick c x y) = true := by simp only [isAddr]

/-- a shelf's most -/
def maxR0 (n : Int) : Int := if n < 0 then 0 else n
end Go.Al

set_option linter.unusedVariables false
set_option linter.unusedSimpArgs false
set_option linter.unusedSectionVars false
namespace Go.Al
open Go
theorem nodup_le {α : Type} [DecidableEq α] {l m : List α} (h : l.Nodup) (hs : ∀ x ∈ l, x ∈ m) : l.length ≤ m.length := by
  induction l generalizing m with
  | nil => simp
  | cons x l ih =>
    obtain ⟨h1, h2⟩ := List.nodup_cons.1 h
    have hx : x ∈ m := hs x (by simp)
    have := ih h2 (m := m.erase x) fun y hy => by
      have hne : y ≠ x := by rintro rfl; exact h1 hy
      exact (List.mem_erase_of_ne hne).2 (hs y (by simp [hy]))
    rw [List.length_erase_of_mem hx] at this
    have := List.length_pos_of_mem hx
    simp only [List.length_cons]; omega
section
variable {κ ν : Type} [DecidableEq κ] [KO κ]
theorem Srt.nodup {L : List (κ × ν)} (h : Srt L) : (L.map Prod.fst).Nodup := by
  unfold List.Nodup
  rw [List.pairwise_map]
  exact h.imp fun h => KO.ne h
theorem Srt.len_le {L : List (κ × ν)} (h : Srt L) {m : List κ} (hs : ∀ x ∈ L, x.1 ∈ m) : L.length ≤ m.length := by
  have := nodup_le h.nodup (m := m) fun x hx => by
    obtain ⟨y, hy, rfl⟩ := List.mem_map.1 hx
    exact hs y hy
  simpa using this
theorem mem_setL {L : List (κ × ν)} (h : Srt L) {k k0 : κ} {v e : ν} : (k, e) ∈ setL L k0 v ↔ (k = k0 ∧ e = v) ∨ (k ≠ k0 ∧ (k, e) ∈ L) := by
  rw [← getL_some (h.set k0 v), getL_set h, ← getL_some h]
  by_cases hk : k = k0
  · simp [hk]; exact eq_comm
  · simp [hk]
theorem mem_delL {L : List (κ × ν)} {k k0 : κ} {e : ν} : (k, e) ∈ delL L k0 ↔ k ≠ k0 ∧ (k, e) ∈ L := by
  unfold delL
  rw [List.mem_filter]; simp [and_comm]
theorem Srt.mem_ext {L M : List (κ × ν)} (h : Srt L) (k : Srt M) (e : ∀ x, x ∈ L ↔ x ∈ M) : L = M := by
  refine h.ext k fun x => Option.ext fun v => ?_
  rw [getL_some h, getL_some k, e]
theorem getL_at {L : List (κ × ν)} (h : Srt L) {j : Nat} (hj : j < L.length) : getL L (L[j]).1 = some (L[j]).2 := mem_getL h (List.getElem_mem hj)
end
/-- the rest of a slice that is owned -/
theorem aslc_msl {P : Program} {t : TypeId} {b o n z : Nat} {k : IntKind} {i : Int} (hok : (ti P t).ok = true) (hk : (ti P t).isS = true) (he : (ti P (ti P t).el).ok = true) (hz : z = (ti P (ti P t).el).size) (h0 : 0 < i) (h1 : i < n) :
    aslc P t (.ms b o n z) (some (.int k i)) none = some (.ms b (o + i.toNat * z) (n - i.toNat) z) := by
  rw [aslc_ms hok hk he]
  simp only [slcA, bnd_none, bnd_int (show 0 ≤ i by omega)]
  rw [if_pos ⟨by omega, Nat.le_refl _, he, hz⟩, if_neg (by omega), if_pos (by omega)]
/-- two blocks of heaps apart -/
theorem uni_swap {F h : Hp} {b : Nat} {o : Nat × List AV} (hF : F b = none) : uni F (setH h b (some o)) = setH (uni F h) b (some o) := by
  funext i
  unfold uni setH
  by_cases hi : i = b
  · subst hi; simp [hF]
  · simp [hi]
theorem uni_swapF {F h : Hp} {b : Nat} {o : Nat × List AV} (hh : h b = none) : setH (uni F h) b (some o) = uni (setH F b (some o)) h := by
  funext i
  unfold uni setH
  by_cases hi : i = b
  · subst hi; simp
  · simp [hi]
theorem dis_set {F h : Hp} {b : Nat} {o : Nat × List AV} (hd : Dis F h) (hh : h b = none) : Dis (setH F b (some o)) h := by
  intro i
  by_cases hi : i = b
  · subst hi; exact .inr hh
  · rcases hd i with h1 | h1
    · left; unfold setH; rw [if_neg hi]; exact h1
    · exact .inr h1
end Go.Al

set_option linter.unusedVariables false
set_option linter.unusedSimpArgs false
set_option linter.unusedSectionVars false
namespace Go.Al
open Go

/-! ### calls of function values -/
def callB (P : Program) (v : AV) (xs : List AV) (G : Hp) (k : AV → Tm → Hp → Prop) (T : Tm) : Prop := match v with
  | .fn g caps => callable P g = true ∧ xs.all AV.plain = true ∧ CallK P g (xs ++ caps) G k T
  | _ => False
theorem callB_fn (P : Program) (g : Nat) (caps xs : List AV) (G : Hp) (k : AV → Tm → Hp → Prop) (T : Tm) : callB P (.fn g caps) xs G k T = (callable P g = true ∧ xs.all AV.plain = true ∧ CallK P g (xs ++ caps) G k T) := nrfl rfl
theorem eop_callV (P : Program) (dst : Option Nat) (i : Nat) (xs : Array Operand) (ts : Array TypeId) (T : Tm) (G : Hp) (k : AV → Tm → Hp → Prop) :
    eop P dst (.call { callee := .value (.tmp i), args := xs, argTypes := ts }) T G k = callB P (ev T (.tmp i)) (xs.toList.map (ev T)) G k T := by
  simp only [eop, callB, CallK]
  cases ev T (.tmp i) <;> rfl
attribute [simp] callB_fn eop_callV

/-- a heap that has all of another one -/
def Ext (F G : Hp) : Prop := ∀ b o, F b = some o → G b = some o
theorem Ext.refl (F : Hp) : Ext F F := fun _ _ h => h
theorem Ext.uni {F h : Hp} : Ext F (uni F h) := fun b o e => uni_left e
theorem Ext.grow {α : Type} {f : α → List AV} {sz : Nat} {F G0 G : Hp} {out : AV} {l : List α} (h : Ext F G0) (hg : Grow f sz G0 G out l) : Ext F G := fun b o e => hg.base (h b o e)
theorem Ext.split {F G : Hp} (h : Ext F G) : ∃ R, G = Go.Al.uni F R ∧ Dis F R := by
  refine ⟨fun b => match F b with | none => G b | some _ => none, ?_, fun b => ?_⟩
  · funext b
    unfold Go.Al.uni
    cases hb : F b with
    | none => simp [hb]
    | some o => simpa using h b o hb
  · cases hb : F b with
    | none => exact .inl rfl
    | some o => exact .inr (by simp [hb])
/-- a call that only looks, beside more -/
theorem ACalls.ext {P : Program} {f : FuncId} {args : List AV} {F G : Hp} {post : AV → Prop} (h : ACalls P f args F fun r G' => G' = F ∧ post r) (he : Ext F G) : ACalls P f args G fun r G' => G' = G ∧ post r := by
  obtain ⟨R, rfl, hd⟩ := he.split
  rw [uni_comm hd]
  refine (h.frame hd.symm).mono ?_
  rintro r G' ⟨h', hd', rfl, rfl, hp⟩
  exact ⟨rfl, hp⟩

section
variable {α β : Type} {f : α → List AV} {g : β → List AV} {s t : Nat} {G0 G1 G2 : Hp} {a b : AV} {l : List α} {m : List β}
/-- two slices that grow: whichever one last -/
theorem Grow.swap (h : Grow f s G0 G1 a l) (k : Grow g t G1 G2 b m) : ∃ G', Grow g t G0 G' b m ∧ Grow f s G' G2 a l := by
  rcases h with ⟨rfl, rfl, rfl⟩ | ⟨c, τ, hc, rfl, rfl⟩
  · exact ⟨G2, k, .inl ⟨rfl, rfl, rfl⟩⟩
  · rcases k with ⟨rfl, rfl, rfl⟩ | ⟨d, σ, hd, rfl, rfl⟩
    · exact ⟨G0, .inl ⟨rfl, rfl, rfl⟩, .inr ⟨c, τ, hc, rfl, rfl⟩⟩
    · have hne : d ≠ c := by rintro rfl; rw [setH_same] at hd; cases hd
      rw [setH_ne _ _ hne] at hd
      refine ⟨setH G0 d (some (σ, m.flatMap g)), .inr ⟨d, σ, hd, rfl, rfl⟩, .inr ⟨c, τ, ?_, rfl, ?_⟩⟩
      · rw [setH_ne _ _ hne.symm]; exact hc
      · exact setH_comm hne.symm
/-- behind a sieve: what is kept, what goes -/
theorem Grow.sieve {F h : Hp} {sb : Nat} {o o' : Nat × List AV} (hF : F sb = none) (hat : uni F h sb = some o) (hk : Grow f s (uni F h) G1 a l) (hg : Grow g t G1 G2 b m) (hgl : ∀ x, (g x).length = t) :
    ∃ hn, ∃ r : Option (List β), sub (uni F hn) (setH G2 sb (some o')) ∧ Dis F hn ∧ Grow f s (one sb o') hn a l ∧ Frz (setH G2 sb (some o')) (uni F hn) b (ofS g r) ∧ LL r = m := by
  -- what is kept
  have key : ∃ hn, Grow f s (one sb o') hn a l ∧ Dis F hn ∧ (∀ i q, hn i = some q → i = sb ∧ q = o' ∨ i ≠ sb ∧ G1 i = some q) := by
    rcases hk with ⟨rfl, rfl, rfl⟩ | ⟨c, τ, hc, rfl, rfl⟩
    · refine ⟨one sb o', .inl ⟨rfl, rfl, rfl⟩, fun i => ?_, fun i q hq => ?_⟩
      · by_cases hi : i = sb
        · subst hi; exact .inl hF
        · right; unfold one; rw [setH_ne _ _ hi]; rfl
      · by_cases hi : i = sb
        · subst hi; rw [one_same] at hq; injection hq with hq; exact .inl ⟨rfl, hq.symm⟩
        · unfold one at hq; rw [setH_ne _ _ hi] at hq; cases hq
    · have hcs : c ≠ sb := by rintro rfl; rw [hat] at hc; cases hc
      have hFc : F c = none := by
        cases hq : F c with
        | none => rfl
        | some q => rw [uni_left hq] at hc; cases hc
      refine ⟨setH (one sb o') c (some (τ, l.flatMap f)), .inr ⟨c, τ, by unfold one; rw [setH_ne _ _ hcs]; rfl, rfl, rfl⟩, fun i => ?_, fun i q hq => ?_⟩
      · by_cases hi : i = c
        · subst hi; exact .inl hFc
        · rw [setH_ne _ _ hi]
          by_cases hi2 : i = sb
          · subst hi2; exact .inl hF
          · right; unfold one; rw [setH_ne _ _ hi2]; rfl
      · by_cases hi : i = c
        · subst hi; rw [setH_same] at hq; exact .inr ⟨hcs, by rw [setH_same]; exact hq⟩
        · rw [setH_ne _ _ hi] at hq
          by_cases hi2 : i = sb
          · subst hi2; rw [one_same] at hq; injection hq with hq; exact .inl ⟨rfl, hq.symm⟩
          · unfold one at hq; rw [setH_ne _ _ hi2] at hq; cases hq
  obtain ⟨hn, hgr, hdis, hin⟩ := key
  have hsb1 : G1 sb = some o := hk.base hat
  have hF1 : ∀ i q, F i = some q → i ≠ sb ∧ G1 i = some q := fun i q hq => ⟨fun e => (by rw [e, hF] at hq; cases hq), hk.base (uni_left hq)⟩
  have hall : ∀ i q, uni F hn i = some q → i = sb ∧ q = o' ∨ i ≠ sb ∧ G1 i = some q := by
    intro i q hq
    cases hf : F i with
    | some q' =>
      rw [uni_left hf] at hq; injection hq with hq; subst hq
      exact .inr (hF1 i q' hf)
    | none => rw [uni_right hf] at hq; exact hin i q hq
  have hsub : sub (uni F hn) (setH G2 sb (some o')) := by
    intro i q hq
    rcases hall i q hq with ⟨rfl, rfl⟩ | ⟨h1, h2⟩
    · exact setH_same ..
    · rw [setH_ne _ _ h1]; exact hg.base h2
  rcases hg with ⟨rfl, rfl, rfl⟩ | ⟨d, σ, hd, rfl, rfl⟩
  · exact ⟨hn, none, hsub, hdis, hgr, .refl _, rfl⟩
  · refine ⟨hn, some m, hsub, hdis, hgr, ?_, rfl⟩
    have hds : d ≠ sb := by rintro rfl; rw [hsb1] at hd; cases hd
    have hdn : uni F hn d = none := by
      cases hq : uni F hn d with
      | none => rfl
      | some q =>
        rcases hall d q hq with ⟨h1, _⟩ | ⟨_, h2⟩
        · exact absurd h1 hds
        · rw [hd] at h2; cases h2
    have := Frz.ms (G := setH (setH G1 d (some (σ, m.flatMap g))) sb (some o')) (G' := uni F hn) d 0 m.length t σ (m.flatMap g) _ (by rw [setH_ne _ _ hds, setH_same]) hdn (Frzs.refl _)
    have e : (((m.flatMap g).drop 0).take (m.length * t)) = m.flatMap g := by rw [List.drop_zero, List.take_of_length_le (by rw [flat_len hgl]; exact Nat.le_refl _)]
    rw [e] at this
    exact this
end
end Go.Al

set_option linter.unusedVariables false
set_option linter.unusedSimpArgs false
namespace Go.Al
open Go
/-! ### ghost steps within a function (a region that is marked in the seat's frz.txt) -/
section
variable {P : Program} {gl : List Nat} {Q : Exit → Tm → Hp → Prop} {T : Tm} {G : Hp}
theorem awp_fz0 (k : Q .normal T G) : awp P gl .fz Q T G := ⟨T, G, .refl T G, k⟩
theorem awp_frz (i : Nat) {x y : AV} {G1 : Hp} (hT : T i = x) (hx : x.plain = true) (hs : sub G1 G) (hz : Frz G G1 x y) (k : awp P gl .fz Q (upd T i y) G1) : awp P gl .fz Q T G := by
  obtain ⟨T', G', h1, h2⟩ := k
  subst hT
  exact ⟨T', G', .step T G i y G1 T' G' hx hs hz h1, h2⟩
end
end Go.Al

