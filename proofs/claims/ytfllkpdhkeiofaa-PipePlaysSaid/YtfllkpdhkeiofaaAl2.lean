import Derived.Test.YtfllkpdhkeiofaaAl1
import Derived.Shelf.Spec.SlicesInsert
import Derived.Lib.AppendZerosOnto
import Derived.Laws.NewBlocks
set_option linter.unusedVariables false
set_option linter.unusedSimpArgs false
namespace Go.Al
open Go Go.Shelf Go.RowKit Go.Lib Go.Proofs
variable {P : Program} {ρ : Ren} {sz by_ : Nat} {z : Value} {nm nm9 : String}

theorem Own_any (X : Nat → Prop) (G : Hp) : Own X G (fun _ => .any) #[] = fun b => X b ∨ G b ≠ none := by
  funext b
  apply propext
  unfold Own
  constructor
  · rintro (h | h | ⟨t, cs, h, _⟩)
    · exact .inl h
    · exact .inr h
    · cases h
  · rintro (h | h)
    · exact .inl h
    · exact .inr (.inl h)

/-- a frame of no slots -/
theorem rel0 {X : Nat → Prop} {G : Hp} {w : World} (hX : ∀ b, X b → b < w.heap.size) (hG : GR w (fun b => X b ∨ G b ≠ none) X G) : Rel ⟨X, G, w, 0⟩ (fun _ => .any) G ⟨#[], []⟩ w := by
  refine ⟨rfl, rfl, hX, Tr.refl G w, ?_, ?_, ?_, ?_⟩
  · show GR w (Own X G (fun _ => .any) #[]) X G
    rw [Own_any]; exact hG
  · intro t cs h; cases h
  · intro t t' cs cs' _ h; cases h
  · intro i; show SlotR _ _ _ _ AV.any _; simp only [SlotR, VR]

theorem out0 {X : Nat → Prop} {G G' : Hp} {w w' : World} (R : Rel ⟨X, G, w, 0⟩ (fun _ => .any) G' ⟨#[], []⟩ w') : Tr G w G' w' ∧ GR w' (fun b => X b ∨ G' b ≠ none) X G' := by
  refine ⟨R.tr, ?_⟩
  have := R.gr
  rw [Own_any] at this
  exact this

theorem del_c (L : SlT P ρ sz by_ z) (f24 : P.funcs[ρ.f 24]? = some { Body2.n24 ρ with name := nm }) {G : Hp} {b n i j τ : Nat} {cs : List AV} (hb : G b = some (τ, cs)) (hl : cs.length = n * sz) (hs : cs.all AV.scal = true) (hsz : 0 < sz) (hij : i ≤ j) (hj : j ≤ n) :
    ACalls P (ρ.f 24) [.ms b 0 n sz, .int .i64 i, .int .i64 j] G fun r G' => r = .ms b 0 (n - (j - i)) sz ∧ G' = setH G b (some (τ, cs.take (i * sz) ++ cs.drop (j * sz))) := by
  intro X w cargs hX hG hA
  have hA' := hA
  simp only [VRs, VR] at hA'
  obtain ⟨v0, t0, h0, ⟨cap, rfl, hn, hn2, e, c, hsh, hcap⟩, v1, t1, rfl, rfl, v2, t2, rfl, rfl, rfl⟩ := hA'
  have hca : cargs = #[.slice (some ⟨b, 0, none⟩) n cap, .int .i64 i, .int .i64 j] := by
    apply Array.ext'; rw [h0]
  subst hca
  have R := rel0 hX hG
  obtain ⟨g1, g2, cc, te, us, rest, g3, g4, g5⟩ := R.gr b τ cs hb
  have hcc : cc = (us ++ rest).toArray := by apply Array.ext'; rw [g4]
  subst hcc
  have hul : us.length = n * sz := by rw [VRs_length _ _ g5]; exact hl
  have hcs : (us ++ rest).length = cap * sz := by
    unfold World.shape? at hsh
    rw [g3] at hsh
    simp only [Option.map_some, Option.bind_some, Option.some.injEq, Prod.mk.injEq, List.size_toArray] at hsh
    omega
  have hm : n ≤ 140737488355328 := hn2
  refine Calls.mono (del_raw L f24 b cap n i j us rest w g3 hul hn hm hcs hij hj (VRs_one g5 hs)) ?_
  rintro e' w' ⟨rfl, W, rest', hW, hrl, rfl⟩
  have hisz : i * sz ≤ n * sz := Nat.mul_le_mul_right _ (by omega)
  have hjsz : j * sz ≤ n * sz := Nat.mul_le_mul_right _ hj
  have hji : (j - i) * sz = j * sz - i * sz := Nat.sub_mul ..
  have hijs : i * sz ≤ j * sz := Nat.mul_le_mul_right _ hij
  have key : ∀ W, W.heap = w.heap → Rel ⟨X, G, w, 0⟩ (fun _ => .any) G ⟨#[], []⟩ W → ∃ r cr G', Ending.returned (Value.slice (some ⟨b, 0, none⟩) (n - (j - i)) cap) = .returned cr ∧ Tr G w G' (W.setRow b (us.take (i * sz) ++ us.drop (j * sz) ++ rest').toArray) ∧ GR (W.setRow b (us.take (i * sz) ++ us.drop (j * sz) ++ rest').toArray) (fun b => X b ∨ G' b ≠ none) X G' ∧ VR (W.setRow b (us.take (i * sz) ++ us.drop (j * sz) ++ rest').toArray) (fun b => X b ∨ G' b ≠ none) r cr ∧ r = .ms b 0 (n - (j - i)) sz ∧ G' = setH G b (some (τ, cs.take (i * sz) ++ cs.drop (j * sz))) := by
    intro W hWh RW
    have g3' : W.heap[b]? = some (.cells (us ++ rest).toArray te (0, 0)) := by rw [hWh]; exact g3
    obtain ⟨g1', g2', cc', te', us', rest'', g3'', g4', g5'⟩ := RW.gr b τ cs hb
    have hsz2 : (us.take (i * sz) ++ us.drop (j * sz) ++ rest').toArray.size = (us ++ rest).toArray.size := by
      simp only [List.size_toArray, List.length_append, List.length_take, List.length_drop, hrl, hul]; omega
    have hus : us' = us := by
      rw [g3'] at g3''
      injection g3'' with g3''; injection g3'' with g3'' _ _
      rw [← g3''] at g4'
      have hl' : us'.length = us.length := by rw [VRs_length _ _ g5', hul]; exact hl
      exact (List.append_inj g4'.symm hl').1
    subst hus
    have R' := RW.setG hb (cs' := cs.take (i * sz) ++ cs.drop (j * sz)) (c' := (us'.take (i * sz) ++ us'.drop (j * sz) ++ rest').toArray) (vs' := us'.take (i * sz) ++ us'.drop (j * sz)) (rest' := rest') g3' hsz2 rfl (VRs_append (VRs_take _ g5') (VRs_drop _ g5')) τ
    obtain ⟨q1, q2⟩ := out0 R'
    refine ⟨_, _, _, rfl, q1, q2, ?_, rfl, rfl⟩
    simp only [VR]
    refine ⟨cap, rfl, by omega, by omega, e, c, ?_, hcap⟩
    rw [shape_setRow g3' hsz2]
    unfold World.shape? at hsh ⊢
    rw [hWh]; exact hsh
  rcases hW with rfl | rfl
  · exact key _ rfl R
  · exact key _ rfl R.drew
end Go.Al

set_option linter.unusedVariables false
set_option linter.unusedSimpArgs false
namespace Go.Al
open Go Go.Shelf Go.RowKit Go.Lib Go.Proofs
variable {P : Program} {ρ : Ren} {sz by_ : Nat} {z : Value} {nm nm9 : String}

/-- overlaps: the second slice is in a block that is owned (never frozen), the first elsewhere -/
theorem overlaps_own {w : World} {tS tR e : TypeId} (ht : P.underlying tS = some (.slice e)) {size : Nat} (hz : ∀ w, (Go.sizeOf e).run P w = .ok size w)
    {a b : Addr} {la ca lb cb : Nat} (hne : a.block ≠ b.block) {c : Array Value} {te : TypeId} (hg : w.heap[b.block]? = some (.cells c te (0, 0))) (hc : c.size ≠ 0) {u : Value} (ha : w.cell? a = some u) :
    (Extern.SlicesOverlaps.overlaps #[tS, tS] #[tR] #[.slice (some a) la ca, .slice (some b) lb cb]).run P w = .ok (.bool false) w := by
  have hnb : (a.block != b.block) = true := by simpa using hne
  have hnb' : (a.block == b.block) = false := by simpa using hne
  have hsb : w.shape? b.block = some (te, c.size) := by unfold World.shape?; rw [hg]
  obtain ⟨ta, na, hsa⟩ : ∃ ta na, w.shape? a.block = some (ta, na + 1) := by
    unfold World.cell? at ha; unfold World.shape?
    cases hq : w.heap[a.block]? with
    | none => rw [hq] at ha; cases ha
    | some o =>
      rw [hq] at ha
      cases o <;> try (cases ha; done)
      rename_i c0 e0 f0
      simp only at ha
      split at ha
      · cases ha
      · have := (Array.getElem?_eq_some_iff.1 ha).1
        exact ⟨e0, c0.size - 1, by simp only; rw [show c0.size - 1 + 1 = c0.size by omega]⟩
  have hfb : ∀ k, w.frozen? { block := b.block, off := k } = false := by
    intro k; unfold World.frozen?; simp [hg]
  have hfb' : w.frozen? b = false := by
    unfold World.frozen?; rw [hg]; simp
  change Sem.run P (α := Value) (do
    let some t := (#[tS, tS] : Array TypeId)[0]? | stuck "slices.overlaps: no parameter types"
    let .slice elem ← underlying t | stuck "slices.overlaps: slice type expected"
    let size ← sizeOf elem
    match (some a : Option Addr), (some b : Option Addr) with
    | some a, some b =>
      if la = 0 ∨ lb = 0 ∨ size = 0 then pure (Value.bool false)
      else if a.block != b.block && (← frozen a) && (← frozen b) then unsupported .addressObserved
      else do
        if a.block != b.block then do
          noView a; noView b
          if ← mayBeOne a b then return Value.bool ((← choose (.extern "sameAddr.stringBytes" 2)) == 1)
        pure (Value.bool (a.block == b.block && a.off < b.off + lb * size && b.off < a.off + la * size))
    | _, _ => pure (Value.bool false)) w = _
  by_cases h0 : la = 0 ∨ lb = 0 ∨ size = 0
  · simp [run_underlying ht, hz, h0]
  · obtain ⟨k, hk⟩ : ∃ k, c.size = k + 1 := ⟨c.size - 1, by omega⟩
    rw [hk] at hsb
    cases hfa : w.frozen? a <;> cases hfe : w.frozen? { block := a.block, off := na + 1 } <;>
    simp [run_underlying ht, hz, h0, hnb, hnb', frozen, noView, viewAt, mayBeOne, stringish, shape, Sem.run, hsa, hsb, hfb, hfb', hfa, hfe]

/-- copy into an owned block: all is read before anything is written -/
theorem copy_own {w : World} {dT sT ty elem : TypeId} {b o dLen dCap : Nat} {a : Addr} {sLen sCap : Nat} {news : List Value} {cur : Array Value} {te : TypeId} (hu : P.underlying dT = some (.slice elem)) (hs : (P.info? elem).map (·.size) = some sz)
    (hg : w.heap[b]? = some (.cells cur te (0, 0))) (hn : news.length = Nat.min sLen dLen * sz) (hsrc : ∀ j v, news[j]? = some v → w.cell? (a.add j) = some v) (hfit : o + news.length ≤ cur.size) (h1 : ∀ v ∈ news, v.oneCell' = true) :
    (Builtin.copy_ #[dT, sT] ty #[.slice (some ⟨b, o, none⟩) dLen dCap, .slice (some a) sLen sCap]).run P w = .ok (goInt (Nat.min sLen dLen)) (w.setRow b (cur.toList.take o ++ news ++ cur.toList.drop (o + news.length)).toArray) := by
  have hl := run_loadCells_list (P := P) w a news hsrc
  have hst := run_storeCells_at (P := P) b o te news 0 cur w hg (by simpa using hfit) h1
  simp only [Nat.add_zero] at hst
  cases hq : P.info? elem with
  | none => simp [hq] at hs
  | some i =>
    have hi : i.size = sz := by simpa [hq] using hs
    subst hi
    rw [hn] at hl
    simp [Builtin.copy_, run_underlying hu, Builtin.lenOf, Builtin.firstCells, sizeOf, typeInfo, hq, hl, hst]

theorem setRow_alloc (w : World) (e : TypeId) (r0 r2 : Array Value) : (w.alloc (.cells r0 e)).setRow w.heap.size r2 = w.alloc (.cells r2 e) := by
  have e1 : (w.alloc (.cells r0 e)).heap[w.heap.size]? = some (.cells r0 e (0, 0)) := heap_alloc_at w (.cells r0 e)
  have hh : ((w.alloc (.cells r0 e)).setRow w.heap.size r2).heap = (w.alloc (.cells r2 e)).heap := by
    apply Array.ext_getElem?
    intro k
    by_cases hk : k = w.heap.size
    · subst hk
      rw [setRow_heap _ _ _ _ _ _ e1]
      exact (heap_alloc_at w (.cells r2 e)).symm
    · rw [setRow_other _ _ _ _ hk]
      simp only [World.alloc, Array.getElem?_push, hk, if_false]
  cases w
  simp only [World.setRow, World.alloc] at hh ⊢
  rw [hh]

/-- the entry of the model for slices.overlaps -/
def Ovl (P : Program) (ρ : Ren) : Prop := ∃ fn, P.funcs[ρ.f 29]? = some fn ∧ (fn.name == "runtime.NumGoroutine") = false ∧ fn.body.isNone = true ∧ Extern.findNext fn = none ∧ Extern.find fn = some (Extern.SlicesOverlaps.overlaps #[(ρ.t 24), (ρ.t 24)] #[(ρ.t 4)])
theorem Ovl.run (h : Ovl P ρ) (args : Array Value) (w : World) : (callFunc (ρ.f 29) args).run P w = ((Extern.SlicesOverlaps.overlaps #[(ρ.t 24), (ρ.t 24)] #[(ρ.t 4)] args).run P w).andThen fun v w' => .ok (.value v) w' := by
  obtain ⟨fn, h1, h2, h3, h4, h5⟩ := h
  exact run_callFunc_extern h1 h2 h3 h4 h5 args w

/-- Insert at the end is an append -/
theorem ins_end (L : SlT P ρ sz by_ z) (f22 : P.funcs[ρ.f 22]? = some { Body2.n22 ρ with name := nm }) {base a : Option Addr} {n c vc : Nat} {w w' : World} {cv : Value} (hm : n ≤ 140737488355328) (hnc : n ≤ c) (hnil : base = none → n = 0 ∧ c = 0)
    (hrun : ∀ ty, (Builtin.append_ #[ρ.t 24, ρ.t 24] ty #[.slice base n c, .slice a 1 vc]).run P w = .ok cv w') :
    Calls P (ρ.f 22) #[.slice base n c, .int .i64 n, .slice a 1 vc] w fun e w'' => e = .returned cv ∧ w'' = w' := by
  have mixed := L.mixed; have t0 := L.t0; have a0 := L.a0; have z0 := L.z0; have v0 := L.v0; have t3 := L.t3; have a3 := L.a3; have z3 := L.z3; have v3 := L.v3; have t4 := L.t4; have a4 := L.a4; have z4 := L.z4; have v4 := L.v4; have z9 := L.z9; have v9 := L.v9; have t24 := L.t24; have a24 := L.a24; have z24 := L.z24; have v24 := L.v24
  have u0 := run_underlying L.t0; have u3 := run_underlying L.t3; have u4 := run_underlying L.t4; have u24 := run_underlying L.t24
  go_enter f22, Body2.n22_ntmps ρ
  cases base with
  | none =>
    obtain ⟨h1, h2⟩ := hnil rfl
    subst h1; subst h2
    go_wp2_with (at_builtin; refine Lib.wpList_append_run _ rfl _ _ _ _ rfl _ _ rfl rfl _ _ (hrun _) ?_)
    go_ret
    exact ⟨rfl, rfl⟩
  | some a0 =>
    obtain ⟨ab, ao, asp⟩ := a0
    go_wp2_with (at_builtin; refine Lib.wpList_append_run _ rfl _ _ _ _ rfl _ _ rfl rfl _ _ (hrun _) ?_)
    all_goals (go_ret; exact ⟨rfl, rfl⟩)

set_option maxHeartbeats 4000000 in
set_option maxRecDepth 100000 in
/-- Insert in place -/
theorem ins_shift (L : SlT P ρ sz by_ z) (f22 : P.funcs[ρ.f 22]? = some { Body2.n22 ρ with name := nm }) (f29 : Ovl P ρ) (hsz : 0 < sz) {b n c i vc : Nat} {a : Addr} {te : TypeId} {us xs rest : List Value} {w : World} (hi : i < n) (hm : n ≤ 140737488355328) (hroom : n + 1 ≤ c)
    (hg : w.heap[b]? = some (.cells (us ++ rest).toArray te (0, 0))) (hl : us.length = n * sz) (hxl : xs.length = sz) (hcap : (us ++ rest).length = c * sz) (hab : a.block ≠ b) (hxs : ∀ j v, xs[j]? = some v → w.cell? (a.add j) = some v)
    (h1 : ∀ v ∈ us, v.oneCell' = true) (h1x : ∀ v ∈ xs, v.oneCell' = true) :
    Calls P (ρ.f 22) #[.slice (some ⟨b, 0, none⟩) n c, .int .i64 i, .slice (some a) 1 vc] w fun e w' => e = .returned (.slice (some ⟨b, 0, none⟩) (n + 1) c) ∧
      ∃ rest', rest'.length + sz = rest.length ∧ w' = w.drew.setRow b (us.take (i * sz) ++ xs ++ us.drop (i * sz) ++ rest').toArray := by
  have mixed := L.mixed; have t0 := L.t0; have a0 := L.a0; have z0 := L.z0; have v0 := L.v0; have t3 := L.t3; have a3 := L.a3; have z3 := L.z3; have v3 := L.v3; have t4 := L.t4; have a4 := L.a4; have z4 := L.z4; have v4 := L.v4; have z9 := L.z9; have v9 := L.v9; have t24 := L.t24; have a24 := L.a24; have z24 := L.z24; have v24 := L.v24
  have u0 := run_underlying L.t0; have u3 := run_underlying L.t3; have u4 := run_underlying L.t4; have u24 := run_underlying L.t24
  have hsi : (P.info? (ρ.t 9)).map (·.size) = some sz := by
    obtain ⟨i0, hi0, h0, h1, h2⟩ := info_parts L.i9
    rw [hi0]; simp [h1]
  have hz2 : ¬ ((i : Int) = (n : Int)) := by omega
  have hcell : w.cell? a = some (xs[0]'(by omega)) := by
    have := hxs 0 _ (List.getElem?_eq_getElem (by omega))
    simpa [Addr.add] using this
  have hcs0 : (us ++ rest).toArray.size ≠ 0 := by
    rw [List.size_toArray, List.length_append, hl]
    have := Nat.mul_le_mul_right sz (show 1 ≤ n by omega)
    omega
  have hov : ∀ lb cb, (callFunc (ρ.f 29) #[.slice (some a) 1 vc, .slice (some ⟨b, (i + 1) * sz, none⟩) lb cb]).run P w = .ok (.value (.bool false)) w := fun lb cb => by
    rw [f29.run,
      overlaps_own (b := ⟨b, (i + 1) * sz, none⟩) L.t24 L.z9 hab hg hcs0 hcell]
    rfl
  have hw1 : IntKind.i64.wrap ((i : Int) + 1) = (i : Int) + 1 := by rw [IntKind.wrap_i64]; omega
  have hw2 : IntKind.i64.wrap ((n : Int) + 1) = (n : Int) + 1 := by rw [IntKind.wrap_i64]; omega
  have hcc : ¬ ((c : Int) < (n : Int) + 1) := by omega
  have hmul : n * sz = i * sz + (n - i) * sz := by rw [← Nat.add_mul]; congr 1; omega
  have hmul1 : (i + 1) * sz = i * sz + sz := Nat.succ_mul ..
  have hdl : (us.drop (i * sz)).length = (n - i) * sz := by rw [List.length_drop, hl]; omega
  have hisz : i * sz ≤ us.length := by rw [hl]; omega
  have hrl : sz ≤ rest.length := by
    have := Nat.mul_le_mul_right sz hroom
    rw [List.length_append, hl] at hcap
    rw [Nat.succ_mul] at this; omega
  have hmin1 : Nat.min (n + 1 - i) (n - i) = n - i := by simp only [Nat.min_def]; split <;> omega
  have hmin2 : Nat.min 1 (n + 1 - i) = 1 := by simp only [Nat.min_def]; split <;> omega
  have hcp1 := fun ty dc sc => copy_own (P := P) (w := w.drew) (dT := ρ.t 24) (sT := ρ.t 24) (ty := ty) (b := b) (o := (i + 1) * sz) (dLen := n - i) (dCap := dc) (a := ⟨b, i * sz, none⟩) (sLen := n + 1 - i) (sCap := sc) (news := us.drop (i * sz)) L.t24 hsi hg (by rw [hmin1, hdl])
    (fun j v hj => by
      rw [Addr.add_lit]
      show w.cell? _ = _
      rw [List.getElem?_drop] at hj
      have hlt := (List.getElem?_eq_some_iff.1 hj).1
      simp only [World.cell?, hg]
      rw [List.getElem?_toArray, List.getElem?_append_left hlt]; exact hj)
    (by rw [List.size_toArray, List.length_append, hl, hdl]; omega) (fun v hv => h1 v (List.mem_of_mem_drop hv))
  rw [hmin1] at hcp1
  obtain ⟨r1, hr1⟩ : ∃ r1, r1 = (us ++ rest).toArray.toList.take ((i + 1) * sz) ++ us.drop (i * sz) ++ (us ++ rest).toArray.toList.drop ((i + 1) * sz + (us.drop (i * sz)).length) := ⟨_, rfl⟩
  rw [← hr1] at hcp1
  obtain ⟨W1, hW1⟩ : ∃ W1, W1 = w.drew.setRow b r1.toArray := ⟨_, rfl⟩
  rw [← hW1] at hcp1
  have hW1g : W1.heap[b]? = some (.cells r1.toArray te (0, 0)) := by
    rw [hW1, setRow_heap w.drew b (us ++ rest).toArray _ te (0, 0) hg]
  have hr1l : r1.length = (us ++ rest).length := by
    rw [hr1]
    show ((us ++ rest).take _ ++ _ ++ (us ++ rest).drop _).length = _
    simp only [List.length_append, List.length_take, List.length_drop, hl]; omega
  have hcp2 := fun ty dc => copy_own (P := P) (w := W1) (dT := ρ.t 24) (sT := ρ.t 24) (ty := ty) (b := b) (o := i * sz) (dLen := n + 1 - i) (dCap := dc) (a := a) (sLen := 1) (sCap := vc) (news := xs) L.t24 hsi hW1g (by rw [hmin2, hxl, Nat.one_mul])
    (fun j v hj => by
      rw [hW1, cell_setRow_other _ _ _ _ (by rw [add_block]; exact hab)]
      exact hxs j v hj)
    (by rw [List.size_toArray, hr1l, List.length_append, hl, hxl]; omega) h1x
  rw [hmin2] at hcp2
  obtain ⟨W2, hW2⟩ : ∃ W2, W2 = W1.setRow b (r1.toArray.toList.take (i * sz) ++ xs ++ r1.toArray.toList.drop (i * sz + xs.length)).toArray := ⟨_, rfl⟩
  rw [← hW2] at hcp2
  have hfin : Hid (∃ rest', rest'.length + sz = rest.length ∧ W2 = w.drew.setRow b (us.take (i * sz) ++ xs ++ us.drop (i * sz) ++ rest').toArray) := by
    refine ⟨rest.drop sz, by rw [List.length_drop]; omega, ?_⟩
    rw [hW2, hW1, setRow_setRow]
    congr 1
    apply congrArg
    show r1.take _ ++ xs ++ r1.drop _ = _
    have e1 : r1 = us.take (i * sz) ++ ((us ++ rest).drop (i * sz)).take sz ++ us.drop (i * sz) ++ rest.drop sz := by
      rw [hr1]
      show (us ++ rest).take _ ++ _ ++ (us ++ rest).drop _ = _
      have e2 : (us ++ rest).take ((i + 1) * sz) = us.take (i * sz) ++ ((us ++ rest).drop (i * sz)).take sz := by
        rw [hmul1, List.take_add, List.take_append_of_le_length hisz]
      have e3 : (us ++ rest).drop ((i + 1) * sz + (us.drop (i * sz)).length) = rest.drop sz := by
        rw [hdl, show (i + 1) * sz + (n - i) * sz = us.length + sz by omega, List.drop_append]
        simp
      rw [e2, e3]
    have htl : (us.take (i * sz)).length = i * sz := by rw [List.length_take]; omega
    have hml : (((us ++ rest).drop (i * sz)).take sz).length = sz := by rw [List.length_take, List.length_drop, List.length_append]; omega
    have e4 : r1.take (i * sz) = us.take (i * sz) := by
      rw [e1, List.append_assoc, List.append_assoc, List.take_left' htl]
    have e5 : r1.drop (i * sz + xs.length) = us.drop (i * sz) ++ rest.drop sz := by
      rw [e1, List.append_assoc, List.drop_left' (by rw [List.length_append, htl, hml, hxl])]
    rw [e4, e5]
    simp only [List.append_assoc]
  have hb1 : (0 : Int) ≤ (i : Int) + 1 := by omega
  have hin : i ≤ n := by omega
  have htn : ((i : Int) + 1).toNat = i + 1 := by omega
  have hb2 : ¬ (c = i + 1) := by omega
  have hb3 : (i : Int) ≤ (n : Int) + 1 := by omega
  have hb4 : ¬ (c = i) := by omega
  clear hW2 hW1 hW1g hr1 hr1l hmul hmul1 hdl hisz hrl hmin1 hmin2 hg hcap hcs0 hcell hl hxl
  go_enter f22, Body2.n22_ntmps ρ
  go_wp2_with (simp only [hov])
  go_region_law_o (refine step_runI rfl (v' := goInt ((n - i : Nat) : Int)) (w' := W1) (by simp [execOp, resolve, invoke, builtin, Act.eval, Act.put, hcp1, Result.andThen]) ?_)
  go_wp2_with (at_builtin; refine wpList_copy_runI _ rfl _ _ (ρ.t 24) (ρ.t 24) rfl _ _ rfl rfl (hcp2 _ _) ?_)
  go_ret
  exact ⟨rfl, hfin.out⟩
end Go.Al

set_option linter.unusedVariables false
set_option linter.unusedSimpArgs false
namespace Go.Al
open Go Go.Shelf Go.RowKit Go.Lib Go.Proofs
variable {P : Program} {ρ : Ren} {sz by_ : Nat} {z : Value} {nm nm9 : String}

theorem zeroCells_one (L : SlT P ρ sz by_ z) (n : Nat) : ∀ v ∈ (Builtin.zeroCells z.cells n).toList, v.oneCell' = true := by
  intro v hv
  simp only [Builtin.zeroCells, Array.toList_map, List.mem_map] at hv
  obtain ⟨j, hj, rfl⟩ := hv
  have h0 : z.cells.size ≠ 0 := by
    intro h0
    rw [h0] at hj; simp at hj
  have : j % z.cells.size < z.cells.size := Nat.mod_lt _ (by omega)
  refine L.z1 _ ?_
  rw [getElem!_pos z.cells (j % z.cells.size) this]
  exact Array.mem_toList_iff.2 (Array.getElem_mem this)
theorem zeroCells_len (L : SlT P ρ sz by_ z) (n : Nat) : (Builtin.zeroCells z.cells n).toList.length = n * sz := by simp [Builtin.zeroCells, L.zs]

set_option maxHeartbeats 4000000 in
set_option maxRecDepth 100000 in
/-- Insert where there is no room -/
theorem ins_grow (L : SlT P ρ sz by_ z) (f22 : P.funcs[ρ.f 22]? = some { Body2.n22 ρ with name := nm }) (hsz : 0 < sz) {b n c i vc : Nat} {a : Addr} {te : TypeId} {us xs rest : List Value} {w : World} (hi : i < n) (hm : n + 1 ≤ 140737488355328) (hroom : c < n + 1) (hnc : n ≤ c) (hbig : (n + 1) * by_ ≤ 140737488355328)
    (hg : w.heap[b]? = some (.cells (us ++ rest).toArray te (0, 0))) (hl : us.length = n * sz) (hxl : xs.length = sz) (haw : a.block < w.heap.size) (hxs : ∀ j v, xs[j]? = some v → w.cell? (a.add j) = some v)
    (h1 : ∀ v ∈ us, v.oneCell' = true) (h1x : ∀ v ∈ xs, v.oneCell' = true) :
    Calls P (ρ.f 22) #[.slice (some ⟨b, 0, none⟩) n c, .int .i64 i, .slice (some a) 1 vc] w fun e w' => ∃ q rest', n + 1 ≤ q ∧ (n + 1) * sz + rest'.length = q * sz ∧ e = .returned (.slice (some ⟨w.heap.size, 0, none⟩) (n + 1) q) ∧
      w' = w.drew.drew.alloc (.cells (us.take (i * sz) ++ xs ++ us.drop (i * sz) ++ rest').toArray (ρ.t 9)) := by
  have mixed := L.mixed; have t0 := L.t0; have a0 := L.a0; have z0 := L.z0; have v0 := L.v0; have t3 := L.t3; have a3 := L.a3; have z3 := L.z3; have v3 := L.v3; have t4 := L.t4; have a4 := L.a4; have z4 := L.z4; have v4 := L.v4; have z9 := L.z9; have v9 := L.v9; have t24 := L.t24; have a24 := L.a24; have z24 := L.z24; have v24 := L.v24
  have u0 := run_underlying L.t0; have u3 := run_underlying L.t3; have u4 := run_underlying L.t4; have u24 := run_underlying L.t24
  obtain ⟨i0, hi0, hzz, hzs, hzb⟩ := info_parts L.i9
  have hsi : (P.info? (ρ.t 9)).map (·.size) = some sz := by rw [hi0]; simp [hzs]
  have hz2 : ¬ ((i : Int) = (n : Int)) := by omega
  have hmul : n * sz = i * sz + (n - i) * sz := by rw [← Nat.add_mul]; congr 1; omega
  have hmul1 : (i + 1) * sz = i * sz + sz := Nat.succ_mul ..
  have hmul2 : (n + 1 - i) * sz = (n - i) * sz + sz := by rw [show n + 1 - i = (n - i) + 1 by omega, Nat.succ_mul]
  have hdl : (us.drop (i * sz)).length = (n - i) * sz := by rw [List.length_drop, hl]; omega
  have hisz : i * sz ≤ us.length := by rw [hl]; omega
  have hbw : b < w.heap.size := (Array.getElem?_eq_some_iff.1 hg).1
  have hkk : (n : Int) + 1 - (i : Int) = ((n + 1 - i : Nat) : Int) := by omega
  have hik : i + (n + 1 - i) = n + 1 := by omega
  have hold : (Builtin.firstCells i0.size i (.slice (some ⟨b, 0, none⟩) i c)).run P w.drew = .ok (us.take (i * sz)).toArray w.drew :=
    run_firstCells (by rw [List.length_take, hzs]; omega) (fun a0 ha j v hj => by
      injection ha with ha; subst ha
      rw [Addr.add_lit, Nat.zero_add]
      show w.cell? _ = _
      have hlt := (List.getElem?_eq_some_iff.1 hj).1
      rw [List.length_take] at hlt
      rw [List.getElem?_take_of_lt (by omega)] at hj
      simp only [World.cell?, hg]
      rw [List.getElem?_toArray, List.getElem?_append_left (by omega)]; exact hj) (by intro h; cases h)
  have hrz : ∀ ty, (Builtin.append_ #[(ρ.t 24), (ρ.t 3)] ty #[.slice (some ⟨b, 0, none⟩) i c, .int .i64 ((n : Int) + 1 - (i : Int))]).run P w =
      .ok (.slice (some ⟨w.heap.size, 0, none⟩) (n + 1) (grownCap w (n + 1) c (ρ.t 9))) (w.drew.alloc (.cells ((us.take (i * sz)).toArray ++ Builtin.zeroCells z.cells (n + 1 - i) ++ Builtin.zeroCells z.cells (grownCap w (n + 1) c (ρ.t 9) - (n + 1))) (ρ.t 9))) := fun ty => by
    have hq1 : (n + 1 - i) * by_ ≤ (n + 1) * by_ := Nat.mul_le_mul_right _ (by omega)
    have h := Lib.run_append_grow_zeros w (ρ.t 24) (ρ.t 3) ty (ρ.t 9) i0 _ .i64 .i64 L.t24 L.t3 hi0 hzz (some ⟨b, 0, none⟩) i c (us.take (i * sz)) hold (n + 1 - i) (by omega) (by omega) (by omega) (by omega) (by rw [hzb]; omega) (by rw [hzb, hik]; exact growslice_fits hroom hbig)
    rw [hik] at h
    rw [hkk]
    exact h
  obtain ⟨G, hG⟩ : ∃ G, G = grownCap w (n + 1) c (ρ.t 9) := ⟨_, rfl⟩
  have hGn : n + 1 ≤ G := by rw [hG]; exact grownCap_ge w _ _ _
  obtain ⟨ROW, hROW⟩ : ∃ ROW : List Value, ROW = us.take (i * sz) ++ (Builtin.zeroCells z.cells (n + 1 - i)).toList ++ (Builtin.zeroCells z.cells (G - (n + 1))).toList := ⟨_, rfl⟩
  have hRR : (us.take (i * sz)).toArray ++ Builtin.zeroCells z.cells (n + 1 - i) ++ Builtin.zeroCells z.cells (G - (n + 1)) = ROW.toArray := by
    apply Array.ext'; rw [hROW]; simp
  rw [← hG, hRR] at hrz
  have hRl : ROW.length = (n + 1) * sz + (G - (n + 1)) * sz := by
    rw [hROW]
    simp only [List.length_append, zeroCells_len L, List.length_take]
    rw [Nat.min_eq_left hisz, ← Nat.add_mul, hik]
  have hGs : (n + 1) * sz + (G - (n + 1)) * sz = G * sz := by rw [← Nat.add_mul]; congr 1; omega
  have hn1 : (n + 1) * sz = n * sz + sz := Nat.succ_mul ..
  obtain ⟨N, hN⟩ : ∃ N, N = w.heap.size := ⟨_, rfl⟩
  obtain ⟨W1, hW1⟩ : ∃ W1, W1 = w.drew.alloc (.cells ROW.toArray (ρ.t 9)) := ⟨_, rfl⟩
  rw [← hW1] at hrz
  have hW1g : W1.heap[N]? = some (.cells ROW.toArray (ρ.t 9) (0, 0)) := by rw [hW1, hN]; exact heap_alloc_at w.drew _
  have hW1b : ∀ k, k < w.heap.size → W1.heap[k]? = w.heap[k]? := fun k hk => by rw [hW1]; exact heap_alloc_old w.drew _ hk
  have hmin1 : Nat.min 1 (n + 1 - i) = 1 := by simp only [Nat.min_def]; split <;> omega
  have hmin2 : Nat.min (n - i) (n - i) = n - i := Nat.min_self _
  have hcpA := fun ty dc => copy_own (P := P) (w := W1) (dT := ρ.t 24) (sT := ρ.t 24) (ty := ty) (b := N) (o := i * sz) (dLen := n + 1 - i) (dCap := dc) (a := a) (sLen := 1) (sCap := vc) (news := xs) L.t24 hsi hW1g (by rw [hmin1, hxl, Nat.one_mul])
    (fun j v hj => by
      have := hxs j v hj
      rw [← this]
      exact cell?_congr (by rw [add_block]; exact hW1b _ haw))
    (by rw [List.size_toArray, hRl, hxl]; omega) h1x
  rw [hmin1] at hcpA
  obtain ⟨r1, hr1⟩ : ∃ r1, r1 = ROW.toArray.toList.take (i * sz) ++ xs ++ ROW.toArray.toList.drop (i * sz + xs.length) := ⟨_, rfl⟩
  rw [← hr1] at hcpA
  obtain ⟨W2, hW2⟩ : ∃ W2, W2 = W1.setRow N r1.toArray := ⟨_, rfl⟩
  rw [← hW2] at hcpA
  have hr1l : r1.length = ROW.length := by
    rw [hr1]
    show (ROW.take _ ++ _ ++ ROW.drop _).length = _
    simp only [List.length_append, List.length_take, List.length_drop, hxl]; omega
  have hW2g : W2.heap[N]? = some (.cells r1.toArray (ρ.t 9) (0, 0)) := by rw [hW2, setRow_heap W1 N ROW.toArray _ (ρ.t 9) (0, 0) hW1g]
  have hbN : b ≠ N := by omega
  have hcpB := fun ty dc sc => copy_own (P := P) (w := W2.drew) (dT := ρ.t 24) (sT := ρ.t 24) (ty := ty) (b := N) (o := (i + 1) * sz) (dLen := n - i) (dCap := dc) (a := ⟨b, i * sz, none⟩) (sLen := n - i) (sCap := sc) (news := us.drop (i * sz)) L.t24 hsi hW2g (by rw [hmin2, hdl])
    (fun j v hj => by
      rw [Addr.add_lit]
      show W2.cell? _ = _
      rw [hW2, cell_setRow_other _ _ _ _ hbN]
      rw [List.getElem?_drop] at hj
      have hlt := (List.getElem?_eq_some_iff.1 hj).1
      simp only [World.cell?, hW1b b hbw, hg]
      rw [List.getElem?_toArray, List.getElem?_append_left hlt]; exact hj)
    (by rw [List.size_toArray, hr1l, hRl, hdl]; omega) (fun v hv => h1 v (List.mem_of_mem_drop hv))
  rw [hmin2] at hcpB
  obtain ⟨W3, hW3⟩ : ∃ W3, W3 = W2.drew.setRow N (r1.toArray.toList.take ((i + 1) * sz) ++ us.drop (i * sz) ++ r1.toArray.toList.drop ((i + 1) * sz + (us.drop (i * sz)).length)).toArray := ⟨_, rfl⟩
  rw [← hW3] at hcpB
  have hfin : Hid (∃ rest' : List Value, (n + 1) * sz + rest'.length = G * sz ∧ W3 = w.drew.drew.alloc (.cells (us.take (i * sz) ++ xs ++ us.drop (i * sz) ++ rest').toArray (ρ.t 9))) := by
    have htl : (us.take (i * sz)).length = i * sz := by rw [List.length_take]; omega
    have e1 : ROW.take (i * sz) = us.take (i * sz) := by rw [hROW, List.append_assoc, List.take_left' htl]
    have e2 : r1 = us.take (i * sz) ++ xs ++ ROW.drop (i * sz + sz) := by
      rw [hr1]; show ROW.take _ ++ xs ++ ROW.drop _ = _
      rw [e1, hxl]
    have e3 : r1.take ((i + 1) * sz) = us.take (i * sz) ++ xs := by
      rw [e2, List.take_left' (by rw [List.length_append, htl, hxl, hmul1])]
    refine ⟨r1.drop ((i + 1) * sz + (us.drop (i * sz)).length), by rw [List.length_drop, hr1l, hRl, hdl]; omega, ?_⟩
    rw [hW3]
    show (W2.drew).setRow N (r1.take _ ++ _ ++ r1.drop _).toArray = _
    rw [e3, hW2]
    show ((W1.drew).setRow N _).setRow N _ = _
    rw [setRow_setRow, hW1, hN]
    exact setRow_alloc (w.drew.drew) (ρ.t 9) ROW.toArray _
  have hb1 : (0 : Int) ≤ (i : Int) + 1 := by omega
  have hin : i ≤ n := by omega
  have htn : ((i : Int) + 1).toNat = i + 1 := by omega
  have hw1 : IntKind.i64.wrap ((i : Int) + 1) = (i : Int) + 1 := by rw [IntKind.wrap_i64]; omega
  have hw2 : IntKind.i64.wrap ((n : Int) + 1) = (n : Int) + 1 := by rw [IntKind.wrap_i64]; omega
  have hw3 : IntKind.i64.wrap ((n : Int) + 1 - (i : Int)) = (n : Int) + 1 - (i : Int) := by rw [IntKind.wrap_i64]; omega
  have hz3 : (c : Int) < (n : Int) + 1 := by omega
  have hGi : ¬ (G = i) := by omega
  have hGim : ¬ (G = i + 1) := by omega
  have hci : ¬ (c = i) := by omega
  have hb3 : (i : Int) ≤ (n : Int) := by omega
  rw [← hN] at hrz ⊢
  have hGs' : Hid (n + 1 ≤ G) := hGn
  clear hW3 hW2 hW1 hW1g hW2g hr1 hr1l hROW hRR hRl hG hmul hmul1 hmul2 hdl hisz hmin1 hmin2 hg hl hxl hkk hik hold hGs hn1 hN hW1b
  go_enter f22, Body2.n22_ntmps ρ
  go_wp2_with (first
    | (at_builtin; refine Lib.wpList_append_run _ rfl _ _ _ _ rfl _ _ rfl rfl _ _ (hrz _) ?_)
    | (at_builtin; refine wpList_copy_runI _ rfl _ _ (ρ.t 24) (ρ.t 24) rfl _ _ rfl rfl (hcpA _ _) ?_))
  go_region_law_o (refine step_runI rfl (v' := goInt ((n - i : Nat) : Int)) (w' := W3) (by simp [execOp, resolve, invoke, builtin, Act.eval, Act.put, hcpB, Result.andThen]) ?_)
  go_wp2
  go_ret
  obtain ⟨rest', hr, hw⟩ := hfin.out
  exact ⟨G, rest', hGs'.out, hr, rfl, hw⟩
end Go.Al

set_option linter.unusedVariables false
set_option linter.unusedSimpArgs false
namespace Go.Al
open Go Go.Shelf Go.RowKit Go.Lib Go.Proofs
variable {P : Program} {ρ : Ren} {sz by_ : Nat} {z : Value} {nm nm9 : String}

/-- what the logic knows of the types -/
structure SlK (P : Program) (ρ : Ren) (sz by_ : Nat) (z : Value) : Prop extends SlT P ρ sz by_ z where
  s24 : (ti P (ρ.t 24)).ok = true
  k24 : (ti P (ρ.t 24)).kd = .slc (ρ.t 9)
  s9 : (ti P (ρ.t 9)).ok = true
  zz : ∃ zs, (ti P (ρ.t 9)).zero = some zs ∧ zs.length = (ti P (ρ.t 9)).size
  sz9 : (ti P (ρ.t 9)).size = sz
  by9 : (ti P (ρ.t 9)).bytes = by_

theorem ins_nil (L : SlK P ρ sz by_ z) (f22 : P.funcs[ρ.f 22]? = some { Body2.n22 ρ with name := nm }) {G : Hp} {xs : List AV} (hxl : xs.length = sz) (hbig : by_ ≤ LIM) :
    ACalls P (ρ.f 22) [.nils, .int .i64 0, .sl 1 xs] G fun r G' => ∃ b' τ', G b' = none ∧ r = .ms b' 0 1 sz ∧ G' = setH G b' (some (τ', xs)) := by
  intro X w cargs hX hG hA
  have hA' := hA
  simp only [VRs] at hA'
  obtain ⟨v0, t0, h0, hv0, v1, t1, rfl, hv1, v2, t2, rfl, hv2, rfl⟩ := hA'
  have R := rel0 hX hG
  rw [← Own_any] at hv0 hv2
  obtain ⟨cv, w', v, G', hrun, R', hv, hk⟩ := aapp_sound (P := P) (ty := 0) R (t := ρ.t 24) (u := ρ.t 24) (e := ρ.t 9) L.s24 L.k24 L.s24 (by intro k; rw [L.k24]; intro h; cases h) L.s9 L.zz hv0 hv2 (n := 1) (xs := xs) (by simp only [srcCells, L.sz9, hxl, Nat.one_mul, if_true])
    (k := fun r G' => ∃ b' τ', G b' = none ∧ r = .ms b' 0 1 sz ∧ G' = setH G b' (some (τ', xs))) (by
      simp only [aapp, L.sz9, L.by9]
      rw [if_neg (by omega)]
      exact ⟨by unfold LIM; omega, by rw [Nat.one_mul]; exact hbig, fun b hb => ⟨0, b, 0, hb, rfl, rfl⟩⟩)
  simp only [VR] at hv0 hv1 hv2
  subst hv0; subst hv1
  obtain ⟨a, vc, rfl, hx1, hx2, hx3⟩ := hv2
  have hca : cargs = #[.slice none 0 0, .int .i64 (0 : Nat), .slice (some a) 1 vc] := by
    apply Array.ext'; rw [h0]; rfl
  subst hca
  refine Calls.mono (ins_end L.toSlT f22 (n := 0) (c := 0) (by omega) (by omega) (fun _ => ⟨rfl, rfl⟩) (fun ty => hrun)) ?_
  rintro e w'' ⟨rfl, rfl⟩
  obtain ⟨q1, q2⟩ := out0 R'
  exact ⟨v, cv, G', rfl, q1, q2, by rw [← Own_any]; exact hv, hk⟩

theorem ins_c (L : SlK P ρ sz by_ z) (f22 : P.funcs[ρ.f 22]? = some { Body2.n22 ρ with name := nm }) (f29 : Ovl P ρ) {G : Hp} {b n i τ : Nat} {cs xs : List AV} (hb : G b = some (τ, cs)) (hl : cs.length = n * sz) (hs : cs.all AV.scal = true)
    (hxl : xs.length = sz) (hxs : xs.all AV.scal = true) (hsz : 0 < sz) (hi : i ≤ n) (hlim : n + 1 ≤ LIM) (hbig : (n + 1) * by_ ≤ LIM) :
    ACalls P (ρ.f 22) [.ms b 0 n sz, .int .i64 i, .sl 1 xs] G fun r G' => ∃ b' τ', (b' = b ∨ G b' = none) ∧ r = .ms b' 0 (n + 1) sz ∧ G' = setH (setH G b none) b' (some (τ', cs.take (i * sz) ++ xs ++ cs.drop (i * sz))) := by
  intro X w cargs hX hG hA
  have hA' := hA
  simp only [VRs] at hA'
  obtain ⟨v0, t0, h0, hv0, v1, t1, rfl, hv1, v2, t2, rfl, hv2, rfl⟩ := hA'
  have R := rel0 hX hG
  rw [← Own_any] at hv0 hv2
  have hv0' := hv0
  have hv2' := hv2
  simp only [VR] at hv0' hv1 hv2'
  obtain ⟨c, rfl, hnc, hn2, e, ec, hsh, hcap⟩ := hv0'
  subst hv1
  obtain ⟨a, vc, rfl, hx1, hx2, hx3⟩ := hv2'
  have hca : cargs = #[.slice (some ⟨b, 0, none⟩) n c, .int .i64 i, .slice (some a) 1 vc] := by
    apply Array.ext'; rw [h0]
  subst hca
  by_cases hin : i = n
  · subst hin
    obtain ⟨cv, w', v, G', hrun, R', hv, hk⟩ := aapp_sound (P := P) (ty := 0) R (t := ρ.t 24) (u := ρ.t 24) (e := ρ.t 9) L.s24 L.k24 L.s24 (by intro k; rw [L.k24]; intro h; cases h) L.s9 L.zz hv0 hv2 (n := 1) (xs := xs) (by simp only [srcCells, L.sz9, hxl, Nat.one_mul, if_true])
      (k := fun r G' => ∃ b' τ', (b' = b ∨ G b' = none) ∧ r = .ms b' 0 (i + 1) sz ∧ G' = setH (setH G b none) b' (some (τ', cs.take (i * sz) ++ xs ++ cs.drop (i * sz)))) (by
        simp only [aapp, L.sz9, L.by9, hb, true_and]
        refine ⟨hl, hxs, hlim, hbig, fun b' hb' => ⟨b', τ, hb', rfl, ?_⟩⟩
        rw [← hl, List.take_length, List.drop_length, List.append_nil])
    refine Calls.mono (ins_end L.toSlT f22 (n := i) (c := c) (by unfold LIM at hlim; omega) hnc (fun h => by cases h) (fun ty => hrun)) ?_
    rintro e w'' ⟨rfl, rfl⟩
    obtain ⟨q1, q2⟩ := out0 R'
    exact ⟨v, cv, G', rfl, q1, q2, by rw [← Own_any]; exact hv, hk⟩
  · obtain ⟨g1, g2, cc, te, us, rest, g3, g4, g5⟩ := R.gr b τ cs hb
    have hcc : cc = (us ++ rest).toArray := by apply Array.ext'; rw [g4]
    subst hcc
    have hul : us.length = n * sz := by rw [VRs_length _ _ g5]; exact hl
    have hcs : (us ++ rest).length = c * sz := by
      unfold World.shape? at hsh
      rw [g3] at hsh
      simp only [Option.map_some, Option.bind_some, Option.some.injEq, Prod.mk.injEq, List.size_toArray] at hsh
      omega
    have hnil : xs ≠ [] := by intro h; subst h; simp at hxl; omega
    obtain ⟨x0, xt, hx0⟩ : ∃ x0 xt, xs = x0 :: xt := by
      cases xs with
      | nil => exact absurd rfl hnil
      | cons x0 xt => exact ⟨x0, xt, rfl⟩
    have hx3' := hx3
    rw [hx0] at hx3'
    simp only [MR] at hx3'
    obtain ⟨⟨hno, haw, _⟩, _⟩ := hx3'
    have hab : a.block ≠ b := by
      intro h
      apply hno
      rw [h]
      exact .inr (.inl (by rw [hb]; simp))
    obtain ⟨xv, hxv, hxc⟩ := MR_list hx3
    have hxc' : ∀ j v, xv[j]? = some v → w.cell? (a.add j) = some v := fun j v hj => by simpa using hxc j v hj
    have hxvl : xv.length = sz := by rw [VRs_length _ _ hxv]; exact hxl
    have hi' : i < n := by omega
    have hisz : i * sz ≤ n * sz := Nat.mul_le_mul_right _ hi
    have hVl : (us.take (i * sz) ++ xv ++ us.drop (i * sz)).length = (n + 1) * sz := by
      simp only [List.length_append, List.length_take, List.length_drop, hul, hxvl]
      rw [Nat.succ_mul]; omega
    by_cases hroom : n + 1 ≤ c
    · refine Calls.mono (ins_shift L.toSlT f22 f29 hsz (rest := rest) (te := te) hi' (by unfold LIM at hlim; omega) hroom g3 hul hxvl hcs hab hxc' (VRs_one g5 hs) (VRs_one hxv hxs)) ?_
      rintro e' w' ⟨rfl, rest', hrl, rfl⟩
      have hsz2 : (us.take (i * sz) ++ xv ++ us.drop (i * sz) ++ rest').toArray.size = (us ++ rest).toArray.size := by
        rw [List.size_toArray, List.size_toArray, List.length_append, hVl, List.length_append, hul, ← hrl, Nat.succ_mul]; omega
      have R' := R.drew.setG hb (cs' := cs.take (i * sz) ++ xs ++ cs.drop (i * sz)) (c' := (us.take (i * sz) ++ xv ++ us.drop (i * sz) ++ rest').toArray) (vs' := us.take (i * sz) ++ xv ++ us.drop (i * sz)) (rest' := rest') g3 hsz2 rfl
        (VRs_append (VRs_append (VRs_take _ (VRs_drew g5)) (VRs_drew hxv)) (VRs_drop _ (VRs_drew g5))) τ
      obtain ⟨q1, q2⟩ := out0 R'
      refine ⟨_, _, _, rfl, q1, q2, ?_, b, τ, .inl rfl, rfl, by rw [setH_setH]⟩
      simp only [VR]
      refine ⟨c, rfl, hroom, hlim, e, ec, ?_, hcap⟩
      rw [shape_setRow (w := w.drew) g3 hsz2]
      exact hsh
    · refine Calls.mono (ins_grow L.toSlT f22 hsz (rest := rest) (te := te) hi' (by unfold LIM at hlim; omega) (by omega) hnc (by unfold LIM at hbig; exact hbig) g3 hul hxvl haw hxc' (VRs_one g5 hs) (VRs_one hxv hxs)) ?_
      rintro e' w' ⟨q, rest', hq, hql, rfl, rfl⟩
      have hsub : sub (setH G b none) G := sub_setH_none G b
      have Rd := (R.drew.drew).drop hsub
      have S : Stab w (Own X G (fun _ => .any) #[]) w.drew.drew (Own X (setH G b none) (fun _ => .any) #[]) := by
        refine ⟨fun q hq _ => ⟨?_, rfl⟩, Nat.le_refl _, fun _ _ _ h => h⟩
        rintro (hq' | hq' | hq')
        · exact hq (.inl hq')
        · refine hq (.inr (.inl ?_))
          intro hn
          cases hz : setH G b none q with
          | none => exact hq' hz
          | some o => rw [hsub q o hz] at hn; cases hn
        · exact hq (.inr (.inr hq'))
      have R' := Rd.own (us.take (i * sz) ++ xv ++ us.drop (i * sz) ++ rest').toArray (ρ.t 9) τ (cs.take (i * sz) ++ xs ++ cs.drop (i * sz)) (us.take (i * sz) ++ xv ++ us.drop (i * sz)) rest' rfl
        (VRs_append (VRs_append (VRs_take _ (VRs_stab S _ _ g5)) (VRs_stab S _ _ hxv)) (VRs_drop _ (VRs_stab S _ _ g5)))
      have hfree : G w.heap.size = none := R.none_fresh
      obtain ⟨q1, q2⟩ := out0 R'
      refine ⟨_, _, _, rfl, q1, q2, ?_, w.heap.size, τ, .inr hfree, rfl, rfl⟩
      simp only [VR]
      refine ⟨q, rfl, hq, hlim, ρ.t 9, q * sz, ?_, by omega⟩
      unfold World.shape?
      have := heap_alloc_at w.drew.drew (.cells (us.take (i * sz) ++ xv ++ us.drop (i * sz) ++ rest').toArray (ρ.t 9))
      simp only [World.size_drew] at this
      rw [this]
      simp only [List.size_toArray, List.length_append (bs := rest'), hVl, hql]
end Go.Al

set_option linter.unusedVariables false
set_option linter.unusedSimpArgs false
namespace Go.Al
open Go Go.Shelf Go.RowKit Go.Lib Go.Proofs
variable {P : Program} {ρ : Ren} {sz by_ : Nat} {z : Value} {nm nm9 : String}

theorem isAgg_no {t : TypeId} {d : TypeDesc} (h : P.underlying t = some d) (hd : isAggD d = false) : ∀ w, (isAgg t).run P w = .ok false w := by
  intro w
  unfold isAgg
  simp only [Sem.run_bind, run_underlying h, Result.andThen_ok]
  cases d <;> first | rfl | (cases hd)

theorem infos {t : TypeId} {z : Value} {s : Nat} (h : (P.info? t).map (fun i => (i.zero, i.size)) = some (some z, s)) : (∀ w, (Go.sizeOf t).run P w = .ok s w) ∧ ∀ w, (zeroValue t).run P w = .ok z w := by
  cases hi : P.info? t with
  | none => rw [hi] at h; cases h
  | some i =>
    rw [hi] at h
    simp only [Option.map_some, Option.some.injEq, Prod.mk.injEq] at h
    refine ⟨fun w => ?_, fun w => ?_⟩
    · rw [run_sizeOf' hi, h.2]
    · simp [zeroValue, typeInfo, hi, h.1]

theorem SlT.of (mixed : P.follows .mixedOrders = true)
    (t0 : P.underlying (ρ.t 0) = some (.tuple #[])) (j0 : (P.info? (ρ.t 0)).map (fun i => (i.zero, i.size)) = some (some (.tuple #[]), 1))
    (t3 : P.underlying (ρ.t 3) = some (.int .i64)) (j3 : (P.info? (ρ.t 3)).map (fun i => (i.zero, i.size)) = some (some (.int .i64 0), 1))
    (t4 : P.underlying (ρ.t 4) = some .bool) (j4 : (P.info? (ρ.t 4)).map (fun i => (i.zero, i.size)) = some (some (.bool false), 1))
    (t24 : P.underlying (ρ.t 24) = some (.slice (ρ.t 9))) (j24 : (P.info? (ρ.t 24)).map (fun i => (i.zero, i.size)) = some (some (.slice none 0 0), 1))
    (i9 : (P.info? (ρ.t 9)).map (fun i => (i.zero, i.size, i.bytes)) = some (some z, sz, by_)) (zs : z.cells.size = sz) (z1 : z.cells.toList.all (·.oneCell') = true) : SlT P ρ sz by_ z := by
  have j9 : (P.info? (ρ.t 9)).map (fun i => (i.zero, i.size)) = some (some z, sz) := by
    cases hi : P.info? (ρ.t 9) with
    | none => rw [hi] at i9; cases i9
    | some i =>
      rw [hi] at i9
      simp only [Option.map_some, Option.some.injEq, Prod.mk.injEq] at i9 ⊢
      exact ⟨i9.1, i9.2.1⟩
  exact ⟨mixed, t0, isAgg_no t0 rfl, (infos j0).1, (infos j0).2, t3, isAgg_no t3 rfl, (infos j3).1, (infos j3).2, t4, isAgg_no t4 rfl, (infos j4).1, (infos j4).2, (infos j9).1, (infos j9).2, t24, isAgg_no t24 rfl, (infos j24).1, (infos j24).2, i9, zs, fun v hv => by rw [List.all_eq_true] at z1; exact z1 v hv⟩

section
variable {α : Type} {f : α → List AV} {G0 G : Hp} {out : AV} {l : List α}

theorem flat_scal (hs : ∀ x, (f x).all AV.scal = true) (l : List α) : (l.flatMap f).all AV.scal = true := by
  rw [List.all_flatMap]; rw [List.all_eq_true]; intro x _; exact hs x

theorem delG (L : SlT P ρ sz by_ z) (f24 : P.funcs[ρ.f 24]? = some { Body2.n24 ρ with name := nm }) (hf : ∀ x, (f x).length = sz) (hs : ∀ x, (f x).all AV.scal = true) (hsz : 0 < sz) (hg : Grow f sz G0 G out l) {i j : Nat} (hij : i ≤ j) (hj : j ≤ l.length) (hlt : 0 < l.length) :
    ACalls P (ρ.f 24) [out, .int .i64 i, .int .i64 j] G fun r G' => Grow f sz G0 G' r (l.take i ++ l.drop j) := by
  rcases hg with ⟨rfl, rfl, rfl⟩ | ⟨b, τ, hb, rfl, rfl⟩
  · simp at hlt
  · refine (del_c L f24 (setH_same ..) (flat_len hf l) (flat_scal hs l) hsz hij hj).mono ?_
    rintro r G' ⟨rfl, rfl⟩
    refine .inr ⟨b, τ, hb, ?_, ?_⟩
    · rw [List.length_append, List.length_take, List.length_drop]; congr 1; omega
    · rw [setH_setH, flat_take hf, flat_drop hf, List.flatMap_append]

theorem insG (L : SlK P ρ sz by_ z) (f22 : P.funcs[ρ.f 22]? = some { Body2.n22 ρ with name := nm }) (f29 : Ovl P ρ) (hf : ∀ x, (f x).length = sz) (hs : ∀ x, (f x).all AV.scal = true) (hsz : 0 < sz) (hg : Grow f sz G0 G out l) {i : Nat} (x : α) (hi : i ≤ l.length) (hlim : l.length + 1 ≤ LIM) (hbig : (l.length + 1) * by_ ≤ LIM) :
    ACalls P (ρ.f 22) [out, .int .i64 i, .sl 1 (f x)] G fun r G' => Grow f sz G0 G' r (l.take i ++ x :: l.drop i) := by
  rcases hg with ⟨rfl, rfl, rfl⟩ | ⟨b, τ, hb, rfl, rfl⟩
  · have h0 : i = 0 := by simpa using hi
    subst h0
    refine (ins_nil L f22 (hf x) (by simpa using hbig)).mono ?_
    rintro r G' ⟨b', τ', hb', rfl, rfl⟩
    exact .inr ⟨b', τ', hb', rfl, by simp⟩
  · refine (ins_c L f22 f29 (setH_same ..) (flat_len hf l) (flat_scal hs l) (hf x) (hs x) hsz hi hlim hbig).mono ?_
    rintro r G' ⟨b', τ', hb', rfl, rfl⟩
    refine .inr ⟨b', τ', ?_, ?_, ?_⟩
    · rcases hb' with rfl | hb'
      · exact hb
      · unfold setH at hb'
        split at hb'
        · cases hb'
        · exact hb'
    · congr 1; simp; omega
    · rw [setH_setH, flat_take hf, flat_drop hf, List.flatMap_append, List.flatMap_cons, List.append_assoc]
      congr 1
      funext q; unfold setH
      split
      · rename_i h; subst h; exact hb.symm ▸ rfl
      · rfl
end
end Go.Al
namespace Go.Al
open Go
theorem ends_two {P : Program} {rs : List ResultVar} {post : AV → Hp → Prop} {T : Tm} {G : Hp} {x y : AV} (h : rets P rs T G = [x, y]) (hx : x.plain = true) (hy : y.plain = true) (hp : post (.tup [x, y]) G) : AEnds P rs post .ret T G :=
  ends_many h (by simp [hx, hy]) hp
theorem ends_three {P : Program} {rs : List ResultVar} {post : AV → Hp → Prop} {T : Tm} {G : Hp} {x y z : AV} (h : rets P rs T G = [x, y, z]) (hx : x.plain = true) (hy : y.plain = true) (hz : z.plain = true) (hp : post (.tup [x, y, z]) G) : AEnds P rs post .ret T G :=
  ends_many h (by simp [hx, hy, hz]) hp
theorem ends_four {P : Program} {rs : List ResultVar} {post : AV → Hp → Prop} {T : Tm} {G : Hp} {x y z u : AV} (h : rets P rs T G = [x, y, z, u]) (hx : x.plain = true) (hy : y.plain = true) (hz : z.plain = true) (hu : u.plain = true) (hp : post (.tup [x, y, z, u]) G) : AEnds P rs post .ret T G :=
  ends_many h (by simp [hx, hy, hz, hu]) hp
end Go.Al
namespace Go.Al
open Go
theorem ends_one_sub {P : Program} {rs : List ResultVar} {post : AV → Hp → Prop} {T : Tm} {G G' : Hp} {x : AV} (h : rets P rs T G = [x]) (hx : x.plain = true) (hs : sub G' G) (hp : post x G') : AEnds P rs post .ret T G :=
  ⟨.inl rfl, by rw [h]; simpa using hx, x, G', hs, (by rw [h]; exact Frz.refl x), hp⟩
theorem ends_two_sub {P : Program} {rs : List ResultVar} {post : AV → Hp → Prop} {T : Tm} {G G' : Hp} {x y : AV} (h : rets P rs T G = [x, y]) (hx : x.plain = true) (hy : y.plain = true) (hs : sub G' G) (hp : post (.tup [x, y]) G') : AEnds P rs post .ret T G :=
  ⟨.inl rfl, by rw [h]; simp [hx, hy], _, G', hs, (by rw [h]; exact Frz.refl _), hp⟩
theorem ends_none_sub {P : Program} {post : AV → Hp → Prop} {T : Tm} {G G' : Hp} (hs : sub G' G) (hp : post (.tup []) G') : AEnds P [] post .normal T G :=
  ⟨.inr rfl, by simp [rets], _, G', hs, Frz.refl _, hp⟩
/-- only the block and the slice that it holds -/
theorem Grow.cut {α : Type} {f : α → List AV} {sz : Nat} {G0 G : Hp} {out : AV} {l : List α} (h : Grow f sz G0 G out l) {b : Nat} {o o' : Nat × List AV} (e : G0 b = some o) : ∃ h', sub h' (setH G b (some o')) ∧ Grow f sz (one b o') h' out l := by
  rcases h with ⟨rfl, rfl, rfl⟩ | ⟨c, τ, hc, rfl, rfl⟩
  · refine ⟨one b o', fun i q hq => ?_, .inl ⟨rfl, rfl, rfl⟩⟩
    unfold one setH emptyH at hq
    unfold setH
    split at hq
    · rename_i hi; rw [if_pos hi]; exact hq
    · cases hq
  · have hcb : c ≠ b := by rintro rfl; rw [e] at hc; cases hc
    refine ⟨setH (one b o') c (some (τ, l.flatMap f)), fun i q hq => ?_, .inr ⟨c, τ, ?_, rfl, rfl⟩⟩
    · unfold setH at hq
      unfold setH
      by_cases hi : i = c
      · subst hi; rw [if_pos rfl] at hq; rw [if_neg hcb, if_pos rfl]; exact hq
      · rw [if_neg hi] at hq
        unfold one setH emptyH at hq
        split at hq
        · rename_i hi2; rw [if_pos hi2]; exact hq
        · cases hq
    · unfold one setH emptyH; rw [if_neg hcb]
end Go.Al

