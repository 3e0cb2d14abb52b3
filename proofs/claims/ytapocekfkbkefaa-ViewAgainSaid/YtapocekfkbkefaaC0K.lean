import Derived.Test.YtapocekfkbkefaaAl2
import Derived.Test.YtapocekfkbkefaaProg
import Derived.KernelRfl
set_option linter.unusedVariables false
set_option linter.unusedSimpArgs false
set_option maxRecDepth 100000
namespace Go.Proofs.Ytapocekfkbkefaa
open Go Go.Al
theorem mixed : Try.prog.follows .mixedOrders = true := by kernel_rfl
theorem ti2 : ti Try.prog 2 = { ok := true, kd := (.int .i64), eqg := false, size := 1, bytes := 8, agg := false, elem := none, offs := [], flds := none, zero := (some [.int .i64 0]) } := by kernel_rfl
@[simp] theorem ti2_ok : (ti Try.prog 2).ok = true := by rw [ti2]
@[simp] theorem ti2_kd : (ti Try.prog 2).kd = (.int .i64) := by rw [ti2]
@[simp] theorem ti2_eqg : (ti Try.prog 2).eqg = false := by rw [ti2]
@[simp] theorem ti2_size : (ti Try.prog 2).size = 1 := by rw [ti2]
@[simp] theorem ti2_bytes : (ti Try.prog 2).bytes = 8 := by rw [ti2]
@[simp] theorem ti2_agg : (ti Try.prog 2).agg = false := by rw [ti2]
@[simp] theorem ti2_offs : (ti Try.prog 2).offs = [] := by rw [ti2]
@[simp] theorem ti2_isS : (ti Try.prog 2).isS = false := by rw [ti2]; rfl
@[simp] theorem ti2_isP : (ti Try.prog 2).isP = false := by rw [ti2]; rfl
@[simp] theorem ti2_zs : (ti Try.prog 2).zs = [.int .i64 0] := by rw [ti2]; rfl
@[simp] theorem ti2_hasz : (ti Try.prog 2).hasz = true := by rw [ti2]; rfl
theorem ti3 : ti Try.prog 3 = { ok := true, kd := (.int .i64), eqg := false, size := 1, bytes := 8, agg := false, elem := none, offs := [], flds := none, zero := (some [.int .i64 0]) } := by kernel_rfl
@[simp] theorem ti3_ok : (ti Try.prog 3).ok = true := by rw [ti3]
@[simp] theorem ti3_kd : (ti Try.prog 3).kd = (.int .i64) := by rw [ti3]
@[simp] theorem ti3_eqg : (ti Try.prog 3).eqg = false := by rw [ti3]
@[simp] theorem ti3_size : (ti Try.prog 3).size = 1 := by rw [ti3]
@[simp] theorem ti3_bytes : (ti Try.prog 3).bytes = 8 := by rw [ti3]
@[simp] theorem ti3_agg : (ti Try.prog 3).agg = false := by rw [ti3]
@[simp] theorem ti3_offs : (ti Try.prog 3).offs = [] := by rw [ti3]
@[simp] theorem ti3_isS : (ti Try.prog 3).isS = false := by rw [ti3]; rfl
@[simp] theorem ti3_isP : (ti Try.prog 3).isP = false := by rw [ti3]; rfl
@[simp] theorem ti3_zs : (ti Try.prog 3).zs = [.int .i64 0] := by rw [ti3]; rfl
@[simp] theorem ti3_hasz : (ti Try.prog 3).hasz = true := by rw [ti3]; rfl
theorem ti4 : ti Try.prog 4 = { ok := true, kd := .bool, eqg := false, size := 1, bytes := 1, agg := false, elem := none, offs := [], flds := none, zero := (some [.bool false]) } := by kernel_rfl
@[simp] theorem ti4_ok : (ti Try.prog 4).ok = true := by rw [ti4]
@[simp] theorem ti4_kd : (ti Try.prog 4).kd = .bool := by rw [ti4]
@[simp] theorem ti4_eqg : (ti Try.prog 4).eqg = false := by rw [ti4]
@[simp] theorem ti4_size : (ti Try.prog 4).size = 1 := by rw [ti4]
@[simp] theorem ti4_bytes : (ti Try.prog 4).bytes = 1 := by rw [ti4]
@[simp] theorem ti4_agg : (ti Try.prog 4).agg = false := by rw [ti4]
@[simp] theorem ti4_offs : (ti Try.prog 4).offs = [] := by rw [ti4]
@[simp] theorem ti4_isS : (ti Try.prog 4).isS = false := by rw [ti4]; rfl
@[simp] theorem ti4_isP : (ti Try.prog 4).isP = false := by rw [ti4]; rfl
@[simp] theorem ti4_zs : (ti Try.prog 4).zs = [.bool false] := by rw [ti4]; rfl
@[simp] theorem ti4_hasz : (ti Try.prog 4).hasz = true := by rw [ti4]; rfl
theorem ti22 : ti Try.prog 22 = { ok := true, kd := (.slc 34), eqg := false, size := 1, bytes := 24, agg := false, elem := (some 34), offs := [], flds := none, zero := (some [.nils]) } := by kernel_rfl
@[simp] theorem ti22_ok : (ti Try.prog 22).ok = true := by rw [ti22]
@[simp] theorem ti22_kd : (ti Try.prog 22).kd = (.slc 34) := by rw [ti22]
@[simp] theorem ti22_eqg : (ti Try.prog 22).eqg = false := by rw [ti22]
@[simp] theorem ti22_size : (ti Try.prog 22).size = 1 := by rw [ti22]
@[simp] theorem ti22_bytes : (ti Try.prog 22).bytes = 24 := by rw [ti22]
@[simp] theorem ti22_agg : (ti Try.prog 22).agg = false := by rw [ti22]
@[simp] theorem ti22_offs : (ti Try.prog 22).offs = [] := by rw [ti22]
@[simp] theorem ti22_isS : (ti Try.prog 22).isS = true := by rw [ti22]; rfl
@[simp] theorem ti22_isP : (ti Try.prog 22).isP = false := by rw [ti22]; rfl
@[simp] theorem ti22_el : (ti Try.prog 22).el = 34 := by rw [ti22]; rfl
@[simp] theorem ti22_zs : (ti Try.prog 22).zs = [.nils] := by rw [ti22]; rfl
@[simp] theorem ti22_hasz : (ti Try.prog 22).hasz = true := by rw [ti22]; rfl
theorem ti23 : ti Try.prog 23 = { ok := true, kd := (.ptr 60), eqg := false, size := 1, bytes := 8, agg := false, elem := none, offs := [], flds := none, zero := (some [.nil]) } := by kernel_rfl
@[simp] theorem ti23_ok : (ti Try.prog 23).ok = true := by rw [ti23]
@[simp] theorem ti23_kd : (ti Try.prog 23).kd = (.ptr 60) := by rw [ti23]
@[simp] theorem ti23_eqg : (ti Try.prog 23).eqg = false := by rw [ti23]
@[simp] theorem ti23_size : (ti Try.prog 23).size = 1 := by rw [ti23]
@[simp] theorem ti23_bytes : (ti Try.prog 23).bytes = 8 := by rw [ti23]
@[simp] theorem ti23_agg : (ti Try.prog 23).agg = false := by rw [ti23]
@[simp] theorem ti23_offs : (ti Try.prog 23).offs = [] := by rw [ti23]
@[simp] theorem ti23_isS : (ti Try.prog 23).isS = false := by rw [ti23]; rfl
@[simp] theorem ti23_isP : (ti Try.prog 23).isP = true := by rw [ti23]; rfl
@[simp] theorem ti23_zs : (ti Try.prog 23).zs = [.nil] := by rw [ti23]; rfl
@[simp] theorem ti23_hasz : (ti Try.prog 23).hasz = true := by rw [ti23]; rfl
theorem ti25 : ti Try.prog 25 = { ok := true, kd := (.ptr 30), eqg := false, size := 1, bytes := 8, agg := false, elem := none, offs := [], flds := none, zero := (some [.nil]) } := by kernel_rfl
@[simp] theorem ti25_ok : (ti Try.prog 25).ok = true := by rw [ti25]
@[simp] theorem ti25_kd : (ti Try.prog 25).kd = (.ptr 30) := by rw [ti25]
@[simp] theorem ti25_eqg : (ti Try.prog 25).eqg = false := by rw [ti25]
@[simp] theorem ti25_size : (ti Try.prog 25).size = 1 := by rw [ti25]
@[simp] theorem ti25_bytes : (ti Try.prog 25).bytes = 8 := by rw [ti25]
@[simp] theorem ti25_agg : (ti Try.prog 25).agg = false := by rw [ti25]
@[simp] theorem ti25_offs : (ti Try.prog 25).offs = [] := by rw [ti25]
@[simp] theorem ti25_isS : (ti Try.prog 25).isS = false := by rw [ti25]; rfl
@[simp] theorem ti25_isP : (ti Try.prog 25).isP = true := by rw [ti25]; rfl
@[simp] theorem ti25_zs : (ti Try.prog 25).zs = [.nil] := by rw [ti25]; rfl
@[simp] theorem ti25_hasz : (ti Try.prog 25).hasz = true := by rw [ti25]; rfl
theorem ti26 : ti Try.prog 26 = { ok := true, kd := (.arr 9 4), eqg := false, size := 9, bytes := 9, agg := true, elem := none, offs := [], flds := none, zero := (some [.bool false, .bool false, .bool false, .bool false, .bool false, .bool false, .bool false, .bool false, .bool false]) } := by kernel_rfl
@[simp] theorem ti26_ok : (ti Try.prog 26).ok = true := by rw [ti26]
@[simp] theorem ti26_kd : (ti Try.prog 26).kd = (.arr 9 4) := by rw [ti26]
@[simp] theorem ti26_eqg : (ti Try.prog 26).eqg = false := by rw [ti26]
@[simp] theorem ti26_size : (ti Try.prog 26).size = 9 := by rw [ti26]
@[simp] theorem ti26_bytes : (ti Try.prog 26).bytes = 9 := by rw [ti26]
@[simp] theorem ti26_agg : (ti Try.prog 26).agg = true := by rw [ti26]
@[simp] theorem ti26_offs : (ti Try.prog 26).offs = [] := by rw [ti26]
@[simp] theorem ti26_isS : (ti Try.prog 26).isS = false := by rw [ti26]; rfl
@[simp] theorem ti26_isP : (ti Try.prog 26).isP = false := by rw [ti26]; rfl
@[simp] theorem ti26_isA : (ti Try.prog 26).isA = true := by rw [ti26]; rfl
@[simp] theorem ti26_an : (ti Try.prog 26).an = 9 := by rw [ti26]; rfl
@[simp] theorem ti26_ae : (ti Try.prog 26).ae = 4 := by rw [ti26]; rfl
@[simp] theorem ti26_zs : (ti Try.prog 26).zs = [.bool false, .bool false, .bool false, .bool false, .bool false, .bool false, .bool false, .bool false, .bool false] := by rw [ti26]; rfl
@[simp] theorem ti26_hasz : (ti Try.prog 26).hasz = true := by rw [ti26]; rfl
theorem ti27 : ti Try.prog 27 = { ok := true, kd := (.arr 9 3), eqg := false, size := 9, bytes := 72, agg := true, elem := none, offs := [], flds := none, zero := (some [.int .i64 0, .int .i64 0, .int .i64 0, .int .i64 0, .int .i64 0, .int .i64 0, .int .i64 0, .int .i64 0, .int .i64 0]) } := by kernel_rfl
@[simp] theorem ti27_ok : (ti Try.prog 27).ok = true := by rw [ti27]
@[simp] theorem ti27_kd : (ti Try.prog 27).kd = (.arr 9 3) := by rw [ti27]
@[simp] theorem ti27_eqg : (ti Try.prog 27).eqg = false := by rw [ti27]
@[simp] theorem ti27_size : (ti Try.prog 27).size = 9 := by rw [ti27]
@[simp] theorem ti27_bytes : (ti Try.prog 27).bytes = 72 := by rw [ti27]
@[simp] theorem ti27_agg : (ti Try.prog 27).agg = true := by rw [ti27]
@[simp] theorem ti27_offs : (ti Try.prog 27).offs = [] := by rw [ti27]
@[simp] theorem ti27_isS : (ti Try.prog 27).isS = false := by rw [ti27]; rfl
@[simp] theorem ti27_isP : (ti Try.prog 27).isP = false := by rw [ti27]; rfl
@[simp] theorem ti27_isA : (ti Try.prog 27).isA = true := by rw [ti27]; rfl
@[simp] theorem ti27_an : (ti Try.prog 27).an = 9 := by rw [ti27]; rfl
@[simp] theorem ti27_ae : (ti Try.prog 27).ae = 3 := by rw [ti27]; rfl
@[simp] theorem ti27_zs : (ti Try.prog 27).zs = [.int .i64 0, .int .i64 0, .int .i64 0, .int .i64 0, .int .i64 0, .int .i64 0, .int .i64 0, .int .i64 0, .int .i64 0] := by rw [ti27]; rfl
@[simp] theorem ti27_hasz : (ti Try.prog 27).hasz = true := by rw [ti27]; rfl
theorem ti28 : ti Try.prog 28 = { ok := true, kd := (.slc 84), eqg := false, size := 1, bytes := 24, agg := false, elem := (some 84), offs := [], flds := none, zero := (some [.nils]) } := by kernel_rfl
@[simp] theorem ti28_ok : (ti Try.prog 28).ok = true := by rw [ti28]
@[simp] theorem ti28_kd : (ti Try.prog 28).kd = (.slc 84) := by rw [ti28]
@[simp] theorem ti28_eqg : (ti Try.prog 28).eqg = false := by rw [ti28]
@[simp] theorem ti28_size : (ti Try.prog 28).size = 1 := by rw [ti28]
@[simp] theorem ti28_bytes : (ti Try.prog 28).bytes = 24 := by rw [ti28]
@[simp] theorem ti28_agg : (ti Try.prog 28).agg = false := by rw [ti28]
@[simp] theorem ti28_offs : (ti Try.prog 28).offs = [] := by rw [ti28]
@[simp] theorem ti28_isS : (ti Try.prog 28).isS = true := by rw [ti28]; rfl
@[simp] theorem ti28_isP : (ti Try.prog 28).isP = false := by rw [ti28]; rfl
@[simp] theorem ti28_el : (ti Try.prog 28).el = 84 := by rw [ti28]; rfl
@[simp] theorem ti28_zs : (ti Try.prog 28).zs = [.nils] := by rw [ti28]; rfl
@[simp] theorem ti28_hasz : (ti Try.prog 28).hasz = true := by rw [ti28]; rfl
theorem ti30 : ti Try.prog 30 = { ok := true, kd := .struct, eqg := false, size := 19, bytes := 112, agg := true, elem := none, offs := [some 0, some 9, some 18], flds := (some [(0, 9), (9, 9), (18, 1)]), zero := (some [.bool false, .bool false, .bool false, .bool false, .bool false, .bool false, .bool false, .bool false, .bool false, .int .i64 0, .int .i64 0, .int .i64 0, .int .i64 0, .int .i64 0, .int .i64 0, .int .i64 0, .int .i64 0, .int .i64 0, .nils]) } := by kernel_rfl
@[simp] theorem ti30_ok : (ti Try.prog 30).ok = true := by rw [ti30]
@[simp] theorem ti30_kd : (ti Try.prog 30).kd = .struct := by rw [ti30]
@[simp] theorem ti30_eqg : (ti Try.prog 30).eqg = false := by rw [ti30]
@[simp] theorem ti30_size : (ti Try.prog 30).size = 19 := by rw [ti30]
@[simp] theorem ti30_bytes : (ti Try.prog 30).bytes = 112 := by rw [ti30]
@[simp] theorem ti30_agg : (ti Try.prog 30).agg = true := by rw [ti30]
@[simp] theorem ti30_offs : (ti Try.prog 30).offs = [some 0, some 9, some 18] := by rw [ti30]
@[simp] theorem ti30_isS : (ti Try.prog 30).isS = false := by rw [ti30]; rfl
@[simp] theorem ti30_isP : (ti Try.prog 30).isP = false := by rw [ti30]; rfl
@[simp] theorem ti30_zs : (ti Try.prog 30).zs = [.bool false, .bool false, .bool false, .bool false, .bool false, .bool false, .bool false, .bool false, .bool false, .int .i64 0, .int .i64 0, .int .i64 0, .int .i64 0, .int .i64 0, .int .i64 0, .int .i64 0, .int .i64 0, .int .i64 0, .nils] := by rw [ti30]; rfl
@[simp] theorem ti30_hasz : (ti Try.prog 30).hasz = true := by rw [ti30]; rfl
@[simp] theorem ti30_fl : (ti Try.prog 30).fl = [(0, 9), (9, 9), (18, 1)] := by rw [ti30]; rfl
@[simp] theorem ti30_hasf : (ti Try.prog 30).hasf = true := by rw [ti30]; rfl
theorem ti32 : ti Try.prog 32 = { ok := true, kd := .struct, eqg := false, size := 2, bytes := 16, agg := true, elem := none, offs := [some 0, some 1], flds := (some [(0, 1), (1, 1)]), zero := (some [.int .i64 0, .int .i64 0]) } := by kernel_rfl
@[simp] theorem ti32_ok : (ti Try.prog 32).ok = true := by rw [ti32]
@[simp] theorem ti32_kd : (ti Try.prog 32).kd = .struct := by rw [ti32]
@[simp] theorem ti32_eqg : (ti Try.prog 32).eqg = false := by rw [ti32]
@[simp] theorem ti32_size : (ti Try.prog 32).size = 2 := by rw [ti32]
@[simp] theorem ti32_bytes : (ti Try.prog 32).bytes = 16 := by rw [ti32]
@[simp] theorem ti32_agg : (ti Try.prog 32).agg = true := by rw [ti32]
@[simp] theorem ti32_offs : (ti Try.prog 32).offs = [some 0, some 1] := by rw [ti32]
@[simp] theorem ti32_isS : (ti Try.prog 32).isS = false := by rw [ti32]; rfl
@[simp] theorem ti32_isP : (ti Try.prog 32).isP = false := by rw [ti32]; rfl
@[simp] theorem ti32_zs : (ti Try.prog 32).zs = [.int .i64 0, .int .i64 0] := by rw [ti32]; rfl
@[simp] theorem ti32_hasz : (ti Try.prog 32).hasz = true := by rw [ti32]; rfl
@[simp] theorem ti32_fl : (ti Try.prog 32).fl = [(0, 1), (1, 1)] := by rw [ti32]; rfl
@[simp] theorem ti32_hasf : (ti Try.prog 32).hasf = true := by rw [ti32]; rfl
theorem ti34 : ti Try.prog 34 = { ok := true, kd := .struct, eqg := false, size := 8, bytes := 64, agg := true, elem := none, offs := [some 0, some 1, some 3, some 5, some 6, some 7], flds := (some [(0, 1), (1, 2), (3, 2), (5, 1), (6, 1), (7, 1)]), zero := (some [.int .i64 0, .int .i64 0, .int .i64 0, .int .i64 0, .int .i64 0, .int .i64 0, .int .i64 0, .int .i64 0]) } := by kernel_rfl
@[simp] theorem ti34_ok : (ti Try.prog 34).ok = true := by rw [ti34]
@[simp] theorem ti34_kd : (ti Try.prog 34).kd = .struct := by rw [ti34]
@[simp] theorem ti34_eqg : (ti Try.prog 34).eqg = false := by rw [ti34]
@[simp] theorem ti34_size : (ti Try.prog 34).size = 8 := by rw [ti34]
@[simp] theorem ti34_bytes : (ti Try.prog 34).bytes = 64 := by rw [ti34]
@[simp] theorem ti34_agg : (ti Try.prog 34).agg = true := by rw [ti34]
@[simp] theorem ti34_offs : (ti Try.prog 34).offs = [some 0, some 1, some 3, some 5, some 6, some 7] := by rw [ti34]
@[simp] theorem ti34_isS : (ti Try.prog 34).isS = false := by rw [ti34]; rfl
@[simp] theorem ti34_isP : (ti Try.prog 34).isP = false := by rw [ti34]; rfl
@[simp] theorem ti34_zs : (ti Try.prog 34).zs = [.int .i64 0, .int .i64 0, .int .i64 0, .int .i64 0, .int .i64 0, .int .i64 0, .int .i64 0, .int .i64 0] := by rw [ti34]; rfl
@[simp] theorem ti34_hasz : (ti Try.prog 34).hasz = true := by rw [ti34]; rfl
@[simp] theorem ti34_fl : (ti Try.prog 34).fl = [(0, 1), (1, 2), (3, 2), (5, 1), (6, 1), (7, 1)] := by rw [ti34]; rfl
@[simp] theorem ti34_hasf : (ti Try.prog 34).hasf = true := by rw [ti34]; rfl
theorem ti36 : ti Try.prog 36 = { ok := true, kd := (.slc 39), eqg := false, size := 1, bytes := 24, agg := false, elem := (some 39), offs := [], flds := none, zero := (some [.nils]) } := by kernel_rfl
@[simp] theorem ti36_ok : (ti Try.prog 36).ok = true := by rw [ti36]
@[simp] theorem ti36_kd : (ti Try.prog 36).kd = (.slc 39) := by rw [ti36]
@[simp] theorem ti36_eqg : (ti Try.prog 36).eqg = false := by rw [ti36]
@[simp] theorem ti36_size : (ti Try.prog 36).size = 1 := by rw [ti36]
@[simp] theorem ti36_bytes : (ti Try.prog 36).bytes = 24 := by rw [ti36]
@[simp] theorem ti36_agg : (ti Try.prog 36).agg = false := by rw [ti36]
@[simp] theorem ti36_offs : (ti Try.prog 36).offs = [] := by rw [ti36]
@[simp] theorem ti36_isS : (ti Try.prog 36).isS = true := by rw [ti36]; rfl
@[simp] theorem ti36_isP : (ti Try.prog 36).isP = false := by rw [ti36]; rfl
@[simp] theorem ti36_el : (ti Try.prog 36).el = 39 := by rw [ti36]; rfl
@[simp] theorem ti36_zs : (ti Try.prog 36).zs = [.nils] := by rw [ti36]; rfl
@[simp] theorem ti36_hasz : (ti Try.prog 36).hasz = true := by rw [ti36]; rfl
theorem ti39 : ti Try.prog 39 = { ok := true, kd := .struct, eqg := false, size := 4, bytes := 32, agg := true, elem := none, offs := [some 0, some 2], flds := (some [(0, 2), (2, 2)]), zero := (some [.int .i64 0, .int .i64 0, .int .i64 0, .int .i64 0]) } := by kernel_rfl
@[simp] theorem ti39_ok : (ti Try.prog 39).ok = true := by rw [ti39]
@[simp] theorem ti39_kd : (ti Try.prog 39).kd = .struct := by rw [ti39]
@[simp] theorem ti39_eqg : (ti Try.prog 39).eqg = false := by rw [ti39]
@[simp] theorem ti39_size : (ti Try.prog 39).size = 4 := by rw [ti39]
@[simp] theorem ti39_bytes : (ti Try.prog 39).bytes = 32 := by rw [ti39]
@[simp] theorem ti39_agg : (ti Try.prog 39).agg = true := by rw [ti39]
@[simp] theorem ti39_offs : (ti Try.prog 39).offs = [some 0, some 2] := by rw [ti39]
@[simp] theorem ti39_isS : (ti Try.prog 39).isS = false := by rw [ti39]; rfl
@[simp] theorem ti39_isP : (ti Try.prog 39).isP = false := by rw [ti39]; rfl
@[simp] theorem ti39_zs : (ti Try.prog 39).zs = [.int .i64 0, .int .i64 0, .int .i64 0, .int .i64 0] := by rw [ti39]; rfl
@[simp] theorem ti39_hasz : (ti Try.prog 39).hasz = true := by rw [ti39]; rfl
@[simp] theorem ti39_fl : (ti Try.prog 39).fl = [(0, 2), (2, 2)] := by rw [ti39]; rfl
@[simp] theorem ti39_hasf : (ti Try.prog 39).hasf = true := by rw [ti39]; rfl
theorem ti51 : ti Try.prog 51 = { ok := true, kd := (.slc 3), eqg := false, size := 1, bytes := 24, agg := false, elem := (some 3), offs := [], flds := none, zero := (some [.nils]) } := by kernel_rfl
@[simp] theorem ti51_ok : (ti Try.prog 51).ok = true := by rw [ti51]
@[simp] theorem ti51_kd : (ti Try.prog 51).kd = (.slc 3) := by rw [ti51]
@[simp] theorem ti51_eqg : (ti Try.prog 51).eqg = false := by rw [ti51]
@[simp] theorem ti51_size : (ti Try.prog 51).size = 1 := by rw [ti51]
@[simp] theorem ti51_bytes : (ti Try.prog 51).bytes = 24 := by rw [ti51]
@[simp] theorem ti51_agg : (ti Try.prog 51).agg = false := by rw [ti51]
@[simp] theorem ti51_offs : (ti Try.prog 51).offs = [] := by rw [ti51]
@[simp] theorem ti51_isS : (ti Try.prog 51).isS = true := by rw [ti51]; rfl
@[simp] theorem ti51_isP : (ti Try.prog 51).isP = false := by rw [ti51]; rfl
@[simp] theorem ti51_el : (ti Try.prog 51).el = 3 := by rw [ti51]; rfl
@[simp] theorem ti51_zs : (ti Try.prog 51).zs = [.nils] := by rw [ti51]; rfl
@[simp] theorem ti51_hasz : (ti Try.prog 51).hasz = true := by rw [ti51]; rfl
theorem ti53 : ti Try.prog 53 = { ok := true, kd := (.ptr 78), eqg := false, size := 1, bytes := 8, agg := false, elem := none, offs := [], flds := none, zero := (some [.nil]) } := by kernel_rfl
@[simp] theorem ti53_ok : (ti Try.prog 53).ok = true := by rw [ti53]
@[simp] theorem ti53_kd : (ti Try.prog 53).kd = (.ptr 78) := by rw [ti53]
@[simp] theorem ti53_eqg : (ti Try.prog 53).eqg = false := by rw [ti53]
@[simp] theorem ti53_size : (ti Try.prog 53).size = 1 := by rw [ti53]
@[simp] theorem ti53_bytes : (ti Try.prog 53).bytes = 8 := by rw [ti53]
@[simp] theorem ti53_agg : (ti Try.prog 53).agg = false := by rw [ti53]
@[simp] theorem ti53_offs : (ti Try.prog 53).offs = [] := by rw [ti53]
@[simp] theorem ti53_isS : (ti Try.prog 53).isS = false := by rw [ti53]; rfl
@[simp] theorem ti53_isP : (ti Try.prog 53).isP = true := by rw [ti53]; rfl
@[simp] theorem ti53_zs : (ti Try.prog 53).zs = [.nil] := by rw [ti53]; rfl
@[simp] theorem ti53_hasz : (ti Try.prog 53).hasz = true := by rw [ti53]; rfl
theorem ti55 : ti Try.prog 55 = { ok := true, kd := (.ptr 81), eqg := false, size := 1, bytes := 8, agg := false, elem := none, offs := [], flds := none, zero := (some [.nil]) } := by kernel_rfl
@[simp] theorem ti55_ok : (ti Try.prog 55).ok = true := by rw [ti55]
@[simp] theorem ti55_kd : (ti Try.prog 55).kd = (.ptr 81) := by rw [ti55]
@[simp] theorem ti55_eqg : (ti Try.prog 55).eqg = false := by rw [ti55]
@[simp] theorem ti55_size : (ti Try.prog 55).size = 1 := by rw [ti55]
@[simp] theorem ti55_bytes : (ti Try.prog 55).bytes = 8 := by rw [ti55]
@[simp] theorem ti55_agg : (ti Try.prog 55).agg = false := by rw [ti55]
@[simp] theorem ti55_offs : (ti Try.prog 55).offs = [] := by rw [ti55]
@[simp] theorem ti55_isS : (ti Try.prog 55).isS = false := by rw [ti55]; rfl
@[simp] theorem ti55_isP : (ti Try.prog 55).isP = true := by rw [ti55]; rfl
@[simp] theorem ti55_zs : (ti Try.prog 55).zs = [.nil] := by rw [ti55]; rfl
@[simp] theorem ti55_hasz : (ti Try.prog 55).hasz = true := by rw [ti55]; rfl
theorem ti58 : ti Try.prog 58 = { ok := true, kd := .struct, eqg := false, size := 5, bytes := 40, agg := true, elem := none, offs := [some 0, some 4], flds := (some [(0, 4), (4, 1)]), zero := (some [.int .i64 0, .int .i64 0, .int .i64 0, .int .i64 0, .int .i64 0]) } := by kernel_rfl
@[simp] theorem ti58_ok : (ti Try.prog 58).ok = true := by rw [ti58]
@[simp] theorem ti58_kd : (ti Try.prog 58).kd = .struct := by rw [ti58]
@[simp] theorem ti58_eqg : (ti Try.prog 58).eqg = false := by rw [ti58]
@[simp] theorem ti58_size : (ti Try.prog 58).size = 5 := by rw [ti58]
@[simp] theorem ti58_bytes : (ti Try.prog 58).bytes = 40 := by rw [ti58]
@[simp] theorem ti58_agg : (ti Try.prog 58).agg = true := by rw [ti58]
@[simp] theorem ti58_offs : (ti Try.prog 58).offs = [some 0, some 4] := by rw [ti58]
@[simp] theorem ti58_isS : (ti Try.prog 58).isS = false := by rw [ti58]; rfl
@[simp] theorem ti58_isP : (ti Try.prog 58).isP = false := by rw [ti58]; rfl
@[simp] theorem ti58_zs : (ti Try.prog 58).zs = [.int .i64 0, .int .i64 0, .int .i64 0, .int .i64 0, .int .i64 0] := by rw [ti58]; rfl
@[simp] theorem ti58_hasz : (ti Try.prog 58).hasz = true := by rw [ti58]; rfl
@[simp] theorem ti58_fl : (ti Try.prog 58).fl = [(0, 4), (4, 1)] := by rw [ti58]; rfl
@[simp] theorem ti58_hasf : (ti Try.prog 58).hasf = true := by rw [ti58]; rfl
theorem ti60 : ti Try.prog 60 = { ok := true, kd := .struct, eqg := false, size := 2, bytes := 16, agg := true, elem := none, offs := [some 0, some 1], flds := (some [(0, 1), (1, 1)]), zero := (some [.nil, .nil]) } := by kernel_rfl
@[simp] theorem ti60_ok : (ti Try.prog 60).ok = true := by rw [ti60]
@[simp] theorem ti60_kd : (ti Try.prog 60).kd = .struct := by rw [ti60]
@[simp] theorem ti60_eqg : (ti Try.prog 60).eqg = false := by rw [ti60]
@[simp] theorem ti60_size : (ti Try.prog 60).size = 2 := by rw [ti60]
@[simp] theorem ti60_bytes : (ti Try.prog 60).bytes = 16 := by rw [ti60]
@[simp] theorem ti60_agg : (ti Try.prog 60).agg = true := by rw [ti60]
@[simp] theorem ti60_offs : (ti Try.prog 60).offs = [some 0, some 1] := by rw [ti60]
@[simp] theorem ti60_isS : (ti Try.prog 60).isS = false := by rw [ti60]; rfl
@[simp] theorem ti60_isP : (ti Try.prog 60).isP = false := by rw [ti60]; rfl
@[simp] theorem ti60_zs : (ti Try.prog 60).zs = [.nil, .nil] := by rw [ti60]; rfl
@[simp] theorem ti60_hasz : (ti Try.prog 60).hasz = true := by rw [ti60]; rfl
@[simp] theorem ti60_fl : (ti Try.prog 60).fl = [(0, 1), (1, 1)] := by rw [ti60]; rfl
@[simp] theorem ti60_hasf : (ti Try.prog 60).hasf = true := by rw [ti60]; rfl
theorem ti62 : ti Try.prog 62 = { ok := true, kd := (.slc 58), eqg := false, size := 1, bytes := 24, agg := false, elem := (some 58), offs := [], flds := none, zero := (some [.nils]) } := by kernel_rfl
@[simp] theorem ti62_ok : (ti Try.prog 62).ok = true := by rw [ti62]
@[simp] theorem ti62_kd : (ti Try.prog 62).kd = (.slc 58) := by rw [ti62]
@[simp] theorem ti62_eqg : (ti Try.prog 62).eqg = false := by rw [ti62]
@[simp] theorem ti62_size : (ti Try.prog 62).size = 1 := by rw [ti62]
@[simp] theorem ti62_bytes : (ti Try.prog 62).bytes = 24 := by rw [ti62]
@[simp] theorem ti62_agg : (ti Try.prog 62).agg = false := by rw [ti62]
@[simp] theorem ti62_offs : (ti Try.prog 62).offs = [] := by rw [ti62]
@[simp] theorem ti62_isS : (ti Try.prog 62).isS = true := by rw [ti62]; rfl
@[simp] theorem ti62_isP : (ti Try.prog 62).isP = false := by rw [ti62]; rfl
@[simp] theorem ti62_el : (ti Try.prog 62).el = 58 := by rw [ti62]; rfl
@[simp] theorem ti62_zs : (ti Try.prog 62).zs = [.nils] := by rw [ti62]; rfl
@[simp] theorem ti62_hasz : (ti Try.prog 62).hasz = true := by rw [ti62]; rfl
theorem ti73 : ti Try.prog 73 = { ok := true, kd := .func, eqg := false, size := 1, bytes := 8, agg := false, elem := none, offs := [], flds := none, zero := (some [.any]) } := by kernel_rfl
@[simp] theorem ti73_ok : (ti Try.prog 73).ok = true := by rw [ti73]
@[simp] theorem ti73_kd : (ti Try.prog 73).kd = .func := by rw [ti73]
@[simp] theorem ti73_eqg : (ti Try.prog 73).eqg = false := by rw [ti73]
@[simp] theorem ti73_size : (ti Try.prog 73).size = 1 := by rw [ti73]
@[simp] theorem ti73_bytes : (ti Try.prog 73).bytes = 8 := by rw [ti73]
@[simp] theorem ti73_agg : (ti Try.prog 73).agg = false := by rw [ti73]
@[simp] theorem ti73_offs : (ti Try.prog 73).offs = [] := by rw [ti73]
@[simp] theorem ti73_isS : (ti Try.prog 73).isS = false := by rw [ti73]; rfl
@[simp] theorem ti73_isP : (ti Try.prog 73).isP = false := by rw [ti73]; rfl
@[simp] theorem ti73_zs : (ti Try.prog 73).zs = [.any] := by rw [ti73]; rfl
@[simp] theorem ti73_hasz : (ti Try.prog 73).hasz = true := by rw [ti73]; rfl
theorem ti76 : ti Try.prog 76 = { ok := true, kd := (.slc 89), eqg := false, size := 1, bytes := 24, agg := false, elem := (some 89), offs := [], flds := none, zero := (some [.nils]) } := by kernel_rfl
@[simp] theorem ti76_ok : (ti Try.prog 76).ok = true := by rw [ti76]
@[simp] theorem ti76_kd : (ti Try.prog 76).kd = (.slc 89) := by rw [ti76]
@[simp] theorem ti76_eqg : (ti Try.prog 76).eqg = false := by rw [ti76]
@[simp] theorem ti76_size : (ti Try.prog 76).size = 1 := by rw [ti76]
@[simp] theorem ti76_bytes : (ti Try.prog 76).bytes = 24 := by rw [ti76]
@[simp] theorem ti76_agg : (ti Try.prog 76).agg = false := by rw [ti76]
@[simp] theorem ti76_offs : (ti Try.prog 76).offs = [] := by rw [ti76]
@[simp] theorem ti76_isS : (ti Try.prog 76).isS = true := by rw [ti76]; rfl
@[simp] theorem ti76_isP : (ti Try.prog 76).isP = false := by rw [ti76]; rfl
@[simp] theorem ti76_el : (ti Try.prog 76).el = 89 := by rw [ti76]; rfl
@[simp] theorem ti76_zs : (ti Try.prog 76).zs = [.nils] := by rw [ti76]; rfl
@[simp] theorem ti76_hasz : (ti Try.prog 76).hasz = true := by rw [ti76]; rfl
theorem ti78 : ti Try.prog 78 = { ok := true, kd := .struct, eqg := false, size := 2, bytes := 32, agg := true, elem := none, offs := [some 0, some 1], flds := (some [(0, 1), (1, 1)]), zero := (some [.nils, .int .i64 0]) } := by kernel_rfl
@[simp] theorem ti78_ok : (ti Try.prog 78).ok = true := by rw [ti78]
@[simp] theorem ti78_kd : (ti Try.prog 78).kd = .struct := by rw [ti78]
@[simp] theorem ti78_eqg : (ti Try.prog 78).eqg = false := by rw [ti78]
@[simp] theorem ti78_size : (ti Try.prog 78).size = 2 := by rw [ti78]
@[simp] theorem ti78_bytes : (ti Try.prog 78).bytes = 32 := by rw [ti78]
@[simp] theorem ti78_agg : (ti Try.prog 78).agg = true := by rw [ti78]
@[simp] theorem ti78_offs : (ti Try.prog 78).offs = [some 0, some 1] := by rw [ti78]
@[simp] theorem ti78_isS : (ti Try.prog 78).isS = false := by rw [ti78]; rfl
@[simp] theorem ti78_isP : (ti Try.prog 78).isP = false := by rw [ti78]; rfl
@[simp] theorem ti78_zs : (ti Try.prog 78).zs = [.nils, .int .i64 0] := by rw [ti78]; rfl
@[simp] theorem ti78_hasz : (ti Try.prog 78).hasz = true := by rw [ti78]; rfl
@[simp] theorem ti78_fl : (ti Try.prog 78).fl = [(0, 1), (1, 1)] := by rw [ti78]; rfl
@[simp] theorem ti78_hasf : (ti Try.prog 78).hasf = true := by rw [ti78]; rfl
theorem ti79 : ti Try.prog 79 = { ok := true, kd := (.slc 87), eqg := false, size := 1, bytes := 24, agg := false, elem := (some 87), offs := [], flds := none, zero := (some [.nils]) } := by kernel_rfl
@[simp] theorem ti79_ok : (ti Try.prog 79).ok = true := by rw [ti79]
@[simp] theorem ti79_kd : (ti Try.prog 79).kd = (.slc 87) := by rw [ti79]
@[simp] theorem ti79_eqg : (ti Try.prog 79).eqg = false := by rw [ti79]
@[simp] theorem ti79_size : (ti Try.prog 79).size = 1 := by rw [ti79]
@[simp] theorem ti79_bytes : (ti Try.prog 79).bytes = 24 := by rw [ti79]
@[simp] theorem ti79_agg : (ti Try.prog 79).agg = false := by rw [ti79]
@[simp] theorem ti79_offs : (ti Try.prog 79).offs = [] := by rw [ti79]
@[simp] theorem ti79_isS : (ti Try.prog 79).isS = true := by rw [ti79]; rfl
@[simp] theorem ti79_isP : (ti Try.prog 79).isP = false := by rw [ti79]; rfl
@[simp] theorem ti79_el : (ti Try.prog 79).el = 87 := by rw [ti79]; rfl
@[simp] theorem ti79_zs : (ti Try.prog 79).zs = [.nils] := by rw [ti79]; rfl
@[simp] theorem ti79_hasz : (ti Try.prog 79).hasz = true := by rw [ti79]; rfl
theorem ti81 : ti Try.prog 81 = { ok := true, kd := .struct, eqg := false, size := 2, bytes := 32, agg := true, elem := none, offs := [some 0, some 1], flds := (some [(0, 1), (1, 1)]), zero := (some [.nils, .int .i64 0]) } := by kernel_rfl
@[simp] theorem ti81_ok : (ti Try.prog 81).ok = true := by rw [ti81]
@[simp] theorem ti81_kd : (ti Try.prog 81).kd = .struct := by rw [ti81]
@[simp] theorem ti81_eqg : (ti Try.prog 81).eqg = false := by rw [ti81]
@[simp] theorem ti81_size : (ti Try.prog 81).size = 2 := by rw [ti81]
@[simp] theorem ti81_bytes : (ti Try.prog 81).bytes = 32 := by rw [ti81]
@[simp] theorem ti81_agg : (ti Try.prog 81).agg = true := by rw [ti81]
@[simp] theorem ti81_offs : (ti Try.prog 81).offs = [some 0, some 1] := by rw [ti81]
@[simp] theorem ti81_isS : (ti Try.prog 81).isS = false := by rw [ti81]; rfl
@[simp] theorem ti81_isP : (ti Try.prog 81).isP = false := by rw [ti81]; rfl
@[simp] theorem ti81_zs : (ti Try.prog 81).zs = [.nils, .int .i64 0] := by rw [ti81]; rfl
@[simp] theorem ti81_hasz : (ti Try.prog 81).hasz = true := by rw [ti81]; rfl
@[simp] theorem ti81_fl : (ti Try.prog 81).fl = [(0, 1), (1, 1)] := by rw [ti81]; rfl
@[simp] theorem ti81_hasf : (ti Try.prog 81).hasf = true := by rw [ti81]; rfl
theorem ti84 : ti Try.prog 84 = { ok := true, kd := .struct, eqg := false, size := 5, bytes := 40, agg := true, elem := none, offs := [some 0, some 2, some 4], flds := (some [(0, 2), (2, 2), (4, 1)]), zero := (some [.int .i64 0, .int .i64 0, .int .i64 0, .int .i64 0, .int .i64 0]) } := by kernel_rfl
@[simp] theorem ti84_ok : (ti Try.prog 84).ok = true := by rw [ti84]
@[simp] theorem ti84_kd : (ti Try.prog 84).kd = .struct := by rw [ti84]
@[simp] theorem ti84_eqg : (ti Try.prog 84).eqg = false := by rw [ti84]
@[simp] theorem ti84_size : (ti Try.prog 84).size = 5 := by rw [ti84]
@[simp] theorem ti84_bytes : (ti Try.prog 84).bytes = 40 := by rw [ti84]
@[simp] theorem ti84_agg : (ti Try.prog 84).agg = true := by rw [ti84]
@[simp] theorem ti84_offs : (ti Try.prog 84).offs = [some 0, some 2, some 4] := by rw [ti84]
@[simp] theorem ti84_isS : (ti Try.prog 84).isS = false := by rw [ti84]; rfl
@[simp] theorem ti84_isP : (ti Try.prog 84).isP = false := by rw [ti84]; rfl
@[simp] theorem ti84_zs : (ti Try.prog 84).zs = [.int .i64 0, .int .i64 0, .int .i64 0, .int .i64 0, .int .i64 0] := by rw [ti84]; rfl
@[simp] theorem ti84_hasz : (ti Try.prog 84).hasz = true := by rw [ti84]; rfl
@[simp] theorem ti84_fl : (ti Try.prog 84).fl = [(0, 2), (2, 2), (4, 1)] := by rw [ti84]; rfl
@[simp] theorem ti84_hasf : (ti Try.prog 84).hasf = true := by rw [ti84]; rfl
theorem ti87 : ti Try.prog 87 = { ok := true, kd := .struct, eqg := false, size := 6, bytes := 48, agg := true, elem := none, offs := [some 0, some 1], flds := (some [(0, 1), (1, 5)]), zero := (some [.int .i64 0, .int .i64 0, .int .i64 0, .int .i64 0, .int .i64 0, .int .i64 0]) } := by kernel_rfl
@[simp] theorem ti87_ok : (ti Try.prog 87).ok = true := by rw [ti87]
@[simp] theorem ti87_kd : (ti Try.prog 87).kd = .struct := by rw [ti87]
@[simp] theorem ti87_eqg : (ti Try.prog 87).eqg = false := by rw [ti87]
@[simp] theorem ti87_size : (ti Try.prog 87).size = 6 := by rw [ti87]
@[simp] theorem ti87_bytes : (ti Try.prog 87).bytes = 48 := by rw [ti87]
@[simp] theorem ti87_agg : (ti Try.prog 87).agg = true := by rw [ti87]
@[simp] theorem ti87_offs : (ti Try.prog 87).offs = [some 0, some 1] := by rw [ti87]
@[simp] theorem ti87_isS : (ti Try.prog 87).isS = false := by rw [ti87]; rfl
@[simp] theorem ti87_isP : (ti Try.prog 87).isP = false := by rw [ti87]; rfl
@[simp] theorem ti87_zs : (ti Try.prog 87).zs = [.int .i64 0, .int .i64 0, .int .i64 0, .int .i64 0, .int .i64 0, .int .i64 0] := by rw [ti87]; rfl
@[simp] theorem ti87_hasz : (ti Try.prog 87).hasz = true := by rw [ti87]; rfl
@[simp] theorem ti87_fl : (ti Try.prog 87).fl = [(0, 1), (1, 5)] := by rw [ti87]; rfl
@[simp] theorem ti87_hasf : (ti Try.prog 87).hasf = true := by rw [ti87]; rfl
theorem ti89 : ti Try.prog 89 = { ok := true, kd := .struct, eqg := false, size := 2, bytes := 16, agg := true, elem := none, offs := [some 0, some 1], flds := (some [(0, 1), (1, 1)]), zero := (some [.int .i64 0, .int .i64 0]) } := by kernel_rfl
@[simp] theorem ti89_ok : (ti Try.prog 89).ok = true := by rw [ti89]
@[simp] theorem ti89_kd : (ti Try.prog 89).kd = .struct := by rw [ti89]
@[simp] theorem ti89_eqg : (ti Try.prog 89).eqg = false := by rw [ti89]
@[simp] theorem ti89_size : (ti Try.prog 89).size = 2 := by rw [ti89]
@[simp] theorem ti89_bytes : (ti Try.prog 89).bytes = 16 := by rw [ti89]
@[simp] theorem ti89_agg : (ti Try.prog 89).agg = true := by rw [ti89]
@[simp] theorem ti89_offs : (ti Try.prog 89).offs = [some 0, some 1] := by rw [ti89]
@[simp] theorem ti89_isS : (ti Try.prog 89).isS = false := by rw [ti89]; rfl
@[simp] theorem ti89_isP : (ti Try.prog 89).isP = false := by rw [ti89]; rfl
@[simp] theorem ti89_zs : (ti Try.prog 89).zs = [.int .i64 0, .int .i64 0] := by rw [ti89]; rfl
@[simp] theorem ti89_hasz : (ti Try.prog 89).hasz = true := by rw [ti89]; rfl
@[simp] theorem ti89_fl : (ti Try.prog 89).fl = [(0, 1), (1, 1)] := by rw [ti89]; rfl
@[simp] theorem ti89_hasf : (ti Try.prog 89).hasf = true := by rw [ti89]; rfl
theorem ti92 : ti Try.prog 92 = { ok := true, kd := .func, eqg := false, size := 1, bytes := 8, agg := false, elem := none, offs := [], flds := none, zero := (some [.any]) } := by kernel_rfl
@[simp] theorem ti92_ok : (ti Try.prog 92).ok = true := by rw [ti92]
@[simp] theorem ti92_kd : (ti Try.prog 92).kd = .func := by rw [ti92]
@[simp] theorem ti92_eqg : (ti Try.prog 92).eqg = false := by rw [ti92]
@[simp] theorem ti92_size : (ti Try.prog 92).size = 1 := by rw [ti92]
@[simp] theorem ti92_bytes : (ti Try.prog 92).bytes = 8 := by rw [ti92]
@[simp] theorem ti92_agg : (ti Try.prog 92).agg = false := by rw [ti92]
@[simp] theorem ti92_offs : (ti Try.prog 92).offs = [] := by rw [ti92]
@[simp] theorem ti92_isS : (ti Try.prog 92).isS = false := by rw [ti92]; rfl
@[simp] theorem ti92_isP : (ti Try.prog 92).isP = false := by rw [ti92]; rfl
@[simp] theorem ti92_zs : (ti Try.prog 92).zs = [.any] := by rw [ti92]; rfl
@[simp] theorem ti92_hasz : (ti Try.prog 92).hasz = true := by rw [ti92]; rfl
@[simp] theorem ca3 : callable Try.prog 3 = true := by kernel_rfl
@[simp] theorem ca4 : callable Try.prog 4 = true := by kernel_rfl
@[simp] theorem ca5 : callable Try.prog 5 = true := by kernel_rfl
@[simp] theorem ca6 : callable Try.prog 6 = true := by kernel_rfl
@[simp] theorem ca7 : callable Try.prog 7 = true := by kernel_rfl
@[simp] theorem ca8 : callable Try.prog 8 = true := by kernel_rfl
@[simp] theorem ca9 : callable Try.prog 9 = true := by kernel_rfl
@[simp] theorem ca10 : callable Try.prog 10 = true := by kernel_rfl
@[simp] theorem ca11 : callable Try.prog 11 = true := by kernel_rfl
@[simp] theorem ca12 : callable Try.prog 12 = true := by kernel_rfl
@[simp] theorem ca13 : callable Try.prog 13 = true := by kernel_rfl
@[simp] theorem ca14 : callable Try.prog 14 = true := by kernel_rfl
@[simp] theorem ca15 : callable Try.prog 15 = true := by kernel_rfl
@[simp] theorem ca16 : callable Try.prog 16 = true := by kernel_rfl
@[simp] theorem ca17 : callable Try.prog 17 = true := by kernel_rfl
@[simp] theorem ca18 : callable Try.prog 18 = true := by kernel_rfl
@[simp] theorem ca19 : callable Try.prog 19 = true := by kernel_rfl
@[simp] theorem ca20 : callable Try.prog 20 = true := by kernel_rfl
@[simp] theorem ca21 : callable Try.prog 21 = true := by kernel_rfl
@[simp] theorem ca22 : callable Try.prog 22 = true := by kernel_rfl
@[simp] theorem ca23 : callable Try.prog 23 = true := by kernel_rfl
@[simp] theorem ca24 : callable Try.prog 24 = true := by kernel_rfl
@[simp] theorem ca25 : callable Try.prog 25 = true := by kernel_rfl
@[simp] theorem ca26 : callable Try.prog 26 = true := by kernel_rfl
@[simp] theorem ca27 : callable Try.prog 27 = true := by kernel_rfl
@[simp] theorem ca28 : callable Try.prog 28 = true := by kernel_rfl
@[simp] theorem ca29 : callable Try.prog 29 = true := by kernel_rfl
@[simp] theorem ca30 : callable Try.prog 30 = true := by kernel_rfl
@[simp] theorem ca31 : callable Try.prog 31 = true := by kernel_rfl
@[simp] theorem ca32 : callable Try.prog 32 = true := by kernel_rfl
@[simp] theorem ca33 : callable Try.prog 33 = true := by kernel_rfl
@[simp] theorem ca34 : callable Try.prog 34 = true := by kernel_rfl
@[simp] theorem ca35 : callable Try.prog 35 = true := by kernel_rfl
@[simp] theorem ca36 : callable Try.prog 36 = true := by kernel_rfl
@[simp] theorem ca37 : callable Try.prog 37 = true := by kernel_rfl
@[simp] theorem ca38 : callable Try.prog 38 = true := by kernel_rfl
@[simp] theorem ca39 : callable Try.prog 39 = true := by kernel_rfl
@[simp] theorem ca40 : callable Try.prog 40 = true := by kernel_rfl
@[simp] theorem ca41 : callable Try.prog 41 = true := by kernel_rfl
@[simp] theorem ca42 : callable Try.prog 42 = true := by kernel_rfl
@[simp] theorem ca43 : callable Try.prog 43 = true := by kernel_rfl
@[simp] theorem ca44 : callable Try.prog 44 = true := by kernel_rfl
@[simp] theorem ca45 : callable Try.prog 45 = true := by kernel_rfl
@[simp] theorem ca46 : callable Try.prog 46 = true := by kernel_rfl
@[simp] theorem ca47 : callable Try.prog 47 = true := by kernel_rfl
@[simp] theorem ca48 : callable Try.prog 48 = true := by kernel_rfl
@[simp] theorem ca49 : callable Try.prog 49 = true := by kernel_rfl
@[simp] theorem ca50 : callable Try.prog 50 = true := by kernel_rfl
@[simp] theorem ca51 : callable Try.prog 51 = true := by kernel_rfl
@[simp] theorem ca52 : callable Try.prog 52 = true := by kernel_rfl
@[simp] theorem ca53 : callable Try.prog 53 = true := by kernel_rfl
@[simp] theorem ca54 : callable Try.prog 54 = true := by kernel_rfl
@[simp] theorem ca55 : callable Try.prog 55 = true := by kernel_rfl
@[simp] theorem ca56 : callable Try.prog 56 = true := by kernel_rfl
@[simp] theorem ca57 : callable Try.prog 57 = false := by kernel_rfl
@[simp] theorem ca58 : callable Try.prog 58 = true := by kernel_rfl
@[simp] theorem ca59 : callable Try.prog 59 = false := by kernel_rfl
@[simp] theorem ca60 : callable Try.prog 60 = true := by kernel_rfl
@[simp] theorem ca61 : callable Try.prog 61 = true := by kernel_rfl
@[simp] theorem ca62 : callable Try.prog 62 = true := by kernel_rfl
@[simp] theorem ca63 : callable Try.prog 63 = true := by kernel_rfl
@[simp] theorem ca64 : callable Try.prog 64 = true := by kernel_rfl
@[simp] theorem ca80 : callable Try.prog 80 = false := by kernel_rfl
@[simp] theorem ca81 : callable Try.prog 81 = false := by kernel_rfl
@[simp] theorem ca82 : callable Try.prog 82 = false := by kernel_rfl
@[simp] theorem ca83 : callable Try.prog 83 = false := by kernel_rfl
/-- equality of type 32: ostiary/api.Place -/
def eqS32 (x0 y0 : Int) (x1 y1 : Int) : Bool := decide (x0 = y0 ∧ x1 = y1)
theorem eqS32_iff {x0 y0 : Int} {x1 y1 : Int} : eqS32 x0 y0 x1 y1 = true ↔ x0 = y0 ∧ x1 = y1 := by simp [eqS32]
theorem eqS32_no {x0 y0 : Int} {x1 y1 : Int} : eqS32 x0 y0 x1 y1 = false ↔ ¬ (x0 = y0 ∧ x1 = y1) := by simp [eqS32]
theorem eqA32_ (x0 y0 : Int) (x1 y1 : Int) : eqA Try.prog 10000 32 (.agg [.int .i64 x0, .int .i64 x1]) (.agg [.int .i64 y0, .int .i64 y1]) = some (decide (x0 = y0) && (decide (x1 = y1) && true)) := by kernel_rfl
@[simp] theorem eqA32 (x0 y0 : Int) (x1 y1 : Int) : eqA Try.prog 10000 32 (.agg [.int .i64 x0, .int .i64 x1]) (.agg [.int .i64 y0, .int .i64 y1]) = some (eqS32 x0 y0 x1 y1) := by rw [eqA32_]; simp only [ba_eq, eqS32]; congr 1; rw [Bool.eq_iff_iff]; simp [and_assoc]
/-- equality of type 39: ostiary/api.Link -/
def eqS39 (x0 y0 : Int) (x1 y1 : Int) (x2 y2 : Int) (x3 y3 : Int) : Bool := decide (x0 = y0 ∧ x1 = y1 ∧ x2 = y2 ∧ x3 = y3)
theorem eqS39_iff {x0 y0 : Int} {x1 y1 : Int} {x2 y2 : Int} {x3 y3 : Int} : eqS39 x0 y0 x1 y1 x2 y2 x3 y3 = true ↔ x0 = y0 ∧ x1 = y1 ∧ x2 = y2 ∧ x3 = y3 := by simp [eqS39]
theorem eqS39_no {x0 y0 : Int} {x1 y1 : Int} {x2 y2 : Int} {x3 y3 : Int} : eqS39 x0 y0 x1 y1 x2 y2 x3 y3 = false ↔ ¬ (x0 = y0 ∧ x1 = y1 ∧ x2 = y2 ∧ x3 = y3) := by simp [eqS39]
theorem eqA39_ (x0 y0 : Int) (x1 y1 : Int) (x2 y2 : Int) (x3 y3 : Int) : eqA Try.prog 10000 39 (.agg [.int .i64 x0, .int .i64 x1, .int .i64 x2, .int .i64 x3]) (.agg [.int .i64 y0, .int .i64 y1, .int .i64 y2, .int .i64 y3]) = some ((decide (x0 = y0) && (decide (x1 = y1) && true)) && ((decide (x2 = y2) && (decide (x3 = y3) && true)) && true)) := by kernel_rfl
@[simp] theorem eqA39 (x0 y0 : Int) (x1 y1 : Int) (x2 y2 : Int) (x3 y3 : Int) : eqA Try.prog 10000 39 (.agg [.int .i64 x0, .int .i64 x1, .int .i64 x2, .int .i64 x3]) (.agg [.int .i64 y0, .int .i64 y1, .int .i64 y2, .int .i64 y3]) = some (eqS39 x0 y0 x1 y1 x2 y2 x3 y3) := by rw [eqA39_]; simp only [ba_eq, eqS39]; congr 1; rw [Bool.eq_iff_iff]; simp [and_assoc]
end Go.Proofs.Ytapocekfkbkefaa
