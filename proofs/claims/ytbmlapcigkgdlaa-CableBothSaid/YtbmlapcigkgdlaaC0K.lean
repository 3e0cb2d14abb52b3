import Derived.Test.YtbmlapcigkgdlaaAl2
import Derived.Test.YtbmlapcigkgdlaaProg
import Derived.KernelRfl
set_option linter.unusedVariables false
set_option linter.unusedSimpArgs false
set_option maxRecDepth 100000
namespace Go.Proofs.Ytbmlapcigkgdlaa
open Go Go.Al
theorem mixed : Try.prog.follows .mixedOrders = true := by kernel_rfl
theorem ti3 : ti Try.prog 3 = { ok := true, kd := (.int .i64), eqg := false, size := 1, bytes := 8, agg := false, elem := none, offs := [], flds := none, zero := (some [.int .i64 0]) } := by kernel_rfl
@[simp] theorem ti3_ok : (ti Try.prog 3).ok = true := by rw [ti3]
@[simp] theorem ti3_kd : (ti Try.prog 3).kd = (.int .i64) := by rw [ti3]
@[simp] theorem ti3_eqg : (ti Try.prog 3).eqg = false := by rw [ti3]
@[simp] theorem ti3_size : (ti Try.prog 3).size = 1 := by rw [ti3]
@[simp] theorem ti3_bytes : (ti Try.prog 3).bytes = 8 := by rw [ti3]
@[simp] theorem ti3_agg : (ti Try.prog 3).agg = false := by rw [ti3]
@[simp] theorem ti3_offs : (ti Try.prog 3).offs = [] := by rw [ti3]
@[simp] theorem ti3_isS : (ti Try.prog 3).isS = false := by rw [ti3]; rfl
@[simp] theorem ti3_isP : (ti Try.prog 3).isP = false := by rw [ti3]; rfl
@[simp] theorem ti3_zs : (ti Try.prog 3).zs = [.int .i64 0] := by rw [ti3]; rfl
@[simp] theorem ti3_hasz : (ti Try.prog 3).hasz = true := by rw [ti3]; rfl
theorem ti4 : ti Try.prog 4 = { ok := true, kd := .bool, eqg := false, size := 1, bytes := 1, agg := false, elem := none, offs := [], flds := none, zero := (some [.bool false]) } := by kernel_rfl
@[simp] theorem ti4_ok : (ti Try.prog 4).ok = true := by rw [ti4]
@[simp] theorem ti4_kd : (ti Try.prog 4).kd = .bool := by rw [ti4]
@[simp] theorem ti4_eqg : (ti Try.prog 4).eqg = false := by rw [ti4]
@[simp] theorem ti4_size : (ti Try.prog 4).size = 1 := by rw [ti4]
@[simp] theorem ti4_bytes : (ti Try.prog 4).bytes = 1 := by rw [ti4]
@[simp] theorem ti4_agg : (ti Try.prog 4).agg = false := by rw [ti4]
@[simp] theorem ti4_offs : (ti Try.prog 4).offs = [] := by rw [ti4]
@[simp] theorem ti4_isS : (ti Try.prog 4).isS = false := by rw [ti4]; rfl
@[simp] theorem ti4_isP : (ti Try.prog 4).isP = false := by rw [ti4]; rfl
@[simp] theorem ti4_zs : (ti Try.prog 4).zs = [.bool false] := by rw [ti4]; rfl
@[simp] theorem ti4_hasz : (ti Try.prog 4).hasz = true := by rw [ti4]; rfl
theorem ti22 : ti Try.prog 22 = { ok := true, kd := (.slc 29), eqg := false, size := 1, bytes := 24, agg := false, elem := (some 29), offs := [], flds := none, zero := (some [.nils]) } := by kernel_rfl
@[simp] theorem ti22_ok : (ti Try.prog 22).ok = true := by rw [ti22]
@[simp] theorem ti22_kd : (ti Try.prog 22).kd = (.slc 29) := by rw [ti22]
@[simp] theorem ti22_eqg : (ti Try.prog 22).eqg = false := by rw [ti22]
@[simp] theorem ti22_size : (ti Try.prog 22).size = 1 := by rw [ti22]
@[simp] theorem ti22_bytes : (ti Try.prog 22).bytes = 24 := by rw [ti22]
@[simp] theorem ti22_agg : (ti Try.prog 22).agg = false := by rw [ti22]
@[simp] theorem ti22_offs : (ti Try.prog 22).offs = [] := by rw [ti22]
@[simp] theorem ti22_isS : (ti Try.prog 22).isS = true := by rw [ti22]; rfl
@[simp] theorem ti22_isP : (ti Try.prog 22).isP = false := by rw [ti22]; rfl
@[simp] theorem ti22_el : (ti Try.prog 22).el = 29 := by rw [ti22]; rfl
@[simp] theorem ti22_zs : (ti Try.prog 22).zs = [.nils] := by rw [ti22]; rfl
@[simp] theorem ti22_hasz : (ti Try.prog 22).hasz = true := by rw [ti22]; rfl
theorem ti23 : ti Try.prog 23 = { ok := true, kd := (.ptr 52), eqg := false, size := 1, bytes := 8, agg := false, elem := none, offs := [], flds := none, zero := (some [.nil]) } := by kernel_rfl
@[simp] theorem ti23_ok : (ti Try.prog 23).ok = true := by rw [ti23]
@[simp] theorem ti23_kd : (ti Try.prog 23).kd = (.ptr 52) := by rw [ti23]
@[simp] theorem ti23_eqg : (ti Try.prog 23).eqg = false := by rw [ti23]
@[simp] theorem ti23_size : (ti Try.prog 23).size = 1 := by rw [ti23]
@[simp] theorem ti23_bytes : (ti Try.prog 23).bytes = 8 := by rw [ti23]
@[simp] theorem ti23_agg : (ti Try.prog 23).agg = false := by rw [ti23]
@[simp] theorem ti23_offs : (ti Try.prog 23).offs = [] := by rw [ti23]
@[simp] theorem ti23_isS : (ti Try.prog 23).isS = false := by rw [ti23]; rfl
@[simp] theorem ti23_isP : (ti Try.prog 23).isP = true := by rw [ti23]; rfl
@[simp] theorem ti23_zs : (ti Try.prog 23).zs = [.nil] := by rw [ti23]; rfl
@[simp] theorem ti23_hasz : (ti Try.prog 23).hasz = true := by rw [ti23]; rfl
theorem ti25 : ti Try.prog 25 = { ok := true, kd := (.slc 76), eqg := false, size := 1, bytes := 24, agg := false, elem := (some 76), offs := [], flds := none, zero := (some [.nils]) } := by kernel_rfl
@[simp] theorem ti25_ok : (ti Try.prog 25).ok = true := by rw [ti25]
@[simp] theorem ti25_kd : (ti Try.prog 25).kd = (.slc 76) := by rw [ti25]
@[simp] theorem ti25_eqg : (ti Try.prog 25).eqg = false := by rw [ti25]
@[simp] theorem ti25_size : (ti Try.prog 25).size = 1 := by rw [ti25]
@[simp] theorem ti25_bytes : (ti Try.prog 25).bytes = 24 := by rw [ti25]
@[simp] theorem ti25_agg : (ti Try.prog 25).agg = false := by rw [ti25]
@[simp] theorem ti25_offs : (ti Try.prog 25).offs = [] := by rw [ti25]
@[simp] theorem ti25_isS : (ti Try.prog 25).isS = true := by rw [ti25]; rfl
@[simp] theorem ti25_isP : (ti Try.prog 25).isP = false := by rw [ti25]; rfl
@[simp] theorem ti25_el : (ti Try.prog 25).el = 76 := by rw [ti25]; rfl
@[simp] theorem ti25_zs : (ti Try.prog 25).zs = [.nils] := by rw [ti25]; rfl
@[simp] theorem ti25_hasz : (ti Try.prog 25).hasz = true := by rw [ti25]; rfl
theorem ti27 : ti Try.prog 27 = { ok := true, kd := .struct, eqg := false, size := 2, bytes := 16, agg := true, elem := none, offs := [some 0, some 1], flds := (some [(0, 1), (1, 1)]), zero := (some [.int .i64 0, .int .i64 0]) } := by kernel_rfl
@[simp] theorem ti27_ok : (ti Try.prog 27).ok = true := by rw [ti27]
@[simp] theorem ti27_kd : (ti Try.prog 27).kd = .struct := by rw [ti27]
@[simp] theorem ti27_eqg : (ti Try.prog 27).eqg = false := by rw [ti27]
@[simp] theorem ti27_size : (ti Try.prog 27).size = 2 := by rw [ti27]
@[simp] theorem ti27_bytes : (ti Try.prog 27).bytes = 16 := by rw [ti27]
@[simp] theorem ti27_agg : (ti Try.prog 27).agg = true := by rw [ti27]
@[simp] theorem ti27_offs : (ti Try.prog 27).offs = [some 0, some 1] := by rw [ti27]
@[simp] theorem ti27_isS : (ti Try.prog 27).isS = false := by rw [ti27]; rfl
@[simp] theorem ti27_isP : (ti Try.prog 27).isP = false := by rw [ti27]; rfl
@[simp] theorem ti27_zs : (ti Try.prog 27).zs = [.int .i64 0, .int .i64 0] := by rw [ti27]; rfl
@[simp] theorem ti27_hasz : (ti Try.prog 27).hasz = true := by rw [ti27]; rfl
@[simp] theorem ti27_fl : (ti Try.prog 27).fl = [(0, 1), (1, 1)] := by rw [ti27]; rfl
@[simp] theorem ti27_hasf : (ti Try.prog 27).hasf = true := by rw [ti27]; rfl
theorem ti29 : ti Try.prog 29 = { ok := true, kd := .struct, eqg := false, size := 6, bytes := 48, agg := true, elem := none, offs := [some 0, some 1, some 3, some 5], flds := (some [(0, 1), (1, 2), (3, 2), (5, 1)]), zero := (some [.int .i64 0, .int .i64 0, .int .i64 0, .int .i64 0, .int .i64 0, .int .i64 0]) } := by kernel_rfl
@[simp] theorem ti29_ok : (ti Try.prog 29).ok = true := by rw [ti29]
@[simp] theorem ti29_kd : (ti Try.prog 29).kd = .struct := by rw [ti29]
@[simp] theorem ti29_eqg : (ti Try.prog 29).eqg = false := by rw [ti29]
@[simp] theorem ti29_size : (ti Try.prog 29).size = 6 := by rw [ti29]
@[simp] theorem ti29_bytes : (ti Try.prog 29).bytes = 48 := by rw [ti29]
@[simp] theorem ti29_agg : (ti Try.prog 29).agg = true := by rw [ti29]
@[simp] theorem ti29_offs : (ti Try.prog 29).offs = [some 0, some 1, some 3, some 5] := by rw [ti29]
@[simp] theorem ti29_isS : (ti Try.prog 29).isS = false := by rw [ti29]; rfl
@[simp] theorem ti29_isP : (ti Try.prog 29).isP = false := by rw [ti29]; rfl
@[simp] theorem ti29_zs : (ti Try.prog 29).zs = [.int .i64 0, .int .i64 0, .int .i64 0, .int .i64 0, .int .i64 0, .int .i64 0] := by rw [ti29]; rfl
@[simp] theorem ti29_hasz : (ti Try.prog 29).hasz = true := by rw [ti29]; rfl
@[simp] theorem ti29_fl : (ti Try.prog 29).fl = [(0, 1), (1, 2), (3, 2), (5, 1)] := by rw [ti29]; rfl
@[simp] theorem ti29_hasf : (ti Try.prog 29).hasf = true := by rw [ti29]; rfl
theorem ti36 : ti Try.prog 36 = { ok := true, kd := .struct, eqg := false, size := 4, bytes := 32, agg := true, elem := none, offs := [some 0, some 1, some 3], flds := (some [(0, 1), (1, 2), (3, 1)]), zero := (some [.int .i64 0, .int .i64 0, .int .i64 0, .int .i64 0]) } := by kernel_rfl
@[simp] theorem ti36_ok : (ti Try.prog 36).ok = true := by rw [ti36]
@[simp] theorem ti36_kd : (ti Try.prog 36).kd = .struct := by rw [ti36]
@[simp] theorem ti36_eqg : (ti Try.prog 36).eqg = false := by rw [ti36]
@[simp] theorem ti36_size : (ti Try.prog 36).size = 4 := by rw [ti36]
@[simp] theorem ti36_bytes : (ti Try.prog 36).bytes = 32 := by rw [ti36]
@[simp] theorem ti36_agg : (ti Try.prog 36).agg = true := by rw [ti36]
@[simp] theorem ti36_offs : (ti Try.prog 36).offs = [some 0, some 1, some 3] := by rw [ti36]
@[simp] theorem ti36_isS : (ti Try.prog 36).isS = false := by rw [ti36]; rfl
@[simp] theorem ti36_isP : (ti Try.prog 36).isP = false := by rw [ti36]; rfl
@[simp] theorem ti36_zs : (ti Try.prog 36).zs = [.int .i64 0, .int .i64 0, .int .i64 0, .int .i64 0] := by rw [ti36]; rfl
@[simp] theorem ti36_hasz : (ti Try.prog 36).hasz = true := by rw [ti36]; rfl
@[simp] theorem ti36_fl : (ti Try.prog 36).fl = [(0, 1), (1, 2), (3, 1)] := by rw [ti36]; rfl
@[simp] theorem ti36_hasf : (ti Try.prog 36).hasf = true := by rw [ti36]; rfl
theorem ti42 : ti Try.prog 42 = { ok := true, kd := (.int .i64), eqg := false, size := 1, bytes := 8, agg := false, elem := none, offs := [], flds := none, zero := (some [.int .i64 0]) } := by kernel_rfl
@[simp] theorem ti42_ok : (ti Try.prog 42).ok = true := by rw [ti42]
@[simp] theorem ti42_kd : (ti Try.prog 42).kd = (.int .i64) := by rw [ti42]
@[simp] theorem ti42_eqg : (ti Try.prog 42).eqg = false := by rw [ti42]
@[simp] theorem ti42_size : (ti Try.prog 42).size = 1 := by rw [ti42]
@[simp] theorem ti42_bytes : (ti Try.prog 42).bytes = 8 := by rw [ti42]
@[simp] theorem ti42_agg : (ti Try.prog 42).agg = false := by rw [ti42]
@[simp] theorem ti42_offs : (ti Try.prog 42).offs = [] := by rw [ti42]
@[simp] theorem ti42_isS : (ti Try.prog 42).isS = false := by rw [ti42]; rfl
@[simp] theorem ti42_isP : (ti Try.prog 42).isP = false := by rw [ti42]; rfl
@[simp] theorem ti42_zs : (ti Try.prog 42).zs = [.int .i64 0] := by rw [ti42]; rfl
@[simp] theorem ti42_hasz : (ti Try.prog 42).hasz = true := by rw [ti42]; rfl
theorem ti45 : ti Try.prog 45 = { ok := true, kd := (.slc 64), eqg := false, size := 1, bytes := 24, agg := false, elem := (some 64), offs := [], flds := none, zero := (some [.nils]) } := by kernel_rfl
@[simp] theorem ti45_ok : (ti Try.prog 45).ok = true := by rw [ti45]
@[simp] theorem ti45_kd : (ti Try.prog 45).kd = (.slc 64) := by rw [ti45]
@[simp] theorem ti45_eqg : (ti Try.prog 45).eqg = false := by rw [ti45]
@[simp] theorem ti45_size : (ti Try.prog 45).size = 1 := by rw [ti45]
@[simp] theorem ti45_bytes : (ti Try.prog 45).bytes = 24 := by rw [ti45]
@[simp] theorem ti45_agg : (ti Try.prog 45).agg = false := by rw [ti45]
@[simp] theorem ti45_offs : (ti Try.prog 45).offs = [] := by rw [ti45]
@[simp] theorem ti45_isS : (ti Try.prog 45).isS = true := by rw [ti45]; rfl
@[simp] theorem ti45_isP : (ti Try.prog 45).isP = false := by rw [ti45]; rfl
@[simp] theorem ti45_el : (ti Try.prog 45).el = 64 := by rw [ti45]; rfl
@[simp] theorem ti45_zs : (ti Try.prog 45).zs = [.nils] := by rw [ti45]; rfl
@[simp] theorem ti45_hasz : (ti Try.prog 45).hasz = true := by rw [ti45]; rfl
theorem ti49 : ti Try.prog 49 = { ok := true, kd := (.ptr 74), eqg := false, size := 1, bytes := 8, agg := false, elem := none, offs := [], flds := none, zero := (some [.nil]) } := by kernel_rfl
@[simp] theorem ti49_ok : (ti Try.prog 49).ok = true := by rw [ti49]
@[simp] theorem ti49_kd : (ti Try.prog 49).kd = (.ptr 74) := by rw [ti49]
@[simp] theorem ti49_eqg : (ti Try.prog 49).eqg = false := by rw [ti49]
@[simp] theorem ti49_size : (ti Try.prog 49).size = 1 := by rw [ti49]
@[simp] theorem ti49_bytes : (ti Try.prog 49).bytes = 8 := by rw [ti49]
@[simp] theorem ti49_agg : (ti Try.prog 49).agg = false := by rw [ti49]
@[simp] theorem ti49_offs : (ti Try.prog 49).offs = [] := by rw [ti49]
@[simp] theorem ti49_isS : (ti Try.prog 49).isS = false := by rw [ti49]; rfl
@[simp] theorem ti49_isP : (ti Try.prog 49).isP = true := by rw [ti49]; rfl
@[simp] theorem ti49_zs : (ti Try.prog 49).zs = [.nil] := by rw [ti49]; rfl
@[simp] theorem ti49_hasz : (ti Try.prog 49).hasz = true := by rw [ti49]; rfl
theorem ti52 : ti Try.prog 52 = { ok := true, kd := .struct, eqg := false, size := 1, bytes := 8, agg := true, elem := none, offs := [some 0], flds := (some [(0, 1)]), zero := (some [.nil]) } := by kernel_rfl
@[simp] theorem ti52_ok : (ti Try.prog 52).ok = true := by rw [ti52]
@[simp] theorem ti52_kd : (ti Try.prog 52).kd = .struct := by rw [ti52]
@[simp] theorem ti52_eqg : (ti Try.prog 52).eqg = false := by rw [ti52]
@[simp] theorem ti52_size : (ti Try.prog 52).size = 1 := by rw [ti52]
@[simp] theorem ti52_bytes : (ti Try.prog 52).bytes = 8 := by rw [ti52]
@[simp] theorem ti52_agg : (ti Try.prog 52).agg = true := by rw [ti52]
@[simp] theorem ti52_offs : (ti Try.prog 52).offs = [some 0] := by rw [ti52]
@[simp] theorem ti52_isS : (ti Try.prog 52).isS = false := by rw [ti52]; rfl
@[simp] theorem ti52_isP : (ti Try.prog 52).isP = false := by rw [ti52]; rfl
@[simp] theorem ti52_zs : (ti Try.prog 52).zs = [.nil] := by rw [ti52]; rfl
@[simp] theorem ti52_hasz : (ti Try.prog 52).hasz = true := by rw [ti52]; rfl
@[simp] theorem ti52_fl : (ti Try.prog 52).fl = [(0, 1)] := by rw [ti52]; rfl
@[simp] theorem ti52_hasf : (ti Try.prog 52).hasf = true := by rw [ti52]; rfl
theorem ti56 : ti Try.prog 56 = { ok := true, kd := .struct, eqg := false, size := 4, bytes := 32, agg := true, elem := none, offs := [some 0, some 1, some 3], flds := (some [(0, 1), (1, 2), (3, 1)]), zero := (some [.int .i64 0, .int .i64 0, .int .i64 0, .int .i64 0]) } := by kernel_rfl
@[simp] theorem ti56_ok : (ti Try.prog 56).ok = true := by rw [ti56]
@[simp] theorem ti56_kd : (ti Try.prog 56).kd = .struct := by rw [ti56]
@[simp] theorem ti56_eqg : (ti Try.prog 56).eqg = false := by rw [ti56]
@[simp] theorem ti56_size : (ti Try.prog 56).size = 4 := by rw [ti56]
@[simp] theorem ti56_bytes : (ti Try.prog 56).bytes = 32 := by rw [ti56]
@[simp] theorem ti56_agg : (ti Try.prog 56).agg = true := by rw [ti56]
@[simp] theorem ti56_offs : (ti Try.prog 56).offs = [some 0, some 1, some 3] := by rw [ti56]
@[simp] theorem ti56_isS : (ti Try.prog 56).isS = false := by rw [ti56]; rfl
@[simp] theorem ti56_isP : (ti Try.prog 56).isP = false := by rw [ti56]; rfl
@[simp] theorem ti56_zs : (ti Try.prog 56).zs = [.int .i64 0, .int .i64 0, .int .i64 0, .int .i64 0] := by rw [ti56]; rfl
@[simp] theorem ti56_hasz : (ti Try.prog 56).hasz = true := by rw [ti56]; rfl
@[simp] theorem ti56_fl : (ti Try.prog 56).fl = [(0, 1), (1, 2), (3, 1)] := by rw [ti56]; rfl
@[simp] theorem ti56_hasf : (ti Try.prog 56).hasf = true := by rw [ti56]; rfl
theorem ti64 : ti Try.prog 64 = { ok := true, kd := .struct, eqg := false, size := 4, bytes := 32, agg := true, elem := none, offs := [some 0, some 2], flds := (some [(0, 2), (2, 2)]), zero := (some [.int .i64 0, .int .i64 0, .int .i64 0, .int .i64 0]) } := by kernel_rfl
@[simp] theorem ti64_ok : (ti Try.prog 64).ok = true := by rw [ti64]
@[simp] theorem ti64_kd : (ti Try.prog 64).kd = .struct := by rw [ti64]
@[simp] theorem ti64_eqg : (ti Try.prog 64).eqg = false := by rw [ti64]
@[simp] theorem ti64_size : (ti Try.prog 64).size = 4 := by rw [ti64]
@[simp] theorem ti64_bytes : (ti Try.prog 64).bytes = 32 := by rw [ti64]
@[simp] theorem ti64_agg : (ti Try.prog 64).agg = true := by rw [ti64]
@[simp] theorem ti64_offs : (ti Try.prog 64).offs = [some 0, some 2] := by rw [ti64]
@[simp] theorem ti64_isS : (ti Try.prog 64).isS = false := by rw [ti64]; rfl
@[simp] theorem ti64_isP : (ti Try.prog 64).isP = false := by rw [ti64]; rfl
@[simp] theorem ti64_zs : (ti Try.prog 64).zs = [.int .i64 0, .int .i64 0, .int .i64 0, .int .i64 0] := by rw [ti64]; rfl
@[simp] theorem ti64_hasz : (ti Try.prog 64).hasz = true := by rw [ti64]; rfl
@[simp] theorem ti64_fl : (ti Try.prog 64).fl = [(0, 2), (2, 2)] := by rw [ti64]; rfl
@[simp] theorem ti64_hasf : (ti Try.prog 64).hasf = true := by rw [ti64]; rfl
theorem ti67 : ti Try.prog 67 = { ok := true, kd := (.slc 3), eqg := false, size := 1, bytes := 24, agg := false, elem := (some 3), offs := [], flds := none, zero := (some [.nils]) } := by kernel_rfl
@[simp] theorem ti67_ok : (ti Try.prog 67).ok = true := by rw [ti67]
@[simp] theorem ti67_kd : (ti Try.prog 67).kd = (.slc 3) := by rw [ti67]
@[simp] theorem ti67_eqg : (ti Try.prog 67).eqg = false := by rw [ti67]
@[simp] theorem ti67_size : (ti Try.prog 67).size = 1 := by rw [ti67]
@[simp] theorem ti67_bytes : (ti Try.prog 67).bytes = 24 := by rw [ti67]
@[simp] theorem ti67_agg : (ti Try.prog 67).agg = false := by rw [ti67]
@[simp] theorem ti67_offs : (ti Try.prog 67).offs = [] := by rw [ti67]
@[simp] theorem ti67_isS : (ti Try.prog 67).isS = true := by rw [ti67]; rfl
@[simp] theorem ti67_isP : (ti Try.prog 67).isP = false := by rw [ti67]; rfl
@[simp] theorem ti67_el : (ti Try.prog 67).el = 3 := by rw [ti67]; rfl
@[simp] theorem ti67_zs : (ti Try.prog 67).zs = [.nils] := by rw [ti67]; rfl
@[simp] theorem ti67_hasz : (ti Try.prog 67).hasz = true := by rw [ti67]; rfl
theorem ti72 : ti Try.prog 72 = { ok := true, kd := (.slc 81), eqg := false, size := 1, bytes := 24, agg := false, elem := (some 81), offs := [], flds := none, zero := (some [.nils]) } := by kernel_rfl
@[simp] theorem ti72_ok : (ti Try.prog 72).ok = true := by rw [ti72]
@[simp] theorem ti72_kd : (ti Try.prog 72).kd = (.slc 81) := by rw [ti72]
@[simp] theorem ti72_eqg : (ti Try.prog 72).eqg = false := by rw [ti72]
@[simp] theorem ti72_size : (ti Try.prog 72).size = 1 := by rw [ti72]
@[simp] theorem ti72_bytes : (ti Try.prog 72).bytes = 24 := by rw [ti72]
@[simp] theorem ti72_agg : (ti Try.prog 72).agg = false := by rw [ti72]
@[simp] theorem ti72_offs : (ti Try.prog 72).offs = [] := by rw [ti72]
@[simp] theorem ti72_isS : (ti Try.prog 72).isS = true := by rw [ti72]; rfl
@[simp] theorem ti72_isP : (ti Try.prog 72).isP = false := by rw [ti72]; rfl
@[simp] theorem ti72_el : (ti Try.prog 72).el = 81 := by rw [ti72]; rfl
@[simp] theorem ti72_zs : (ti Try.prog 72).zs = [.nils] := by rw [ti72]; rfl
@[simp] theorem ti72_hasz : (ti Try.prog 72).hasz = true := by rw [ti72]; rfl
theorem ti74 : ti Try.prog 74 = { ok := true, kd := .struct, eqg := false, size := 2, bytes := 32, agg := true, elem := none, offs := [some 0, some 1], flds := (some [(0, 1), (1, 1)]), zero := (some [.nils, .int .i64 0]) } := by kernel_rfl
@[simp] theorem ti74_ok : (ti Try.prog 74).ok = true := by rw [ti74]
@[simp] theorem ti74_kd : (ti Try.prog 74).kd = .struct := by rw [ti74]
@[simp] theorem ti74_eqg : (ti Try.prog 74).eqg = false := by rw [ti74]
@[simp] theorem ti74_size : (ti Try.prog 74).size = 2 := by rw [ti74]
@[simp] theorem ti74_bytes : (ti Try.prog 74).bytes = 32 := by rw [ti74]
@[simp] theorem ti74_agg : (ti Try.prog 74).agg = true := by rw [ti74]
@[simp] theorem ti74_offs : (ti Try.prog 74).offs = [some 0, some 1] := by rw [ti74]
@[simp] theorem ti74_isS : (ti Try.prog 74).isS = false := by rw [ti74]; rfl
@[simp] theorem ti74_isP : (ti Try.prog 74).isP = false := by rw [ti74]; rfl
@[simp] theorem ti74_zs : (ti Try.prog 74).zs = [.nils, .int .i64 0] := by rw [ti74]; rfl
@[simp] theorem ti74_hasz : (ti Try.prog 74).hasz = true := by rw [ti74]; rfl
@[simp] theorem ti74_fl : (ti Try.prog 74).fl = [(0, 1), (1, 1)] := by rw [ti74]; rfl
@[simp] theorem ti74_hasf : (ti Try.prog 74).hasf = true := by rw [ti74]; rfl
theorem ti76 : ti Try.prog 76 = { ok := true, kd := .struct, eqg := false, size := 6, bytes := 48, agg := true, elem := none, offs := [some 0, some 2, some 4, some 5], flds := (some [(0, 2), (2, 2), (4, 1), (5, 1)]), zero := (some [.int .i64 0, .int .i64 0, .int .i64 0, .int .i64 0, .int .i64 0, .bool false]) } := by kernel_rfl
@[simp] theorem ti76_ok : (ti Try.prog 76).ok = true := by rw [ti76]
@[simp] theorem ti76_kd : (ti Try.prog 76).kd = .struct := by rw [ti76]
@[simp] theorem ti76_eqg : (ti Try.prog 76).eqg = false := by rw [ti76]
@[simp] theorem ti76_size : (ti Try.prog 76).size = 6 := by rw [ti76]
@[simp] theorem ti76_bytes : (ti Try.prog 76).bytes = 48 := by rw [ti76]
@[simp] theorem ti76_agg : (ti Try.prog 76).agg = true := by rw [ti76]
@[simp] theorem ti76_offs : (ti Try.prog 76).offs = [some 0, some 2, some 4, some 5] := by rw [ti76]
@[simp] theorem ti76_isS : (ti Try.prog 76).isS = false := by rw [ti76]; rfl
@[simp] theorem ti76_isP : (ti Try.prog 76).isP = false := by rw [ti76]; rfl
@[simp] theorem ti76_zs : (ti Try.prog 76).zs = [.int .i64 0, .int .i64 0, .int .i64 0, .int .i64 0, .int .i64 0, .bool false] := by rw [ti76]; rfl
@[simp] theorem ti76_hasz : (ti Try.prog 76).hasz = true := by rw [ti76]; rfl
@[simp] theorem ti76_fl : (ti Try.prog 76).fl = [(0, 2), (2, 2), (4, 1), (5, 1)] := by rw [ti76]; rfl
@[simp] theorem ti76_hasf : (ti Try.prog 76).hasf = true := by rw [ti76]; rfl
theorem ti81 : ti Try.prog 81 = { ok := true, kd := .struct, eqg := false, size := 5, bytes := 40, agg := true, elem := none, offs := [some 0, some 1], flds := (some [(0, 1), (1, 4)]), zero := (some [.int .i64 0, .int .i64 0, .int .i64 0, .int .i64 0, .int .i64 0]) } := by kernel_rfl
@[simp] theorem ti81_ok : (ti Try.prog 81).ok = true := by rw [ti81]
@[simp] theorem ti81_kd : (ti Try.prog 81).kd = .struct := by rw [ti81]
@[simp] theorem ti81_eqg : (ti Try.prog 81).eqg = false := by rw [ti81]
@[simp] theorem ti81_size : (ti Try.prog 81).size = 5 := by rw [ti81]
@[simp] theorem ti81_bytes : (ti Try.prog 81).bytes = 40 := by rw [ti81]
@[simp] theorem ti81_agg : (ti Try.prog 81).agg = true := by rw [ti81]
@[simp] theorem ti81_offs : (ti Try.prog 81).offs = [some 0, some 1] := by rw [ti81]
@[simp] theorem ti81_isS : (ti Try.prog 81).isS = false := by rw [ti81]; rfl
@[simp] theorem ti81_isP : (ti Try.prog 81).isP = false := by rw [ti81]; rfl
@[simp] theorem ti81_zs : (ti Try.prog 81).zs = [.int .i64 0, .int .i64 0, .int .i64 0, .int .i64 0, .int .i64 0] := by rw [ti81]; rfl
@[simp] theorem ti81_hasz : (ti Try.prog 81).hasz = true := by rw [ti81]; rfl
@[simp] theorem ti81_fl : (ti Try.prog 81).fl = [(0, 1), (1, 4)] := by rw [ti81]; rfl
@[simp] theorem ti81_hasf : (ti Try.prog 81).hasf = true := by rw [ti81]; rfl
@[simp] theorem ca3 : callable Try.prog 3 = true := by kernel_rfl
@[simp] theorem ca4 : callable Try.prog 4 = true := by kernel_rfl
@[simp] theorem ca5 : callable Try.prog 5 = true := by kernel_rfl
@[simp] theorem ca6 : callable Try.prog 6 = true := by kernel_rfl
@[simp] theorem ca7 : callable Try.prog 7 = true := by kernel_rfl
@[simp] theorem ca8 : callable Try.prog 8 = true := by kernel_rfl
@[simp] theorem ca9 : callable Try.prog 9 = true := by kernel_rfl
@[simp] theorem ca10 : callable Try.prog 10 = true := by kernel_rfl
@[simp] theorem ca11 : callable Try.prog 11 = true := by kernel_rfl
@[simp] theorem ca12 : callable Try.prog 12 = true := by kernel_rfl
@[simp] theorem ca13 : callable Try.prog 13 = true := by kernel_rfl
@[simp] theorem ca14 : callable Try.prog 14 = true := by kernel_rfl
@[simp] theorem ca15 : callable Try.prog 15 = true := by kernel_rfl
@[simp] theorem ca16 : callable Try.prog 16 = true := by kernel_rfl
@[simp] theorem ca17 : callable Try.prog 17 = true := by kernel_rfl
@[simp] theorem ca18 : callable Try.prog 18 = true := by kernel_rfl
@[simp] theorem ca19 : callable Try.prog 19 = true := by kernel_rfl
@[simp] theorem ca20 : callable Try.prog 20 = true := by kernel_rfl
@[simp] theorem ca21 : callable Try.prog 21 = true := by kernel_rfl
@[simp] theorem ca22 : callable Try.prog 22 = true := by kernel_rfl
@[simp] theorem ca23 : callable Try.prog 23 = true := by kernel_rfl
@[simp] theorem ca24 : callable Try.prog 24 = true := by kernel_rfl
@[simp] theorem ca25 : callable Try.prog 25 = true := by kernel_rfl
@[simp] theorem ca26 : callable Try.prog 26 = true := by kernel_rfl
@[simp] theorem ca27 : callable Try.prog 27 = true := by kernel_rfl
@[simp] theorem ca28 : callable Try.prog 28 = true := by kernel_rfl
@[simp] theorem ca29 : callable Try.prog 29 = true := by kernel_rfl
@[simp] theorem ca30 : callable Try.prog 30 = true := by kernel_rfl
@[simp] theorem ca31 : callable Try.prog 31 = true := by kernel_rfl
@[simp] theorem ca32 : callable Try.prog 32 = true := by kernel_rfl
@[simp] theorem ca33 : callable Try.prog 33 = true := by kernel_rfl
@[simp] theorem ca34 : callable Try.prog 34 = true := by kernel_rfl
@[simp] theorem ca35 : callable Try.prog 35 = true := by kernel_rfl
@[simp] theorem ca36 : callable Try.prog 36 = true := by kernel_rfl
@[simp] theorem ca37 : callable Try.prog 37 = true := by kernel_rfl
@[simp] theorem ca38 : callable Try.prog 38 = true := by kernel_rfl
@[simp] theorem ca39 : callable Try.prog 39 = false := by kernel_rfl
@[simp] theorem ca40 : callable Try.prog 40 = true := by kernel_rfl
@[simp] theorem ca41 : callable Try.prog 41 = true := by kernel_rfl
@[simp] theorem ca42 : callable Try.prog 42 = true := by kernel_rfl
/-- equality of type 27: ostiary/api.Place -/
def eqS27 (x0 y0 : Int) (x1 y1 : Int) : Bool := decide (x0 = y0 ∧ x1 = y1)
theorem eqS27_iff {x0 y0 : Int} {x1 y1 : Int} : eqS27 x0 y0 x1 y1 = true ↔ x0 = y0 ∧ x1 = y1 := by simp [eqS27]
theorem eqS27_no {x0 y0 : Int} {x1 y1 : Int} : eqS27 x0 y0 x1 y1 = false ↔ ¬ (x0 = y0 ∧ x1 = y1) := by simp [eqS27]
theorem eqA27_ (x0 y0 : Int) (x1 y1 : Int) : eqA Try.prog 10000 27 (.agg [.int .i64 x0, .int .i64 x1]) (.agg [.int .i64 y0, .int .i64 y1]) = some (decide (x0 = y0) && (decide (x1 = y1) && true)) := by kernel_rfl
@[simp] theorem eqA27 (x0 y0 : Int) (x1 y1 : Int) : eqA Try.prog 10000 27 (.agg [.int .i64 x0, .int .i64 x1]) (.agg [.int .i64 y0, .int .i64 y1]) = some (eqS27 x0 y0 x1 y1) := by rw [eqA27_]; simp only [ba_eq, eqS27]; congr 1; rw [Bool.eq_iff_iff]; simp [and_assoc]
/-- equality of type 36: ostiary/cable.End -/
def eqS36 (x0 y0 : Int) (x1 y1 : Int) (x2 y2 : Int) (x3 y3 : Int) : Bool := decide (x0 = y0 ∧ x1 = y1 ∧ x2 = y2 ∧ x3 = y3)
theorem eqS36_iff {x0 y0 : Int} {x1 y1 : Int} {x2 y2 : Int} {x3 y3 : Int} : eqS36 x0 y0 x1 y1 x2 y2 x3 y3 = true ↔ x0 = y0 ∧ x1 = y1 ∧ x2 = y2 ∧ x3 = y3 := by simp [eqS36]
theorem eqS36_no {x0 y0 : Int} {x1 y1 : Int} {x2 y2 : Int} {x3 y3 : Int} : eqS36 x0 y0 x1 y1 x2 y2 x3 y3 = false ↔ ¬ (x0 = y0 ∧ x1 = y1 ∧ x2 = y2 ∧ x3 = y3) := by simp [eqS36]
theorem eqA36_ (x0 y0 : Int) (x1 y1 : Int) (x2 y2 : Int) (x3 y3 : Int) : eqA Try.prog 10000 36 (.agg [.int .i64 x0, .int .i64 x1, .int .i64 x2, .int .i64 x3]) (.agg [.int .i64 y0, .int .i64 y1, .int .i64 y2, .int .i64 y3]) = some (decide (x0 = y0) && ((decide (x1 = y1) && (decide (x2 = y2) && true)) && (decide (x3 = y3) && true))) := by kernel_rfl
@[simp] theorem eqA36 (x0 y0 : Int) (x1 y1 : Int) (x2 y2 : Int) (x3 y3 : Int) : eqA Try.prog 10000 36 (.agg [.int .i64 x0, .int .i64 x1, .int .i64 x2, .int .i64 x3]) (.agg [.int .i64 y0, .int .i64 y1, .int .i64 y2, .int .i64 y3]) = some (eqS36 x0 y0 x1 y1 x2 y2 x3 y3) := by rw [eqA36_]; simp only [ba_eq, eqS36]; congr 1; rw [Bool.eq_iff_iff]; simp [and_assoc]
/-- equality of type 56: ostiary/ostiaryref19.End -/
def eqS56 (x0 y0 : Int) (x1 y1 : Int) (x2 y2 : Int) (x3 y3 : Int) : Bool := decide (x0 = y0 ∧ x1 = y1 ∧ x2 = y2 ∧ x3 = y3)
theorem eqS56_iff {x0 y0 : Int} {x1 y1 : Int} {x2 y2 : Int} {x3 y3 : Int} : eqS56 x0 y0 x1 y1 x2 y2 x3 y3 = true ↔ x0 = y0 ∧ x1 = y1 ∧ x2 = y2 ∧ x3 = y3 := by simp [eqS56]
theorem eqS56_no {x0 y0 : Int} {x1 y1 : Int} {x2 y2 : Int} {x3 y3 : Int} : eqS56 x0 y0 x1 y1 x2 y2 x3 y3 = false ↔ ¬ (x0 = y0 ∧ x1 = y1 ∧ x2 = y2 ∧ x3 = y3) := by simp [eqS56]
theorem eqA56_ (x0 y0 : Int) (x1 y1 : Int) (x2 y2 : Int) (x3 y3 : Int) : eqA Try.prog 10000 56 (.agg [.int .i64 x0, .int .i64 x1, .int .i64 x2, .int .i64 x3]) (.agg [.int .i64 y0, .int .i64 y1, .int .i64 y2, .int .i64 y3]) = some (decide (x0 = y0) && ((decide (x1 = y1) && (decide (x2 = y2) && true)) && (decide (x3 = y3) && true))) := by kernel_rfl
@[simp] theorem eqA56 (x0 y0 : Int) (x1 y1 : Int) (x2 y2 : Int) (x3 y3 : Int) : eqA Try.prog 10000 56 (.agg [.int .i64 x0, .int .i64 x1, .int .i64 x2, .int .i64 x3]) (.agg [.int .i64 y0, .int .i64 y1, .int .i64 y2, .int .i64 y3]) = some (eqS56 x0 y0 x1 y1 x2 y2 x3 y3) := by rw [eqA56_]; simp only [ba_eq, eqS56]; congr 1; rw [Bool.eq_iff_iff]; simp [and_assoc]
/-- equality of type 64: ostiary/api.Link -/
def eqS64 (x0 y0 : Int) (x1 y1 : Int) (x2 y2 : Int) (x3 y3 : Int) : Bool := decide (x0 = y0 ∧ x1 = y1 ∧ x2 = y2 ∧ x3 = y3)
theorem eqS64_iff {x0 y0 : Int} {x1 y1 : Int} {x2 y2 : Int} {x3 y3 : Int} : eqS64 x0 y0 x1 y1 x2 y2 x3 y3 = true ↔ x0 = y0 ∧ x1 = y1 ∧ x2 = y2 ∧ x3 = y3 := by simp [eqS64]
theorem eqS64_no {x0 y0 : Int} {x1 y1 : Int} {x2 y2 : Int} {x3 y3 : Int} : eqS64 x0 y0 x1 y1 x2 y2 x3 y3 = false ↔ ¬ (x0 = y0 ∧ x1 = y1 ∧ x2 = y2 ∧ x3 = y3) := by simp [eqS64]
theorem eqA64_ (x0 y0 : Int) (x1 y1 : Int) (x2 y2 : Int) (x3 y3 : Int) : eqA Try.prog 10000 64 (.agg [.int .i64 x0, .int .i64 x1, .int .i64 x2, .int .i64 x3]) (.agg [.int .i64 y0, .int .i64 y1, .int .i64 y2, .int .i64 y3]) = some ((decide (x0 = y0) && (decide (x1 = y1) && true)) && ((decide (x2 = y2) && (decide (x3 = y3) && true)) && true)) := by kernel_rfl
@[simp] theorem eqA64 (x0 y0 : Int) (x1 y1 : Int) (x2 y2 : Int) (x3 y3 : Int) : eqA Try.prog 10000 64 (.agg [.int .i64 x0, .int .i64 x1, .int .i64 x2, .int .i64 x3]) (.agg [.int .i64 y0, .int .i64 y1, .int .i64 y2, .int .i64 y3]) = some (eqS64 x0 y0 x1 y1 x2 y2 x3 y3) := by rw [eqA64_]; simp only [ba_eq, eqS64]; congr 1; rw [Bool.eq_iff_iff]; simp [and_assoc]
end Go.Proofs.Ytbmlapcigkgdlaa
