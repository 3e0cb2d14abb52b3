import Derived.Test.YtgideonigiokbaaAl2
import Derived.Test.YtgideonigiokbaaProg
import Derived.KernelRfl
set_option linter.unusedVariables false
set_option linter.unusedSimpArgs false
set_option maxRecDepth 100000
namespace Go.Proofs.Ytgideonigiokbaa
open Go Go.Al
theorem mixed : Try.prog.follows .mixedOrders = true := by kernel_rfl
theorem ti2 : ti Try.prog 2 = { ok := true, kd := (.int .i64), eqg := false, size := 1, bytes := 8, agg := false, elem := none, offs := [], flds := none, zero := (some [.int .i64 0]) } := by kernel_rfl
@[simp] theorem ti2_ok : (ti Try.prog 2).ok = true := by rw [ti2]
@[simp] theorem ti2_kd : (ti Try.prog 2).kd = (.int .i64) := by rw [ti2]
@[simp] theorem ti2_eqg : (ti Try.prog 2).eqg = false := by rw [ti2]
@[simp] theorem ti2_size : (ti Try.prog 2).size = 1 := by rw [ti2]
@[simp] theorem ti2_bytes : (ti Try.prog 2).bytes = 8 := by rw [ti2]
@[simp] theorem ti2_agg : (ti Try.prog 2).agg = false := by rw [ti2]
@[simp] theorem ti2_offs : (ti Try.prog 2).offs = [] := by rw [ti2]
@[simp] theorem ti2_isS : (ti Try.prog 2).isS = false := by rw [ti2]; rfl
@[simp] theorem ti2_isP : (ti Try.prog 2).isP = false := by rw [ti2]; rfl
@[simp] theorem ti2_zs : (ti Try.prog 2).zs = [.int .i64 0] := by rw [ti2]; rfl
@[simp] theorem ti2_hasz : (ti Try.prog 2).hasz = true := by rw [ti2]; rfl
theorem ti3 : ti Try.prog 3 = { ok := true, kd := (.int .i64), eqg := false, size := 1, bytes := 8, agg := false, elem := none, offs := [], flds := none, zero := (some [.int .i64 0]) } := by kernel_rfl
@[simp] theorem ti3_ok : (ti Try.prog 3).ok = true := by rw [ti3]
@[simp] theorem ti3_kd : (ti Try.prog 3).kd = (.int .i64) := by rw [ti3]
@[simp] theorem ti3_eqg : (ti Try.prog 3).eqg = false := by rw [ti3]
@[simp] theorem ti3_size : (ti Try.prog 3).size = 1 := by rw [ti3]
@[simp] theorem ti3_bytes : (ti Try.prog 3).bytes = 8 := by rw [ti3]
@[simp] theorem ti3_agg : (ti Try.prog 3).agg = false := by rw [ti3]
@[simp] theorem ti3_offs : (ti Try.prog 3).offs = [] := by rw [ti3]
@[simp] theorem ti3_isS : (ti Try.prog 3).isS = false := by rw [ti3]; rfl
@[simp] theorem ti3_isP : (ti Try.prog 3).isP = false := by rw [ti3]; rfl
@[simp] theorem ti3_zs : (ti Try.prog 3).zs = [.int .i64 0] := by rw [ti3]; rfl
@[simp] theorem ti3_hasz : (ti Try.prog 3).hasz = true := by rw [ti3]; rfl
theorem ti4 : ti Try.prog 4 = { ok := true, kd := .bool, eqg := false, size := 1, bytes := 1, agg := false, elem := none, offs := [], flds := none, zero := (some [.bool false]) } := by kernel_rfl
@[simp] theorem ti4_ok : (ti Try.prog 4).ok = true := by rw [ti4]
@[simp] theorem ti4_kd : (ti Try.prog 4).kd = .bool := by rw [ti4]
@[simp] theorem ti4_eqg : (ti Try.prog 4).eqg = false := by rw [ti4]
@[simp] theorem ti4_size : (ti Try.prog 4).size = 1 := by rw [ti4]
@[simp] theorem ti4_bytes : (ti Try.prog 4).bytes = 1 := by rw [ti4]
@[simp] theorem ti4_agg : (ti Try.prog 4).agg = false := by rw [ti4]
@[simp] theorem ti4_offs : (ti Try.prog 4).offs = [] := by rw [ti4]
@[simp] theorem ti4_isS : (ti Try.prog 4).isS = false := by rw [ti4]; rfl
@[simp] theorem ti4_isP : (ti Try.prog 4).isP = false := by rw [ti4]; rfl
@[simp] theorem ti4_zs : (ti Try.prog 4).zs = [.bool false] := by rw [ti4]; rfl
@[simp] theorem ti4_hasz : (ti Try.prog 4).hasz = true := by rw [ti4]; rfl
theorem ti5 : ti Try.prog 5 = { ok := true, kd := (.int .u8), eqg := false, size := 1, bytes := 1, agg := false, elem := none, offs := [], flds := none, zero := (some [.int .u8 0]) } := by kernel_rfl
@[simp] theorem ti5_ok : (ti Try.prog 5).ok = true := by rw [ti5]
@[simp] theorem ti5_kd : (ti Try.prog 5).kd = (.int .u8) := by rw [ti5]
@[simp] theorem ti5_eqg : (ti Try.prog 5).eqg = false := by rw [ti5]
@[simp] theorem ti5_size : (ti Try.prog 5).size = 1 := by rw [ti5]
@[simp] theorem ti5_bytes : (ti Try.prog 5).bytes = 1 := by rw [ti5]
@[simp] theorem ti5_agg : (ti Try.prog 5).agg = false := by rw [ti5]
@[simp] theorem ti5_offs : (ti Try.prog 5).offs = [] := by rw [ti5]
@[simp] theorem ti5_isS : (ti Try.prog 5).isS = false := by rw [ti5]; rfl
@[simp] theorem ti5_isP : (ti Try.prog 5).isP = false := by rw [ti5]; rfl
@[simp] theorem ti5_zs : (ti Try.prog 5).zs = [.int .u8 0] := by rw [ti5]; rfl
@[simp] theorem ti5_hasz : (ti Try.prog 5).hasz = true := by rw [ti5]; rfl
theorem ti9 : ti Try.prog 9 = { ok := true, kd := .str, eqg := false, size := 1, bytes := 16, agg := false, elem := none, offs := [], flds := none, zero := (some [.str ByteArray.empty]) } := by kernel_rfl
@[simp] theorem ti9_ok : (ti Try.prog 9).ok = true := by rw [ti9]
@[simp] theorem ti9_kd : (ti Try.prog 9).kd = .str := by rw [ti9]
@[simp] theorem ti9_eqg : (ti Try.prog 9).eqg = false := by rw [ti9]
@[simp] theorem ti9_size : (ti Try.prog 9).size = 1 := by rw [ti9]
@[simp] theorem ti9_bytes : (ti Try.prog 9).bytes = 16 := by rw [ti9]
@[simp] theorem ti9_agg : (ti Try.prog 9).agg = false := by rw [ti9]
@[simp] theorem ti9_offs : (ti Try.prog 9).offs = [] := by rw [ti9]
@[simp] theorem ti9_isS : (ti Try.prog 9).isS = false := by rw [ti9]; rfl
@[simp] theorem ti9_isP : (ti Try.prog 9).isP = false := by rw [ti9]; rfl
@[simp] theorem ti9_zs : (ti Try.prog 9).zs = [.str ByteArray.empty] := by rw [ti9]; rfl
@[simp] theorem ti9_hasz : (ti Try.prog 9).hasz = true := by rw [ti9]; rfl
theorem ti22 : ti Try.prog 22 = { ok := true, kd := (.int .u32), eqg := false, size := 1, bytes := 4, agg := false, elem := none, offs := [], flds := none, zero := (some [.int .u32 0]) } := by kernel_rfl
@[simp] theorem ti22_ok : (ti Try.prog 22).ok = true := by rw [ti22]
@[simp] theorem ti22_kd : (ti Try.prog 22).kd = (.int .u32) := by rw [ti22]
@[simp] theorem ti22_eqg : (ti Try.prog 22).eqg = false := by rw [ti22]
@[simp] theorem ti22_size : (ti Try.prog 22).size = 1 := by rw [ti22]
@[simp] theorem ti22_bytes : (ti Try.prog 22).bytes = 4 := by rw [ti22]
@[simp] theorem ti22_agg : (ti Try.prog 22).agg = false := by rw [ti22]
@[simp] theorem ti22_offs : (ti Try.prog 22).offs = [] := by rw [ti22]
@[simp] theorem ti22_isS : (ti Try.prog 22).isS = false := by rw [ti22]; rfl
@[simp] theorem ti22_isP : (ti Try.prog 22).isP = false := by rw [ti22]; rfl
@[simp] theorem ti22_zs : (ti Try.prog 22).zs = [.int .u32 0] := by rw [ti22]; rfl
@[simp] theorem ti22_hasz : (ti Try.prog 22).hasz = true := by rw [ti22]; rfl
theorem ti23 : ti Try.prog 23 = { ok := true, kd := (.int .u64), eqg := false, size := 1, bytes := 8, agg := false, elem := none, offs := [], flds := none, zero := (some [.int .u64 0]) } := by kernel_rfl
@[simp] theorem ti23_ok : (ti Try.prog 23).ok = true := by rw [ti23]
@[simp] theorem ti23_kd : (ti Try.prog 23).kd = (.int .u64) := by rw [ti23]
@[simp] theorem ti23_eqg : (ti Try.prog 23).eqg = false := by rw [ti23]
@[simp] theorem ti23_size : (ti Try.prog 23).size = 1 := by rw [ti23]
@[simp] theorem ti23_bytes : (ti Try.prog 23).bytes = 8 := by rw [ti23]
@[simp] theorem ti23_agg : (ti Try.prog 23).agg = false := by rw [ti23]
@[simp] theorem ti23_offs : (ti Try.prog 23).offs = [] := by rw [ti23]
@[simp] theorem ti23_isS : (ti Try.prog 23).isS = false := by rw [ti23]; rfl
@[simp] theorem ti23_isP : (ti Try.prog 23).isP = false := by rw [ti23]; rfl
@[simp] theorem ti23_zs : (ti Try.prog 23).zs = [.int .u64 0] := by rw [ti23]; rfl
@[simp] theorem ti23_hasz : (ti Try.prog 23).hasz = true := by rw [ti23]; rfl
theorem ti24 : ti Try.prog 24 = { ok := true, kd := (.int .u64), eqg := false, size := 1, bytes := 8, agg := false, elem := none, offs := [], flds := none, zero := (some [.int .u64 0]) } := by kernel_rfl
@[simp] theorem ti24_ok : (ti Try.prog 24).ok = true := by rw [ti24]
@[simp] theorem ti24_kd : (ti Try.prog 24).kd = (.int .u64) := by rw [ti24]
@[simp] theorem ti24_eqg : (ti Try.prog 24).eqg = false := by rw [ti24]
@[simp] theorem ti24_size : (ti Try.prog 24).size = 1 := by rw [ti24]
@[simp] theorem ti24_bytes : (ti Try.prog 24).bytes = 8 := by rw [ti24]
@[simp] theorem ti24_agg : (ti Try.prog 24).agg = false := by rw [ti24]
@[simp] theorem ti24_offs : (ti Try.prog 24).offs = [] := by rw [ti24]
@[simp] theorem ti24_isS : (ti Try.prog 24).isS = false := by rw [ti24]; rfl
@[simp] theorem ti24_isP : (ti Try.prog 24).isP = false := by rw [ti24]; rfl
@[simp] theorem ti24_zs : (ti Try.prog 24).zs = [.int .u64 0] := by rw [ti24]; rfl
@[simp] theorem ti24_hasz : (ti Try.prog 24).hasz = true := by rw [ti24]; rfl
theorem ti25 : ti Try.prog 25 = { ok := true, kd := (.int .u32), eqg := false, size := 1, bytes := 4, agg := false, elem := none, offs := [], flds := none, zero := (some [.int .u32 0]) } := by kernel_rfl
@[simp] theorem ti25_ok : (ti Try.prog 25).ok = true := by rw [ti25]
@[simp] theorem ti25_kd : (ti Try.prog 25).kd = (.int .u32) := by rw [ti25]
@[simp] theorem ti25_eqg : (ti Try.prog 25).eqg = false := by rw [ti25]
@[simp] theorem ti25_size : (ti Try.prog 25).size = 1 := by rw [ti25]
@[simp] theorem ti25_bytes : (ti Try.prog 25).bytes = 4 := by rw [ti25]
@[simp] theorem ti25_agg : (ti Try.prog 25).agg = false := by rw [ti25]
@[simp] theorem ti25_offs : (ti Try.prog 25).offs = [] := by rw [ti25]
@[simp] theorem ti25_isS : (ti Try.prog 25).isS = false := by rw [ti25]; rfl
@[simp] theorem ti25_isP : (ti Try.prog 25).isP = false := by rw [ti25]; rfl
@[simp] theorem ti25_zs : (ti Try.prog 25).zs = [.int .u32 0] := by rw [ti25]; rfl
@[simp] theorem ti25_hasz : (ti Try.prog 25).hasz = true := by rw [ti25]; rfl
theorem ti27 : ti Try.prog 27 = { ok := true, kd := .struct, eqg := false, size := 7, bytes := 48, agg := true, elem := none, offs := [some 0, some 1, some 2, some 3, some 4, some 5, some 6], flds := (some [(0, 1), (1, 1), (2, 1), (3, 1), (4, 1), (5, 1), (6, 1)]), zero := (some [.int .u64 0, .int .u64 0, .int .u32 0, .int .u32 0, .int .i64 0, .int .i64 0, .int .i64 0]) } := by kernel_rfl
@[simp] theorem ti27_ok : (ti Try.prog 27).ok = true := by rw [ti27]
@[simp] theorem ti27_kd : (ti Try.prog 27).kd = .struct := by rw [ti27]
@[simp] theorem ti27_eqg : (ti Try.prog 27).eqg = false := by rw [ti27]
@[simp] theorem ti27_size : (ti Try.prog 27).size = 7 := by rw [ti27]
@[simp] theorem ti27_bytes : (ti Try.prog 27).bytes = 48 := by rw [ti27]
@[simp] theorem ti27_agg : (ti Try.prog 27).agg = true := by rw [ti27]
@[simp] theorem ti27_offs : (ti Try.prog 27).offs = [some 0, some 1, some 2, some 3, some 4, some 5, some 6] := by rw [ti27]
@[simp] theorem ti27_isS : (ti Try.prog 27).isS = false := by rw [ti27]; rfl
@[simp] theorem ti27_isP : (ti Try.prog 27).isP = false := by rw [ti27]; rfl
@[simp] theorem ti27_zs : (ti Try.prog 27).zs = [.int .u64 0, .int .u64 0, .int .u32 0, .int .u32 0, .int .i64 0, .int .i64 0, .int .i64 0] := by rw [ti27]; rfl
@[simp] theorem ti27_hasz : (ti Try.prog 27).hasz = true := by rw [ti27]; rfl
@[simp] theorem ti27_fl : (ti Try.prog 27).fl = [(0, 1), (1, 1), (2, 1), (3, 1), (4, 1), (5, 1), (6, 1)] := by rw [ti27]; rfl
@[simp] theorem ti27_hasf : (ti Try.prog 27).hasf = true := by rw [ti27]; rfl
theorem ti29 : ti Try.prog 29 = { ok := true, kd := .struct, eqg := false, size := 2, bytes := 16, agg := true, elem := none, offs := [some 0, some 1], flds := (some [(0, 1), (1, 1)]), zero := (some [.int .i64 0, .int .i64 0]) } := by kernel_rfl
@[simp] theorem ti29_ok : (ti Try.prog 29).ok = true := by rw [ti29]
@[simp] theorem ti29_kd : (ti Try.prog 29).kd = .struct := by rw [ti29]
@[simp] theorem ti29_eqg : (ti Try.prog 29).eqg = false := by rw [ti29]
@[simp] theorem ti29_size : (ti Try.prog 29).size = 2 := by rw [ti29]
@[simp] theorem ti29_bytes : (ti Try.prog 29).bytes = 16 := by rw [ti29]
@[simp] theorem ti29_agg : (ti Try.prog 29).agg = true := by rw [ti29]
@[simp] theorem ti29_offs : (ti Try.prog 29).offs = [some 0, some 1] := by rw [ti29]
@[simp] theorem ti29_isS : (ti Try.prog 29).isS = false := by rw [ti29]; rfl
@[simp] theorem ti29_isP : (ti Try.prog 29).isP = false := by rw [ti29]; rfl
@[simp] theorem ti29_zs : (ti Try.prog 29).zs = [.int .i64 0, .int .i64 0] := by rw [ti29]; rfl
@[simp] theorem ti29_hasz : (ti Try.prog 29).hasz = true := by rw [ti29]; rfl
@[simp] theorem ti29_fl : (ti Try.prog 29).fl = [(0, 1), (1, 1)] := by rw [ti29]; rfl
@[simp] theorem ti29_hasf : (ti Try.prog 29).hasf = true := by rw [ti29]; rfl
theorem ti31 : ti Try.prog 31 = { ok := true, kd := .struct, eqg := false, size := 2, bytes := 32, agg := true, elem := none, offs := [some 0, some 1], flds := (some [(0, 1), (1, 1)]), zero := (some [.str ByteArray.empty, .str ByteArray.empty]) } := by kernel_rfl
@[simp] theorem ti31_ok : (ti Try.prog 31).ok = true := by rw [ti31]
@[simp] theorem ti31_kd : (ti Try.prog 31).kd = .struct := by rw [ti31]
@[simp] theorem ti31_eqg : (ti Try.prog 31).eqg = false := by rw [ti31]
@[simp] theorem ti31_size : (ti Try.prog 31).size = 2 := by rw [ti31]
@[simp] theorem ti31_bytes : (ti Try.prog 31).bytes = 32 := by rw [ti31]
@[simp] theorem ti31_agg : (ti Try.prog 31).agg = true := by rw [ti31]
@[simp] theorem ti31_offs : (ti Try.prog 31).offs = [some 0, some 1] := by rw [ti31]
@[simp] theorem ti31_isS : (ti Try.prog 31).isS = false := by rw [ti31]; rfl
@[simp] theorem ti31_isP : (ti Try.prog 31).isP = false := by rw [ti31]; rfl
@[simp] theorem ti31_zs : (ti Try.prog 31).zs = [.str ByteArray.empty, .str ByteArray.empty] := by rw [ti31]; rfl
@[simp] theorem ti31_hasz : (ti Try.prog 31).hasz = true := by rw [ti31]; rfl
@[simp] theorem ti31_fl : (ti Try.prog 31).fl = [(0, 1), (1, 1)] := by rw [ti31]; rfl
@[simp] theorem ti31_hasf : (ti Try.prog 31).hasf = true := by rw [ti31]; rfl
theorem ti32 : ti Try.prog 32 = { ok := true, kd := (.slc 56), eqg := false, size := 1, bytes := 24, agg := false, elem := (some 56), offs := [], flds := none, zero := (some [.nils]) } := by kernel_rfl
@[simp] theorem ti32_ok : (ti Try.prog 32).ok = true := by rw [ti32]
@[simp] theorem ti32_kd : (ti Try.prog 32).kd = (.slc 56) := by rw [ti32]
@[simp] theorem ti32_eqg : (ti Try.prog 32).eqg = false := by rw [ti32]
@[simp] theorem ti32_size : (ti Try.prog 32).size = 1 := by rw [ti32]
@[simp] theorem ti32_bytes : (ti Try.prog 32).bytes = 24 := by rw [ti32]
@[simp] theorem ti32_agg : (ti Try.prog 32).agg = false := by rw [ti32]
@[simp] theorem ti32_offs : (ti Try.prog 32).offs = [] := by rw [ti32]
@[simp] theorem ti32_isS : (ti Try.prog 32).isS = true := by rw [ti32]; rfl
@[simp] theorem ti32_isP : (ti Try.prog 32).isP = false := by rw [ti32]; rfl
@[simp] theorem ti32_el : (ti Try.prog 32).el = 56 := by rw [ti32]; rfl
@[simp] theorem ti32_zs : (ti Try.prog 32).zs = [.nils] := by rw [ti32]; rfl
@[simp] theorem ti32_hasz : (ti Try.prog 32).hasz = true := by rw [ti32]; rfl
theorem ti34 : ti Try.prog 34 = { ok := true, kd := .struct, eqg := false, size := 20, bytes := 192, agg := true, elem := none, offs := [some 0, some 1, some 2, some 9, some 11, some 13, some 15, some 17, some 18, some 19], flds := (some [(0, 1), (1, 1), (2, 7), (9, 2), (11, 2), (13, 2), (15, 2), (17, 1), (18, 1), (19, 1)]), zero := (some [.int .u32 0, .int .u32 0, .int .u64 0, .int .u64 0, .int .u32 0, .int .u32 0, .int .i64 0, .int .i64 0, .int .i64 0, .int .i64 0, .int .i64 0, .int .i64 0, .int .i64 0, .str ByteArray.empty, .str ByteArray.empty, .str ByteArray.empty, .str ByteArray.empty, .int .i64 0, .int .i64 0, .nils]) } := by kernel_rfl
@[simp] theorem ti34_ok : (ti Try.prog 34).ok = true := by rw [ti34]
@[simp] theorem ti34_kd : (ti Try.prog 34).kd = .struct := by rw [ti34]
@[simp] theorem ti34_eqg : (ti Try.prog 34).eqg = false := by rw [ti34]
@[simp] theorem ti34_size : (ti Try.prog 34).size = 20 := by rw [ti34]
@[simp] theorem ti34_bytes : (ti Try.prog 34).bytes = 192 := by rw [ti34]
@[simp] theorem ti34_agg : (ti Try.prog 34).agg = true := by rw [ti34]
@[simp] theorem ti34_offs : (ti Try.prog 34).offs = [some 0, some 1, some 2, some 9, some 11, some 13, some 15, some 17, some 18, some 19] := by rw [ti34]
@[simp] theorem ti34_isS : (ti Try.prog 34).isS = false := by rw [ti34]; rfl
@[simp] theorem ti34_isP : (ti Try.prog 34).isP = false := by rw [ti34]; rfl
@[simp] theorem ti34_zs : (ti Try.prog 34).zs = [.int .u32 0, .int .u32 0, .int .u64 0, .int .u64 0, .int .u32 0, .int .u32 0, .int .i64 0, .int .i64 0, .int .i64 0, .int .i64 0, .int .i64 0, .int .i64 0, .int .i64 0, .str ByteArray.empty, .str ByteArray.empty, .str ByteArray.empty, .str ByteArray.empty, .int .i64 0, .int .i64 0, .nils] := by rw [ti34]; rfl
@[simp] theorem ti34_hasz : (ti Try.prog 34).hasz = true := by rw [ti34]; rfl
@[simp] theorem ti34_fl : (ti Try.prog 34).fl = [(0, 1), (1, 1), (2, 7), (9, 2), (11, 2), (13, 2), (15, 2), (17, 1), (18, 1), (19, 1)] := by rw [ti34]; rfl
@[simp] theorem ti34_hasf : (ti Try.prog 34).hasf = true := by rw [ti34]; rfl
theorem ti35 : ti Try.prog 35 = { ok := true, kd := (.arr 9 22), eqg := false, size := 9, bytes := 36, agg := true, elem := none, offs := [], flds := none, zero := (some [.int .u32 0, .int .u32 0, .int .u32 0, .int .u32 0, .int .u32 0, .int .u32 0, .int .u32 0, .int .u32 0, .int .u32 0]) } := by kernel_rfl
@[simp] theorem ti35_ok : (ti Try.prog 35).ok = true := by rw [ti35]
@[simp] theorem ti35_kd : (ti Try.prog 35).kd = (.arr 9 22) := by rw [ti35]
@[simp] theorem ti35_eqg : (ti Try.prog 35).eqg = false := by rw [ti35]
@[simp] theorem ti35_size : (ti Try.prog 35).size = 9 := by rw [ti35]
@[simp] theorem ti35_bytes : (ti Try.prog 35).bytes = 36 := by rw [ti35]
@[simp] theorem ti35_agg : (ti Try.prog 35).agg = true := by rw [ti35]
@[simp] theorem ti35_offs : (ti Try.prog 35).offs = [] := by rw [ti35]
@[simp] theorem ti35_isS : (ti Try.prog 35).isS = false := by rw [ti35]; rfl
@[simp] theorem ti35_isP : (ti Try.prog 35).isP = false := by rw [ti35]; rfl
@[simp] theorem ti35_isA : (ti Try.prog 35).isA = true := by rw [ti35]; rfl
@[simp] theorem ti35_an : (ti Try.prog 35).an = 9 := by rw [ti35]; rfl
@[simp] theorem ti35_ae : (ti Try.prog 35).ae = 22 := by rw [ti35]; rfl
@[simp] theorem ti35_zs : (ti Try.prog 35).zs = [.int .u32 0, .int .u32 0, .int .u32 0, .int .u32 0, .int .u32 0, .int .u32 0, .int .u32 0, .int .u32 0, .int .u32 0] := by rw [ti35]; rfl
@[simp] theorem ti35_hasz : (ti Try.prog 35).hasz = true := by rw [ti35]; rfl
theorem ti36 : ti Try.prog 36 = { ok := true, kd := (.slc 3), eqg := false, size := 1, bytes := 24, agg := false, elem := (some 3), offs := [], flds := none, zero := (some [.nils]) } := by kernel_rfl
@[simp] theorem ti36_ok : (ti Try.prog 36).ok = true := by rw [ti36]
@[simp] theorem ti36_kd : (ti Try.prog 36).kd = (.slc 3) := by rw [ti36]
@[simp] theorem ti36_eqg : (ti Try.prog 36).eqg = false := by rw [ti36]
@[simp] theorem ti36_size : (ti Try.prog 36).size = 1 := by rw [ti36]
@[simp] theorem ti36_bytes : (ti Try.prog 36).bytes = 24 := by rw [ti36]
@[simp] theorem ti36_agg : (ti Try.prog 36).agg = false := by rw [ti36]
@[simp] theorem ti36_offs : (ti Try.prog 36).offs = [] := by rw [ti36]
@[simp] theorem ti36_isS : (ti Try.prog 36).isS = true := by rw [ti36]; rfl
@[simp] theorem ti36_isP : (ti Try.prog 36).isP = false := by rw [ti36]; rfl
@[simp] theorem ti36_el : (ti Try.prog 36).el = 3 := by rw [ti36]; rfl
@[simp] theorem ti36_zs : (ti Try.prog 36).zs = [.nils] := by rw [ti36]; rfl
@[simp] theorem ti36_hasz : (ti Try.prog 36).hasz = true := by rw [ti36]; rfl
theorem ti38 : ti Try.prog 38 = { ok := true, kd := (.ptr 74), eqg := false, size := 1, bytes := 8, agg := false, elem := none, offs := [], flds := none, zero := (some [.nil]) } := by kernel_rfl
@[simp] theorem ti38_ok : (ti Try.prog 38).ok = true := by rw [ti38]
@[simp] theorem ti38_kd : (ti Try.prog 38).kd = (.ptr 74) := by rw [ti38]
@[simp] theorem ti38_eqg : (ti Try.prog 38).eqg = false := by rw [ti38]
@[simp] theorem ti38_size : (ti Try.prog 38).size = 1 := by rw [ti38]
@[simp] theorem ti38_bytes : (ti Try.prog 38).bytes = 8 := by rw [ti38]
@[simp] theorem ti38_agg : (ti Try.prog 38).agg = false := by rw [ti38]
@[simp] theorem ti38_offs : (ti Try.prog 38).offs = [] := by rw [ti38]
@[simp] theorem ti38_isS : (ti Try.prog 38).isS = false := by rw [ti38]; rfl
@[simp] theorem ti38_isP : (ti Try.prog 38).isP = true := by rw [ti38]; rfl
@[simp] theorem ti38_zs : (ti Try.prog 38).zs = [.nil] := by rw [ti38]; rfl
@[simp] theorem ti38_hasz : (ti Try.prog 38).hasz = true := by rw [ti38]; rfl
theorem ti40 : ti Try.prog 40 = { ok := true, kd := (.int .i64), eqg := false, size := 1, bytes := 8, agg := false, elem := none, offs := [], flds := none, zero := (some [.int .i64 0]) } := by kernel_rfl
@[simp] theorem ti40_ok : (ti Try.prog 40).ok = true := by rw [ti40]
@[simp] theorem ti40_kd : (ti Try.prog 40).kd = (.int .i64) := by rw [ti40]
@[simp] theorem ti40_eqg : (ti Try.prog 40).eqg = false := by rw [ti40]
@[simp] theorem ti40_size : (ti Try.prog 40).size = 1 := by rw [ti40]
@[simp] theorem ti40_bytes : (ti Try.prog 40).bytes = 8 := by rw [ti40]
@[simp] theorem ti40_agg : (ti Try.prog 40).agg = false := by rw [ti40]
@[simp] theorem ti40_offs : (ti Try.prog 40).offs = [] := by rw [ti40]
@[simp] theorem ti40_isS : (ti Try.prog 40).isS = false := by rw [ti40]; rfl
@[simp] theorem ti40_isP : (ti Try.prog 40).isP = false := by rw [ti40]; rfl
@[simp] theorem ti40_zs : (ti Try.prog 40).zs = [.int .i64 0] := by rw [ti40]; rfl
@[simp] theorem ti40_hasz : (ti Try.prog 40).hasz = true := by rw [ti40]; rfl
theorem ti42 : ti Try.prog 42 = { ok := true, kd := .struct, eqg := false, size := 2, bytes := 32, agg := true, elem := none, offs := [some 0, some 1], flds := (some [(0, 1), (1, 1)]), zero := (some [.str ByteArray.empty, .str ByteArray.empty]) } := by kernel_rfl
@[simp] theorem ti42_ok : (ti Try.prog 42).ok = true := by rw [ti42]
@[simp] theorem ti42_kd : (ti Try.prog 42).kd = .struct := by rw [ti42]
@[simp] theorem ti42_eqg : (ti Try.prog 42).eqg = false := by rw [ti42]
@[simp] theorem ti42_size : (ti Try.prog 42).size = 2 := by rw [ti42]
@[simp] theorem ti42_bytes : (ti Try.prog 42).bytes = 32 := by rw [ti42]
@[simp] theorem ti42_agg : (ti Try.prog 42).agg = true := by rw [ti42]
@[simp] theorem ti42_offs : (ti Try.prog 42).offs = [some 0, some 1] := by rw [ti42]
@[simp] theorem ti42_isS : (ti Try.prog 42).isS = false := by rw [ti42]; rfl
@[simp] theorem ti42_isP : (ti Try.prog 42).isP = false := by rw [ti42]; rfl
@[simp] theorem ti42_zs : (ti Try.prog 42).zs = [.str ByteArray.empty, .str ByteArray.empty] := by rw [ti42]; rfl
@[simp] theorem ti42_hasz : (ti Try.prog 42).hasz = true := by rw [ti42]; rfl
@[simp] theorem ti42_fl : (ti Try.prog 42).fl = [(0, 1), (1, 1)] := by rw [ti42]; rfl
@[simp] theorem ti42_hasf : (ti Try.prog 42).hasf = true := by rw [ti42]; rfl
theorem ti44 : ti Try.prog 44 = { ok := true, kd := .struct, eqg := false, size := 20, bytes := 192, agg := true, elem := none, offs := [some 0, some 1, some 2, some 9, some 11, some 13, some 15, some 17, some 18, some 19], flds := (some [(0, 1), (1, 1), (2, 7), (9, 2), (11, 2), (13, 2), (15, 2), (17, 1), (18, 1), (19, 1)]), zero := (some [.int .u32 0, .int .u32 0, .int .u64 0, .int .u64 0, .int .u32 0, .int .u32 0, .int .i64 0, .int .i64 0, .int .i64 0, .int .i64 0, .int .i64 0, .int .i64 0, .int .i64 0, .str ByteArray.empty, .str ByteArray.empty, .str ByteArray.empty, .str ByteArray.empty, .int .i64 0, .int .i64 0, .nils]) } := by kernel_rfl
@[simp] theorem ti44_ok : (ti Try.prog 44).ok = true := by rw [ti44]
@[simp] theorem ti44_kd : (ti Try.prog 44).kd = .struct := by rw [ti44]
@[simp] theorem ti44_eqg : (ti Try.prog 44).eqg = false := by rw [ti44]
@[simp] theorem ti44_size : (ti Try.prog 44).size = 20 := by rw [ti44]
@[simp] theorem ti44_bytes : (ti Try.prog 44).bytes = 192 := by rw [ti44]
@[simp] theorem ti44_agg : (ti Try.prog 44).agg = true := by rw [ti44]
@[simp] theorem ti44_offs : (ti Try.prog 44).offs = [some 0, some 1, some 2, some 9, some 11, some 13, some 15, some 17, some 18, some 19] := by rw [ti44]
@[simp] theorem ti44_isS : (ti Try.prog 44).isS = false := by rw [ti44]; rfl
@[simp] theorem ti44_isP : (ti Try.prog 44).isP = false := by rw [ti44]; rfl
@[simp] theorem ti44_zs : (ti Try.prog 44).zs = [.int .u32 0, .int .u32 0, .int .u64 0, .int .u64 0, .int .u32 0, .int .u32 0, .int .i64 0, .int .i64 0, .int .i64 0, .int .i64 0, .int .i64 0, .int .i64 0, .int .i64 0, .str ByteArray.empty, .str ByteArray.empty, .str ByteArray.empty, .str ByteArray.empty, .int .i64 0, .int .i64 0, .nils] := by rw [ti44]; rfl
@[simp] theorem ti44_hasz : (ti Try.prog 44).hasz = true := by rw [ti44]; rfl
@[simp] theorem ti44_fl : (ti Try.prog 44).fl = [(0, 1), (1, 1), (2, 7), (9, 2), (11, 2), (13, 2), (15, 2), (17, 1), (18, 1), (19, 1)] := by rw [ti44]; rfl
@[simp] theorem ti44_hasf : (ti Try.prog 44).hasf = true := by rw [ti44]; rfl
theorem ti46 : ti Try.prog 46 = { ok := true, kd := (.arr 9 22), eqg := false, size := 9, bytes := 36, agg := true, elem := none, offs := [], flds := none, zero := (some [.int .u32 0, .int .u32 0, .int .u32 0, .int .u32 0, .int .u32 0, .int .u32 0, .int .u32 0, .int .u32 0, .int .u32 0]) } := by kernel_rfl
@[simp] theorem ti46_ok : (ti Try.prog 46).ok = true := by rw [ti46]
@[simp] theorem ti46_kd : (ti Try.prog 46).kd = (.arr 9 22) := by rw [ti46]
@[simp] theorem ti46_eqg : (ti Try.prog 46).eqg = false := by rw [ti46]
@[simp] theorem ti46_size : (ti Try.prog 46).size = 9 := by rw [ti46]
@[simp] theorem ti46_bytes : (ti Try.prog 46).bytes = 36 := by rw [ti46]
@[simp] theorem ti46_agg : (ti Try.prog 46).agg = true := by rw [ti46]
@[simp] theorem ti46_offs : (ti Try.prog 46).offs = [] := by rw [ti46]
@[simp] theorem ti46_isS : (ti Try.prog 46).isS = false := by rw [ti46]; rfl
@[simp] theorem ti46_isP : (ti Try.prog 46).isP = false := by rw [ti46]; rfl
@[simp] theorem ti46_isA : (ti Try.prog 46).isA = true := by rw [ti46]; rfl
@[simp] theorem ti46_an : (ti Try.prog 46).an = 9 := by rw [ti46]; rfl
@[simp] theorem ti46_ae : (ti Try.prog 46).ae = 22 := by rw [ti46]; rfl
@[simp] theorem ti46_zs : (ti Try.prog 46).zs = [.int .u32 0, .int .u32 0, .int .u32 0, .int .u32 0, .int .u32 0, .int .u32 0, .int .u32 0, .int .u32 0, .int .u32 0] := by rw [ti46]; rfl
@[simp] theorem ti46_hasz : (ti Try.prog 46).hasz = true := by rw [ti46]; rfl
theorem ti47 : ti Try.prog 47 = { ok := true, kd := (.slc 22), eqg := false, size := 1, bytes := 24, agg := false, elem := (some 22), offs := [], flds := none, zero := (some [.nils]) } := by kernel_rfl
@[simp] theorem ti47_ok : (ti Try.prog 47).ok = true := by rw [ti47]
@[simp] theorem ti47_kd : (ti Try.prog 47).kd = (.slc 22) := by rw [ti47]
@[simp] theorem ti47_eqg : (ti Try.prog 47).eqg = false := by rw [ti47]
@[simp] theorem ti47_size : (ti Try.prog 47).size = 1 := by rw [ti47]
@[simp] theorem ti47_bytes : (ti Try.prog 47).bytes = 24 := by rw [ti47]
@[simp] theorem ti47_agg : (ti Try.prog 47).agg = false := by rw [ti47]
@[simp] theorem ti47_offs : (ti Try.prog 47).offs = [] := by rw [ti47]
@[simp] theorem ti47_isS : (ti Try.prog 47).isS = true := by rw [ti47]; rfl
@[simp] theorem ti47_isP : (ti Try.prog 47).isP = false := by rw [ti47]; rfl
@[simp] theorem ti47_el : (ti Try.prog 47).el = 22 := by rw [ti47]; rfl
@[simp] theorem ti47_zs : (ti Try.prog 47).zs = [.nils] := by rw [ti47]; rfl
@[simp] theorem ti47_hasz : (ti Try.prog 47).hasz = true := by rw [ti47]; rfl
theorem ti50 : ti Try.prog 50 = { ok := true, kd := (.slc 54), eqg := false, size := 1, bytes := 24, agg := false, elem := (some 54), offs := [], flds := none, zero := (some [.nils]) } := by kernel_rfl
@[simp] theorem ti50_ok : (ti Try.prog 50).ok = true := by rw [ti50]
@[simp] theorem ti50_kd : (ti Try.prog 50).kd = (.slc 54) := by rw [ti50]
@[simp] theorem ti50_eqg : (ti Try.prog 50).eqg = false := by rw [ti50]
@[simp] theorem ti50_size : (ti Try.prog 50).size = 1 := by rw [ti50]
@[simp] theorem ti50_bytes : (ti Try.prog 50).bytes = 24 := by rw [ti50]
@[simp] theorem ti50_agg : (ti Try.prog 50).agg = false := by rw [ti50]
@[simp] theorem ti50_offs : (ti Try.prog 50).offs = [] := by rw [ti50]
@[simp] theorem ti50_isS : (ti Try.prog 50).isS = true := by rw [ti50]; rfl
@[simp] theorem ti50_isP : (ti Try.prog 50).isP = false := by rw [ti50]; rfl
@[simp] theorem ti50_el : (ti Try.prog 50).el = 54 := by rw [ti50]; rfl
@[simp] theorem ti50_zs : (ti Try.prog 50).zs = [.nils] := by rw [ti50]; rfl
@[simp] theorem ti50_hasz : (ti Try.prog 50).hasz = true := by rw [ti50]; rfl
theorem ti52 : ti Try.prog 52 = { ok := true, kd := (.slc 5), eqg := false, size := 1, bytes := 24, agg := false, elem := (some 5), offs := [], flds := none, zero := (some [.nils]) } := by kernel_rfl
@[simp] theorem ti52_ok : (ti Try.prog 52).ok = true := by rw [ti52]
@[simp] theorem ti52_kd : (ti Try.prog 52).kd = (.slc 5) := by rw [ti52]
@[simp] theorem ti52_eqg : (ti Try.prog 52).eqg = false := by rw [ti52]
@[simp] theorem ti52_size : (ti Try.prog 52).size = 1 := by rw [ti52]
@[simp] theorem ti52_bytes : (ti Try.prog 52).bytes = 24 := by rw [ti52]
@[simp] theorem ti52_agg : (ti Try.prog 52).agg = false := by rw [ti52]
@[simp] theorem ti52_offs : (ti Try.prog 52).offs = [] := by rw [ti52]
@[simp] theorem ti52_isS : (ti Try.prog 52).isS = true := by rw [ti52]; rfl
@[simp] theorem ti52_isP : (ti Try.prog 52).isP = false := by rw [ti52]; rfl
@[simp] theorem ti52_el : (ti Try.prog 52).el = 5 := by rw [ti52]; rfl
@[simp] theorem ti52_zs : (ti Try.prog 52).zs = [.nils] := by rw [ti52]; rfl
@[simp] theorem ti52_hasz : (ti Try.prog 52).hasz = true := by rw [ti52]; rfl
theorem ti54 : ti Try.prog 54 = { ok := true, kd := .struct, eqg := false, size := 23, bytes := 176, agg := true, elem := none, offs := [some 0, some 1, some 2, some 3, some 4, some 5, some 6, some 7, some 8, some 9, some 10, some 11, some 12, some 13, some 15, some 22], flds := (some [(0, 1), (1, 1), (2, 1), (3, 1), (4, 1), (5, 1), (6, 1), (7, 1), (8, 1), (9, 1), (10, 1), (11, 1), (12, 1), (13, 2), (15, 7), (22, 1)]), zero := (some [.int .i64 0, .int .i64 0, .int .u32 0, .int .u32 0, .int .u32 0, .int .i64 0, .int .i64 0, .int .i64 0, .bool false, .bool false, .int .i64 0, .int .i64 0, .int .i64 0, .int .i64 0, .int .i64 0, .int .u64 0, .int .u64 0, .int .u32 0, .int .u32 0, .int .i64 0, .int .i64 0, .int .i64 0, .nils]) } := by kernel_rfl
@[simp] theorem ti54_ok : (ti Try.prog 54).ok = true := by rw [ti54]
@[simp] theorem ti54_kd : (ti Try.prog 54).kd = .struct := by rw [ti54]
@[simp] theorem ti54_eqg : (ti Try.prog 54).eqg = false := by rw [ti54]
@[simp] theorem ti54_size : (ti Try.prog 54).size = 23 := by rw [ti54]
@[simp] theorem ti54_bytes : (ti Try.prog 54).bytes = 176 := by rw [ti54]
@[simp] theorem ti54_agg : (ti Try.prog 54).agg = true := by rw [ti54]
@[simp] theorem ti54_offs : (ti Try.prog 54).offs = [some 0, some 1, some 2, some 3, some 4, some 5, some 6, some 7, some 8, some 9, some 10, some 11, some 12, some 13, some 15, some 22] := by rw [ti54]
@[simp] theorem ti54_isS : (ti Try.prog 54).isS = false := by rw [ti54]; rfl
@[simp] theorem ti54_isP : (ti Try.prog 54).isP = false := by rw [ti54]; rfl
@[simp] theorem ti54_zs : (ti Try.prog 54).zs = [.int .i64 0, .int .i64 0, .int .u32 0, .int .u32 0, .int .u32 0, .int .i64 0, .int .i64 0, .int .i64 0, .bool false, .bool false, .int .i64 0, .int .i64 0, .int .i64 0, .int .i64 0, .int .i64 0, .int .u64 0, .int .u64 0, .int .u32 0, .int .u32 0, .int .i64 0, .int .i64 0, .int .i64 0, .nils] := by rw [ti54]; rfl
@[simp] theorem ti54_hasz : (ti Try.prog 54).hasz = true := by rw [ti54]; rfl
@[simp] theorem ti54_fl : (ti Try.prog 54).fl = [(0, 1), (1, 1), (2, 1), (3, 1), (4, 1), (5, 1), (6, 1), (7, 1), (8, 1), (9, 1), (10, 1), (11, 1), (12, 1), (13, 2), (15, 7), (22, 1)] := by rw [ti54]; rfl
@[simp] theorem ti54_hasf : (ti Try.prog 54).hasf = true := by rw [ti54]; rfl
theorem ti56 : ti Try.prog 56 = { ok := true, kd := .struct, eqg := false, size := 3, bytes := 24, agg := true, elem := none, offs := [some 0, some 1, some 2], flds := (some [(0, 1), (1, 1), (2, 1)]), zero := (some [.int .i64 0, .int .i64 0, .int .i64 0]) } := by kernel_rfl
@[simp] theorem ti56_ok : (ti Try.prog 56).ok = true := by rw [ti56]
@[simp] theorem ti56_kd : (ti Try.prog 56).kd = .struct := by rw [ti56]
@[simp] theorem ti56_eqg : (ti Try.prog 56).eqg = false := by rw [ti56]
@[simp] theorem ti56_size : (ti Try.prog 56).size = 3 := by rw [ti56]
@[simp] theorem ti56_bytes : (ti Try.prog 56).bytes = 24 := by rw [ti56]
@[simp] theorem ti56_agg : (ti Try.prog 56).agg = true := by rw [ti56]
@[simp] theorem ti56_offs : (ti Try.prog 56).offs = [some 0, some 1, some 2] := by rw [ti56]
@[simp] theorem ti56_isS : (ti Try.prog 56).isS = false := by rw [ti56]; rfl
@[simp] theorem ti56_isP : (ti Try.prog 56).isP = false := by rw [ti56]; rfl
@[simp] theorem ti56_zs : (ti Try.prog 56).zs = [.int .i64 0, .int .i64 0, .int .i64 0] := by rw [ti56]; rfl
@[simp] theorem ti56_hasz : (ti Try.prog 56).hasz = true := by rw [ti56]; rfl
@[simp] theorem ti56_fl : (ti Try.prog 56).fl = [(0, 1), (1, 1), (2, 1)] := by rw [ti56]; rfl
@[simp] theorem ti56_hasf : (ti Try.prog 56).hasf = true := by rw [ti56]; rfl
theorem ti60 : ti Try.prog 60 = { ok := true, kd := (.slc 64), eqg := false, size := 1, bytes := 24, agg := false, elem := (some 64), offs := [], flds := none, zero := (some [.nils]) } := by kernel_rfl
@[simp] theorem ti60_ok : (ti Try.prog 60).ok = true := by rw [ti60]
@[simp] theorem ti60_kd : (ti Try.prog 60).kd = (.slc 64) := by rw [ti60]
@[simp] theorem ti60_eqg : (ti Try.prog 60).eqg = false := by rw [ti60]
@[simp] theorem ti60_size : (ti Try.prog 60).size = 1 := by rw [ti60]
@[simp] theorem ti60_bytes : (ti Try.prog 60).bytes = 24 := by rw [ti60]
@[simp] theorem ti60_agg : (ti Try.prog 60).agg = false := by rw [ti60]
@[simp] theorem ti60_offs : (ti Try.prog 60).offs = [] := by rw [ti60]
@[simp] theorem ti60_isS : (ti Try.prog 60).isS = true := by rw [ti60]; rfl
@[simp] theorem ti60_isP : (ti Try.prog 60).isP = false := by rw [ti60]; rfl
@[simp] theorem ti60_el : (ti Try.prog 60).el = 64 := by rw [ti60]; rfl
@[simp] theorem ti60_zs : (ti Try.prog 60).zs = [.nils] := by rw [ti60]; rfl
@[simp] theorem ti60_hasz : (ti Try.prog 60).hasz = true := by rw [ti60]; rfl
theorem ti61 : ti Try.prog 61 = { ok := true, kd := (.ptr 85), eqg := false, size := 1, bytes := 8, agg := false, elem := none, offs := [], flds := none, zero := (some [.nil]) } := by kernel_rfl
@[simp] theorem ti61_ok : (ti Try.prog 61).ok = true := by rw [ti61]
@[simp] theorem ti61_kd : (ti Try.prog 61).kd = (.ptr 85) := by rw [ti61]
@[simp] theorem ti61_eqg : (ti Try.prog 61).eqg = false := by rw [ti61]
@[simp] theorem ti61_size : (ti Try.prog 61).size = 1 := by rw [ti61]
@[simp] theorem ti61_bytes : (ti Try.prog 61).bytes = 8 := by rw [ti61]
@[simp] theorem ti61_agg : (ti Try.prog 61).agg = false := by rw [ti61]
@[simp] theorem ti61_offs : (ti Try.prog 61).offs = [] := by rw [ti61]
@[simp] theorem ti61_isS : (ti Try.prog 61).isS = false := by rw [ti61]; rfl
@[simp] theorem ti61_isP : (ti Try.prog 61).isP = true := by rw [ti61]; rfl
@[simp] theorem ti61_zs : (ti Try.prog 61).zs = [.nil] := by rw [ti61]; rfl
@[simp] theorem ti61_hasz : (ti Try.prog 61).hasz = true := by rw [ti61]; rfl
theorem ti64 : ti Try.prog 64 = { ok := true, kd := .struct, eqg := false, size := 38, bytes := 296, agg := true, elem := none, offs := [some 0, some 1, some 21, some 30, some 31, some 32, some 33, some 34, some 35, some 36, some 37], flds := (some [(0, 1), (1, 20), (21, 9), (30, 1), (31, 1), (32, 1), (33, 1), (34, 1), (35, 1), (36, 1), (37, 1)]), zero := (some [.int .i64 0, .int .u32 0, .int .u32 0, .int .u64 0, .int .u64 0, .int .u32 0, .int .u32 0, .int .i64 0, .int .i64 0, .int .i64 0, .int .i64 0, .int .i64 0, .int .i64 0, .int .i64 0, .str ByteArray.empty, .str ByteArray.empty, .str ByteArray.empty, .str ByteArray.empty, .int .i64 0, .int .i64 0, .nils, .int .u32 0, .int .u32 0, .int .u32 0, .int .u32 0, .int .u32 0, .int .u32 0, .int .u32 0, .int .u32 0, .int .u32 0, .int .i64 0, .int .i64 0, .int .i64 0, .int .u32 0, .int .u32 0, .int .u32 0, .int .i64 0, .int .i64 0]) } := by kernel_rfl
@[simp] theorem ti64_ok : (ti Try.prog 64).ok = true := by rw [ti64]
@[simp] theorem ti64_kd : (ti Try.prog 64).kd = .struct := by rw [ti64]
@[simp] theorem ti64_eqg : (ti Try.prog 64).eqg = false := by rw [ti64]
@[simp] theorem ti64_size : (ti Try.prog 64).size = 38 := by rw [ti64]
@[simp] theorem ti64_bytes : (ti Try.prog 64).bytes = 296 := by rw [ti64]
@[simp] theorem ti64_agg : (ti Try.prog 64).agg = true := by rw [ti64]
@[simp] theorem ti64_offs : (ti Try.prog 64).offs = [some 0, some 1, some 21, some 30, some 31, some 32, some 33, some 34, some 35, some 36, some 37] := by rw [ti64]
@[simp] theorem ti64_isS : (ti Try.prog 64).isS = false := by rw [ti64]; rfl
@[simp] theorem ti64_isP : (ti Try.prog 64).isP = false := by rw [ti64]; rfl
@[simp] theorem ti64_zs : (ti Try.prog 64).zs = [.int .i64 0, .int .u32 0, .int .u32 0, .int .u64 0, .int .u64 0, .int .u32 0, .int .u32 0, .int .i64 0, .int .i64 0, .int .i64 0, .int .i64 0, .int .i64 0, .int .i64 0, .int .i64 0, .str ByteArray.empty, .str ByteArray.empty, .str ByteArray.empty, .str ByteArray.empty, .int .i64 0, .int .i64 0, .nils, .int .u32 0, .int .u32 0, .int .u32 0, .int .u32 0, .int .u32 0, .int .u32 0, .int .u32 0, .int .u32 0, .int .u32 0, .int .i64 0, .int .i64 0, .int .i64 0, .int .u32 0, .int .u32 0, .int .u32 0, .int .i64 0, .int .i64 0] := by rw [ti64]; rfl
@[simp] theorem ti64_hasz : (ti Try.prog 64).hasz = true := by rw [ti64]; rfl
@[simp] theorem ti64_fl : (ti Try.prog 64).fl = [(0, 1), (1, 20), (21, 9), (30, 1), (31, 1), (32, 1), (33, 1), (34, 1), (35, 1), (36, 1), (37, 1)] := by rw [ti64]; rfl
@[simp] theorem ti64_hasf : (ti Try.prog 64).hasf = true := by rw [ti64]; rfl
theorem ti69 : ti Try.prog 69 = { ok := true, kd := (.ptr 97), eqg := false, size := 1, bytes := 8, agg := false, elem := none, offs := [], flds := none, zero := (some [.nil]) } := by kernel_rfl
@[simp] theorem ti69_ok : (ti Try.prog 69).ok = true := by rw [ti69]
@[simp] theorem ti69_kd : (ti Try.prog 69).kd = (.ptr 97) := by rw [ti69]
@[simp] theorem ti69_eqg : (ti Try.prog 69).eqg = false := by rw [ti69]
@[simp] theorem ti69_size : (ti Try.prog 69).size = 1 := by rw [ti69]
@[simp] theorem ti69_bytes : (ti Try.prog 69).bytes = 8 := by rw [ti69]
@[simp] theorem ti69_agg : (ti Try.prog 69).agg = false := by rw [ti69]
@[simp] theorem ti69_offs : (ti Try.prog 69).offs = [] := by rw [ti69]
@[simp] theorem ti69_isS : (ti Try.prog 69).isS = false := by rw [ti69]; rfl
@[simp] theorem ti69_isP : (ti Try.prog 69).isP = true := by rw [ti69]; rfl
@[simp] theorem ti69_zs : (ti Try.prog 69).zs = [.nil] := by rw [ti69]; rfl
@[simp] theorem ti69_hasz : (ti Try.prog 69).hasz = true := by rw [ti69]; rfl
theorem ti72 : ti Try.prog 72 = { ok := true, kd := .struct, eqg := false, size := 35, bytes := 272, agg := true, elem := none, offs := [some 0, some 20, some 29, some 30, some 31, some 32, some 33, some 34], flds := (some [(0, 20), (20, 9), (29, 1), (30, 1), (31, 1), (32, 1), (33, 1), (34, 1)]), zero := (some [.int .u32 0, .int .u32 0, .int .u64 0, .int .u64 0, .int .u32 0, .int .u32 0, .int .i64 0, .int .i64 0, .int .i64 0, .int .i64 0, .int .i64 0, .int .i64 0, .int .i64 0, .str ByteArray.empty, .str ByteArray.empty, .str ByteArray.empty, .str ByteArray.empty, .int .i64 0, .int .i64 0, .nils, .int .u32 0, .int .u32 0, .int .u32 0, .int .u32 0, .int .u32 0, .int .u32 0, .int .u32 0, .int .u32 0, .int .u32 0, .int .i64 0, .int .i64 0, .int .i64 0, .int .u32 0, .bool false, .int .i64 0]) } := by kernel_rfl
@[simp] theorem ti72_ok : (ti Try.prog 72).ok = true := by rw [ti72]
@[simp] theorem ti72_kd : (ti Try.prog 72).kd = .struct := by rw [ti72]
@[simp] theorem ti72_eqg : (ti Try.prog 72).eqg = false := by rw [ti72]
@[simp] theorem ti72_size : (ti Try.prog 72).size = 35 := by rw [ti72]
@[simp] theorem ti72_bytes : (ti Try.prog 72).bytes = 272 := by rw [ti72]
@[simp] theorem ti72_agg : (ti Try.prog 72).agg = true := by rw [ti72]
@[simp] theorem ti72_offs : (ti Try.prog 72).offs = [some 0, some 20, some 29, some 30, some 31, some 32, some 33, some 34] := by rw [ti72]
@[simp] theorem ti72_isS : (ti Try.prog 72).isS = false := by rw [ti72]; rfl
@[simp] theorem ti72_isP : (ti Try.prog 72).isP = false := by rw [ti72]; rfl
@[simp] theorem ti72_zs : (ti Try.prog 72).zs = [.int .u32 0, .int .u32 0, .int .u64 0, .int .u64 0, .int .u32 0, .int .u32 0, .int .i64 0, .int .i64 0, .int .i64 0, .int .i64 0, .int .i64 0, .int .i64 0, .int .i64 0, .str ByteArray.empty, .str ByteArray.empty, .str ByteArray.empty, .str ByteArray.empty, .int .i64 0, .int .i64 0, .nils, .int .u32 0, .int .u32 0, .int .u32 0, .int .u32 0, .int .u32 0, .int .u32 0, .int .u32 0, .int .u32 0, .int .u32 0, .int .i64 0, .int .i64 0, .int .i64 0, .int .u32 0, .bool false, .int .i64 0] := by rw [ti72]; rfl
@[simp] theorem ti72_hasz : (ti Try.prog 72).hasz = true := by rw [ti72]; rfl
@[simp] theorem ti72_fl : (ti Try.prog 72).fl = [(0, 20), (20, 9), (29, 1), (30, 1), (31, 1), (32, 1), (33, 1), (34, 1)] := by rw [ti72]; rfl
@[simp] theorem ti72_hasf : (ti Try.prog 72).hasf = true := by rw [ti72]; rfl
theorem ti74 : ti Try.prog 74 = { ok := true, kd := .struct, eqg := false, size := 3, bytes := 24, agg := true, elem := none, offs := [some 0, some 1, some 2], flds := (some [(0, 1), (1, 1), (2, 1)]), zero := (some [.nil, .int .i64 0, .int .u32 0]) } := by kernel_rfl
@[simp] theorem ti74_ok : (ti Try.prog 74).ok = true := by rw [ti74]
@[simp] theorem ti74_kd : (ti Try.prog 74).kd = .struct := by rw [ti74]
@[simp] theorem ti74_eqg : (ti Try.prog 74).eqg = false := by rw [ti74]
@[simp] theorem ti74_size : (ti Try.prog 74).size = 3 := by rw [ti74]
@[simp] theorem ti74_bytes : (ti Try.prog 74).bytes = 24 := by rw [ti74]
@[simp] theorem ti74_agg : (ti Try.prog 74).agg = true := by rw [ti74]
@[simp] theorem ti74_offs : (ti Try.prog 74).offs = [some 0, some 1, some 2] := by rw [ti74]
@[simp] theorem ti74_isS : (ti Try.prog 74).isS = false := by rw [ti74]; rfl
@[simp] theorem ti74_isP : (ti Try.prog 74).isP = false := by rw [ti74]; rfl
@[simp] theorem ti74_zs : (ti Try.prog 74).zs = [.nil, .int .i64 0, .int .u32 0] := by rw [ti74]; rfl
@[simp] theorem ti74_hasz : (ti Try.prog 74).hasz = true := by rw [ti74]; rfl
@[simp] theorem ti74_fl : (ti Try.prog 74).fl = [(0, 1), (1, 1), (2, 1)] := by rw [ti74]; rfl
@[simp] theorem ti74_hasf : (ti Try.prog 74).hasf = true := by rw [ti74]; rfl
theorem ti83 : ti Try.prog 83 = { ok := true, kd := (.slc 94), eqg := false, size := 1, bytes := 24, agg := false, elem := (some 94), offs := [], flds := none, zero := (some [.nils]) } := by kernel_rfl
@[simp] theorem ti83_ok : (ti Try.prog 83).ok = true := by rw [ti83]
@[simp] theorem ti83_kd : (ti Try.prog 83).kd = (.slc 94) := by rw [ti83]
@[simp] theorem ti83_eqg : (ti Try.prog 83).eqg = false := by rw [ti83]
@[simp] theorem ti83_size : (ti Try.prog 83).size = 1 := by rw [ti83]
@[simp] theorem ti83_bytes : (ti Try.prog 83).bytes = 24 := by rw [ti83]
@[simp] theorem ti83_agg : (ti Try.prog 83).agg = false := by rw [ti83]
@[simp] theorem ti83_offs : (ti Try.prog 83).offs = [] := by rw [ti83]
@[simp] theorem ti83_isS : (ti Try.prog 83).isS = true := by rw [ti83]; rfl
@[simp] theorem ti83_isP : (ti Try.prog 83).isP = false := by rw [ti83]; rfl
@[simp] theorem ti83_el : (ti Try.prog 83).el = 94 := by rw [ti83]; rfl
@[simp] theorem ti83_zs : (ti Try.prog 83).zs = [.nils] := by rw [ti83]; rfl
@[simp] theorem ti83_hasz : (ti Try.prog 83).hasz = true := by rw [ti83]; rfl
theorem ti85 : ti Try.prog 85 = { ok := true, kd := .struct, eqg := false, size := 3, bytes := 40, agg := true, elem := none, offs := [some 0, some 1, some 2], flds := (some [(0, 1), (1, 1), (2, 1)]), zero := (some [.nils, .int .i64 0, .int .u32 0]) } := by kernel_rfl
@[simp] theorem ti85_ok : (ti Try.prog 85).ok = true := by rw [ti85]
@[simp] theorem ti85_kd : (ti Try.prog 85).kd = .struct := by rw [ti85]
@[simp] theorem ti85_eqg : (ti Try.prog 85).eqg = false := by rw [ti85]
@[simp] theorem ti85_size : (ti Try.prog 85).size = 3 := by rw [ti85]
@[simp] theorem ti85_bytes : (ti Try.prog 85).bytes = 40 := by rw [ti85]
@[simp] theorem ti85_agg : (ti Try.prog 85).agg = true := by rw [ti85]
@[simp] theorem ti85_offs : (ti Try.prog 85).offs = [some 0, some 1, some 2] := by rw [ti85]
@[simp] theorem ti85_isS : (ti Try.prog 85).isS = false := by rw [ti85]; rfl
@[simp] theorem ti85_isP : (ti Try.prog 85).isP = false := by rw [ti85]; rfl
@[simp] theorem ti85_zs : (ti Try.prog 85).zs = [.nils, .int .i64 0, .int .u32 0] := by rw [ti85]; rfl
@[simp] theorem ti85_hasz : (ti Try.prog 85).hasz = true := by rw [ti85]; rfl
@[simp] theorem ti85_fl : (ti Try.prog 85).fl = [(0, 1), (1, 1), (2, 1)] := by rw [ti85]; rfl
@[simp] theorem ti85_hasf : (ti Try.prog 85).hasf = true := by rw [ti85]; rfl
theorem ti88 : ti Try.prog 88 = { ok := true, kd := (.slc 106), eqg := false, size := 1, bytes := 24, agg := false, elem := (some 106), offs := [], flds := none, zero := (some [.nils]) } := by kernel_rfl
@[simp] theorem ti88_ok : (ti Try.prog 88).ok = true := by rw [ti88]
@[simp] theorem ti88_kd : (ti Try.prog 88).kd = (.slc 106) := by rw [ti88]
@[simp] theorem ti88_eqg : (ti Try.prog 88).eqg = false := by rw [ti88]
@[simp] theorem ti88_size : (ti Try.prog 88).size = 1 := by rw [ti88]
@[simp] theorem ti88_bytes : (ti Try.prog 88).bytes = 24 := by rw [ti88]
@[simp] theorem ti88_agg : (ti Try.prog 88).agg = false := by rw [ti88]
@[simp] theorem ti88_offs : (ti Try.prog 88).offs = [] := by rw [ti88]
@[simp] theorem ti88_isS : (ti Try.prog 88).isS = true := by rw [ti88]; rfl
@[simp] theorem ti88_isP : (ti Try.prog 88).isP = false := by rw [ti88]; rfl
@[simp] theorem ti88_el : (ti Try.prog 88).el = 106 := by rw [ti88]; rfl
@[simp] theorem ti88_zs : (ti Try.prog 88).zs = [.nils] := by rw [ti88]; rfl
@[simp] theorem ti88_hasz : (ti Try.prog 88).hasz = true := by rw [ti88]; rfl
theorem ti94 : ti Try.prog 94 = { ok := true, kd := .struct, eqg := false, size := 35, bytes := 272, agg := true, elem := none, offs := [some 0, some 20, some 29, some 30, some 31, some 32, some 33, some 34], flds := (some [(0, 20), (20, 9), (29, 1), (30, 1), (31, 1), (32, 1), (33, 1), (34, 1)]), zero := (some [.int .u32 0, .int .u32 0, .int .u64 0, .int .u64 0, .int .u32 0, .int .u32 0, .int .i64 0, .int .i64 0, .int .i64 0, .int .i64 0, .int .i64 0, .int .i64 0, .int .i64 0, .str ByteArray.empty, .str ByteArray.empty, .str ByteArray.empty, .str ByteArray.empty, .int .i64 0, .int .i64 0, .nils, .int .u32 0, .int .u32 0, .int .u32 0, .int .u32 0, .int .u32 0, .int .u32 0, .int .u32 0, .int .u32 0, .int .u32 0, .int .i64 0, .int .i64 0, .int .i64 0, .int .u32 0, .bool false, .int .i64 0]) } := by kernel_rfl
@[simp] theorem ti94_ok : (ti Try.prog 94).ok = true := by rw [ti94]
@[simp] theorem ti94_kd : (ti Try.prog 94).kd = .struct := by rw [ti94]
@[simp] theorem ti94_eqg : (ti Try.prog 94).eqg = false := by rw [ti94]
@[simp] theorem ti94_size : (ti Try.prog 94).size = 35 := by rw [ti94]
@[simp] theorem ti94_bytes : (ti Try.prog 94).bytes = 272 := by rw [ti94]
@[simp] theorem ti94_agg : (ti Try.prog 94).agg = true := by rw [ti94]
@[simp] theorem ti94_offs : (ti Try.prog 94).offs = [some 0, some 20, some 29, some 30, some 31, some 32, some 33, some 34] := by rw [ti94]
@[simp] theorem ti94_isS : (ti Try.prog 94).isS = false := by rw [ti94]; rfl
@[simp] theorem ti94_isP : (ti Try.prog 94).isP = false := by rw [ti94]; rfl
@[simp] theorem ti94_zs : (ti Try.prog 94).zs = [.int .u32 0, .int .u32 0, .int .u64 0, .int .u64 0, .int .u32 0, .int .u32 0, .int .i64 0, .int .i64 0, .int .i64 0, .int .i64 0, .int .i64 0, .int .i64 0, .int .i64 0, .str ByteArray.empty, .str ByteArray.empty, .str ByteArray.empty, .str ByteArray.empty, .int .i64 0, .int .i64 0, .nils, .int .u32 0, .int .u32 0, .int .u32 0, .int .u32 0, .int .u32 0, .int .u32 0, .int .u32 0, .int .u32 0, .int .u32 0, .int .i64 0, .int .i64 0, .int .i64 0, .int .u32 0, .bool false, .int .i64 0] := by rw [ti94]; rfl
@[simp] theorem ti94_hasz : (ti Try.prog 94).hasz = true := by rw [ti94]; rfl
@[simp] theorem ti94_fl : (ti Try.prog 94).fl = [(0, 20), (20, 9), (29, 1), (30, 1), (31, 1), (32, 1), (33, 1), (34, 1)] := by rw [ti94]; rfl
@[simp] theorem ti94_hasf : (ti Try.prog 94).hasf = true := by rw [ti94]; rfl
theorem ti95 : ti Try.prog 95 = { ok := true, kd := (.slc 101), eqg := false, size := 1, bytes := 24, agg := false, elem := (some 101), offs := [], flds := none, zero := (some [.nils]) } := by kernel_rfl
@[simp] theorem ti95_ok : (ti Try.prog 95).ok = true := by rw [ti95]
@[simp] theorem ti95_kd : (ti Try.prog 95).kd = (.slc 101) := by rw [ti95]
@[simp] theorem ti95_eqg : (ti Try.prog 95).eqg = false := by rw [ti95]
@[simp] theorem ti95_size : (ti Try.prog 95).size = 1 := by rw [ti95]
@[simp] theorem ti95_bytes : (ti Try.prog 95).bytes = 24 := by rw [ti95]
@[simp] theorem ti95_agg : (ti Try.prog 95).agg = false := by rw [ti95]
@[simp] theorem ti95_offs : (ti Try.prog 95).offs = [] := by rw [ti95]
@[simp] theorem ti95_isS : (ti Try.prog 95).isS = true := by rw [ti95]; rfl
@[simp] theorem ti95_isP : (ti Try.prog 95).isP = false := by rw [ti95]; rfl
@[simp] theorem ti95_el : (ti Try.prog 95).el = 101 := by rw [ti95]; rfl
@[simp] theorem ti95_zs : (ti Try.prog 95).zs = [.nils] := by rw [ti95]; rfl
@[simp] theorem ti95_hasz : (ti Try.prog 95).hasz = true := by rw [ti95]; rfl
theorem ti97 : ti Try.prog 97 = { ok := true, kd := .struct, eqg := false, size := 2, bytes := 32, agg := true, elem := none, offs := [some 0, some 1], flds := (some [(0, 1), (1, 1)]), zero := (some [.nils, .int .i64 0]) } := by kernel_rfl
@[simp] theorem ti97_ok : (ti Try.prog 97).ok = true := by rw [ti97]
@[simp] theorem ti97_kd : (ti Try.prog 97).kd = .struct := by rw [ti97]
@[simp] theorem ti97_eqg : (ti Try.prog 97).eqg = false := by rw [ti97]
@[simp] theorem ti97_size : (ti Try.prog 97).size = 2 := by rw [ti97]
@[simp] theorem ti97_bytes : (ti Try.prog 97).bytes = 32 := by rw [ti97]
@[simp] theorem ti97_agg : (ti Try.prog 97).agg = true := by rw [ti97]
@[simp] theorem ti97_offs : (ti Try.prog 97).offs = [some 0, some 1] := by rw [ti97]
@[simp] theorem ti97_isS : (ti Try.prog 97).isS = false := by rw [ti97]; rfl
@[simp] theorem ti97_isP : (ti Try.prog 97).isP = false := by rw [ti97]; rfl
@[simp] theorem ti97_zs : (ti Try.prog 97).zs = [.nils, .int .i64 0] := by rw [ti97]; rfl
@[simp] theorem ti97_hasz : (ti Try.prog 97).hasz = true := by rw [ti97]; rfl
@[simp] theorem ti97_fl : (ti Try.prog 97).fl = [(0, 1), (1, 1)] := by rw [ti97]; rfl
@[simp] theorem ti97_hasf : (ti Try.prog 97).hasf = true := by rw [ti97]; rfl
theorem ti101 : ti Try.prog 101 = { ok := true, kd := .struct, eqg := false, size := 36, bytes := 280, agg := true, elem := none, offs := [some 0, some 1], flds := (some [(0, 1), (1, 35)]), zero := (some [.int .u32 0, .int .u32 0, .int .u32 0, .int .u64 0, .int .u64 0, .int .u32 0, .int .u32 0, .int .i64 0, .int .i64 0, .int .i64 0, .int .i64 0, .int .i64 0, .int .i64 0, .int .i64 0, .str ByteArray.empty, .str ByteArray.empty, .str ByteArray.empty, .str ByteArray.empty, .int .i64 0, .int .i64 0, .nils, .int .u32 0, .int .u32 0, .int .u32 0, .int .u32 0, .int .u32 0, .int .u32 0, .int .u32 0, .int .u32 0, .int .u32 0, .int .i64 0, .int .i64 0, .int .i64 0, .int .u32 0, .bool false, .int .i64 0]) } := by kernel_rfl
@[simp] theorem ti101_ok : (ti Try.prog 101).ok = true := by rw [ti101]
@[simp] theorem ti101_kd : (ti Try.prog 101).kd = .struct := by rw [ti101]
@[simp] theorem ti101_eqg : (ti Try.prog 101).eqg = false := by rw [ti101]
@[simp] theorem ti101_size : (ti Try.prog 101).size = 36 := by rw [ti101]
@[simp] theorem ti101_bytes : (ti Try.prog 101).bytes = 280 := by rw [ti101]
@[simp] theorem ti101_agg : (ti Try.prog 101).agg = true := by rw [ti101]
@[simp] theorem ti101_offs : (ti Try.prog 101).offs = [some 0, some 1] := by rw [ti101]
@[simp] theorem ti101_isS : (ti Try.prog 101).isS = false := by rw [ti101]; rfl
@[simp] theorem ti101_isP : (ti Try.prog 101).isP = false := by rw [ti101]; rfl
@[simp] theorem ti101_zs : (ti Try.prog 101).zs = [.int .u32 0, .int .u32 0, .int .u32 0, .int .u64 0, .int .u64 0, .int .u32 0, .int .u32 0, .int .i64 0, .int .i64 0, .int .i64 0, .int .i64 0, .int .i64 0, .int .i64 0, .int .i64 0, .str ByteArray.empty, .str ByteArray.empty, .str ByteArray.empty, .str ByteArray.empty, .int .i64 0, .int .i64 0, .nils, .int .u32 0, .int .u32 0, .int .u32 0, .int .u32 0, .int .u32 0, .int .u32 0, .int .u32 0, .int .u32 0, .int .u32 0, .int .i64 0, .int .i64 0, .int .i64 0, .int .u32 0, .bool false, .int .i64 0] := by rw [ti101]; rfl
@[simp] theorem ti101_hasz : (ti Try.prog 101).hasz = true := by rw [ti101]; rfl
@[simp] theorem ti101_fl : (ti Try.prog 101).fl = [(0, 1), (1, 35)] := by rw [ti101]; rfl
@[simp] theorem ti101_hasf : (ti Try.prog 101).hasf = true := by rw [ti101]; rfl
theorem ti106 : ti Try.prog 106 = { ok := true, kd := .struct, eqg := false, size := 23, bytes := 176, agg := true, elem := none, offs := [some 0, some 1, some 2, some 3, some 4, some 5, some 6, some 7, some 8, some 9, some 10, some 11, some 12, some 13, some 15, some 22], flds := (some [(0, 1), (1, 1), (2, 1), (3, 1), (4, 1), (5, 1), (6, 1), (7, 1), (8, 1), (9, 1), (10, 1), (11, 1), (12, 1), (13, 2), (15, 7), (22, 1)]), zero := (some [.int .i64 0, .int .i64 0, .int .u32 0, .int .u32 0, .int .u32 0, .int .i64 0, .int .i64 0, .int .i64 0, .bool false, .bool false, .int .i64 0, .int .i64 0, .int .i64 0, .int .i64 0, .int .i64 0, .int .u64 0, .int .u64 0, .int .u32 0, .int .u32 0, .int .i64 0, .int .i64 0, .int .i64 0, .nils]) } := by kernel_rfl
@[simp] theorem ti106_ok : (ti Try.prog 106).ok = true := by rw [ti106]
@[simp] theorem ti106_kd : (ti Try.prog 106).kd = .struct := by rw [ti106]
@[simp] theorem ti106_eqg : (ti Try.prog 106).eqg = false := by rw [ti106]
@[simp] theorem ti106_size : (ti Try.prog 106).size = 23 := by rw [ti106]
@[simp] theorem ti106_bytes : (ti Try.prog 106).bytes = 176 := by rw [ti106]
@[simp] theorem ti106_agg : (ti Try.prog 106).agg = true := by rw [ti106]
@[simp] theorem ti106_offs : (ti Try.prog 106).offs = [some 0, some 1, some 2, some 3, some 4, some 5, some 6, some 7, some 8, some 9, some 10, some 11, some 12, some 13, some 15, some 22] := by rw [ti106]
@[simp] theorem ti106_isS : (ti Try.prog 106).isS = false := by rw [ti106]; rfl
@[simp] theorem ti106_isP : (ti Try.prog 106).isP = false := by rw [ti106]; rfl
@[simp] theorem ti106_zs : (ti Try.prog 106).zs = [.int .i64 0, .int .i64 0, .int .u32 0, .int .u32 0, .int .u32 0, .int .i64 0, .int .i64 0, .int .i64 0, .bool false, .bool false, .int .i64 0, .int .i64 0, .int .i64 0, .int .i64 0, .int .i64 0, .int .u64 0, .int .u64 0, .int .u32 0, .int .u32 0, .int .i64 0, .int .i64 0, .int .i64 0, .nils] := by rw [ti106]; rfl
@[simp] theorem ti106_hasz : (ti Try.prog 106).hasz = true := by rw [ti106]; rfl
@[simp] theorem ti106_fl : (ti Try.prog 106).fl = [(0, 1), (1, 1), (2, 1), (3, 1), (4, 1), (5, 1), (6, 1), (7, 1), (8, 1), (9, 1), (10, 1), (11, 1), (12, 1), (13, 2), (15, 7), (22, 1)] := by rw [ti106]; rfl
@[simp] theorem ti106_hasf : (ti Try.prog 106).hasf = true := by rw [ti106]; rfl
theorem ti122 : ti Try.prog 122 = { ok := true, kd := (.slc 9), eqg := false, size := 1, bytes := 24, agg := false, elem := (some 9), offs := [], flds := none, zero := (some [.nils]) } := by kernel_rfl
@[simp] theorem ti122_ok : (ti Try.prog 122).ok = true := by rw [ti122]
@[simp] theorem ti122_kd : (ti Try.prog 122).kd = (.slc 9) := by rw [ti122]
@[simp] theorem ti122_eqg : (ti Try.prog 122).eqg = false := by rw [ti122]
@[simp] theorem ti122_size : (ti Try.prog 122).size = 1 := by rw [ti122]
@[simp] theorem ti122_bytes : (ti Try.prog 122).bytes = 24 := by rw [ti122]
@[simp] theorem ti122_agg : (ti Try.prog 122).agg = false := by rw [ti122]
@[simp] theorem ti122_offs : (ti Try.prog 122).offs = [] := by rw [ti122]
@[simp] theorem ti122_isS : (ti Try.prog 122).isS = true := by rw [ti122]; rfl
@[simp] theorem ti122_isP : (ti Try.prog 122).isP = false := by rw [ti122]; rfl
@[simp] theorem ti122_el : (ti Try.prog 122).el = 9 := by rw [ti122]; rfl
@[simp] theorem ti122_zs : (ti Try.prog 122).zs = [.nils] := by rw [ti122]; rfl
@[simp] theorem ti122_hasz : (ti Try.prog 122).hasz = true := by rw [ti122]; rfl
@[simp] theorem ca3 : callable Try.prog 3 = true := by kernel_rfl
@[simp] theorem ca4 : callable Try.prog 4 = true := by kernel_rfl
@[simp] theorem ca5 : callable Try.prog 5 = true := by kernel_rfl
@[simp] theorem ca6 : callable Try.prog 6 = true := by kernel_rfl
@[simp] theorem ca7 : callable Try.prog 7 = true := by kernel_rfl
@[simp] theorem ca8 : callable Try.prog 8 = true := by kernel_rfl
@[simp] theorem ca9 : callable Try.prog 9 = true := by kernel_rfl
@[simp] theorem ca10 : callable Try.prog 10 = true := by kernel_rfl
@[simp] theorem ca11 : callable Try.prog 11 = true := by kernel_rfl
@[simp] theorem ca12 : callable Try.prog 12 = true := by kernel_rfl
@[simp] theorem ca13 : callable Try.prog 13 = true := by kernel_rfl
@[simp] theorem ca14 : callable Try.prog 14 = true := by kernel_rfl
@[simp] theorem ca15 : callable Try.prog 15 = true := by kernel_rfl
@[simp] theorem ca16 : callable Try.prog 16 = true := by kernel_rfl
@[simp] theorem ca17 : callable Try.prog 17 = true := by kernel_rfl
@[simp] theorem ca18 : callable Try.prog 18 = true := by kernel_rfl
@[simp] theorem ca19 : callable Try.prog 19 = true := by kernel_rfl
@[simp] theorem ca20 : callable Try.prog 20 = true := by kernel_rfl
@[simp] theorem ca21 : callable Try.prog 21 = true := by kernel_rfl
@[simp] theorem ca22 : callable Try.prog 22 = true := by kernel_rfl
@[simp] theorem ca23 : callable Try.prog 23 = true := by kernel_rfl
@[simp] theorem ca24 : callable Try.prog 24 = true := by kernel_rfl
@[simp] theorem ca25 : callable Try.prog 25 = true := by kernel_rfl
@[simp] theorem ca26 : callable Try.prog 26 = true := by kernel_rfl
@[simp] theorem ca27 : callable Try.prog 27 = true := by kernel_rfl
@[simp] theorem ca28 : callable Try.prog 28 = true := by kernel_rfl
@[simp] theorem ca29 : callable Try.prog 29 = true := by kernel_rfl
@[simp] theorem ca30 : callable Try.prog 30 = true := by kernel_rfl
@[simp] theorem ca31 : callable Try.prog 31 = true := by kernel_rfl
@[simp] theorem ca32 : callable Try.prog 32 = true := by kernel_rfl
@[simp] theorem ca33 : callable Try.prog 33 = true := by kernel_rfl
@[simp] theorem ca34 : callable Try.prog 34 = true := by kernel_rfl
@[simp] theorem ca35 : callable Try.prog 35 = true := by kernel_rfl
@[simp] theorem ca36 : callable Try.prog 36 = true := by kernel_rfl
@[simp] theorem ca37 : callable Try.prog 37 = true := by kernel_rfl
@[simp] theorem ca38 : callable Try.prog 38 = true := by kernel_rfl
@[simp] theorem ca39 : callable Try.prog 39 = true := by kernel_rfl
@[simp] theorem ca40 : callable Try.prog 40 = true := by kernel_rfl
@[simp] theorem ca41 : callable Try.prog 41 = true := by kernel_rfl
@[simp] theorem ca42 : callable Try.prog 42 = true := by kernel_rfl
@[simp] theorem ca43 : callable Try.prog 43 = true := by kernel_rfl
@[simp] theorem ca44 : callable Try.prog 44 = true := by kernel_rfl
@[simp] theorem ca45 : callable Try.prog 45 = true := by kernel_rfl
@[simp] theorem ca46 : callable Try.prog 46 = true := by kernel_rfl
@[simp] theorem ca47 : callable Try.prog 47 = true := by kernel_rfl
@[simp] theorem ca48 : callable Try.prog 48 = true := by kernel_rfl
@[simp] theorem ca49 : callable Try.prog 49 = false := by kernel_rfl
@[simp] theorem ca50 : callable Try.prog 50 = true := by kernel_rfl
@[simp] theorem ca51 : callable Try.prog 51 = true := by kernel_rfl
@[simp] theorem ca52 : callable Try.prog 52 = true := by kernel_rfl
@[simp] theorem ca53 : callable Try.prog 53 = true := by kernel_rfl
@[simp] theorem ca54 : callable Try.prog 54 = true := by kernel_rfl
@[simp] theorem ca55 : callable Try.prog 55 = true := by kernel_rfl
@[simp] theorem ca56 : callable Try.prog 56 = true := by kernel_rfl
@[simp] theorem ca57 : callable Try.prog 57 = true := by kernel_rfl
@[simp] theorem ca73 : callable Try.prog 73 = false := by kernel_rfl
@[simp] theorem ca74 : callable Try.prog 74 = false := by kernel_rfl
/-- equality of type 27: ostiary/api.Key -/
def eqS27 (x0 y0 : Int) (x1 y1 : Int) (x2 y2 : Int) (x3 y3 : Int) (x4 y4 : Int) (x5 y5 : Int) (x6 y6 : Int) : Bool := decide (x0 = y0 ∧ x1 = y1 ∧ x2 = y2 ∧ x3 = y3 ∧ x4 = y4 ∧ x5 = y5 ∧ x6 = y6)
theorem eqS27_iff {x0 y0 : Int} {x1 y1 : Int} {x2 y2 : Int} {x3 y3 : Int} {x4 y4 : Int} {x5 y5 : Int} {x6 y6 : Int} : eqS27 x0 y0 x1 y1 x2 y2 x3 y3 x4 y4 x5 y5 x6 y6 = true ↔ x0 = y0 ∧ x1 = y1 ∧ x2 = y2 ∧ x3 = y3 ∧ x4 = y4 ∧ x5 = y5 ∧ x6 = y6 := by simp [eqS27]
theorem eqS27_no {x0 y0 : Int} {x1 y1 : Int} {x2 y2 : Int} {x3 y3 : Int} {x4 y4 : Int} {x5 y5 : Int} {x6 y6 : Int} : eqS27 x0 y0 x1 y1 x2 y2 x3 y3 x4 y4 x5 y5 x6 y6 = false ↔ ¬ (x0 = y0 ∧ x1 = y1 ∧ x2 = y2 ∧ x3 = y3 ∧ x4 = y4 ∧ x5 = y5 ∧ x6 = y6) := by simp [eqS27]
theorem eqA27_ (x0 y0 : Int) (x1 y1 : Int) (x2 y2 : Int) (x3 y3 : Int) (x4 y4 : Int) (x5 y5 : Int) (x6 y6 : Int) : eqA Try.prog 10000 27 (.agg [.int .u64 x0, .int .u64 x1, .int .u32 x2, .int .u32 x3, .int .i64 x4, .int .i64 x5, .int .i64 x6]) (.agg [.int .u64 y0, .int .u64 y1, .int .u32 y2, .int .u32 y3, .int .i64 y4, .int .i64 y5, .int .i64 y6]) = some (decide (x0 = y0) && (decide (x1 = y1) && (decide (x2 = y2) && (decide (x3 = y3) && (decide (x4 = y4) && (decide (x5 = y5) && (decide (x6 = y6) && true))))))) := by kernel_rfl
@[simp] theorem eqA27 (x0 y0 : Int) (x1 y1 : Int) (x2 y2 : Int) (x3 y3 : Int) (x4 y4 : Int) (x5 y5 : Int) (x6 y6 : Int) : eqA Try.prog 10000 27 (.agg [.int .u64 x0, .int .u64 x1, .int .u32 x2, .int .u32 x3, .int .i64 x4, .int .i64 x5, .int .i64 x6]) (.agg [.int .u64 y0, .int .u64 y1, .int .u32 y2, .int .u32 y3, .int .i64 y4, .int .i64 y5, .int .i64 y6]) = some (eqS27 x0 y0 x1 y1 x2 y2 x3 y3 x4 y4 x5 y5 x6 y6) := by rw [eqA27_]; simp only [ba_eq, eqS27]; congr 1; rw [Bool.eq_iff_iff]; simp [and_assoc]
/-- equality of type 29: ostiary/api.Place -/
def eqS29 (x0 y0 : Int) (x1 y1 : Int) : Bool := decide (x0 = y0 ∧ x1 = y1)
theorem eqS29_iff {x0 y0 : Int} {x1 y1 : Int} : eqS29 x0 y0 x1 y1 = true ↔ x0 = y0 ∧ x1 = y1 := by simp [eqS29]
theorem eqS29_no {x0 y0 : Int} {x1 y1 : Int} : eqS29 x0 y0 x1 y1 = false ↔ ¬ (x0 = y0 ∧ x1 = y1) := by simp [eqS29]
theorem eqA29_ (x0 y0 : Int) (x1 y1 : Int) : eqA Try.prog 10000 29 (.agg [.int .i64 x0, .int .i64 x1]) (.agg [.int .i64 y0, .int .i64 y1]) = some (decide (x0 = y0) && (decide (x1 = y1) && true)) := by kernel_rfl
@[simp] theorem eqA29 (x0 y0 : Int) (x1 y1 : Int) : eqA Try.prog 10000 29 (.agg [.int .i64 x0, .int .i64 x1]) (.agg [.int .i64 y0, .int .i64 y1]) = some (eqS29 x0 y0 x1 y1) := by rw [eqA29_]; simp only [ba_eq, eqS29]; congr 1; rw [Bool.eq_iff_iff]; simp [and_assoc]
end Go.Proofs.Ytgideonigiokbaa
