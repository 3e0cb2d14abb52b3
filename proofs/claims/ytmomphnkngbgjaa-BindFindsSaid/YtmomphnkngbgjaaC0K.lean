import Derived.Test.YtmomphnkngbgjaaAl2
import Derived.Test.YtmomphnkngbgjaaProg
import Derived.KernelRfl
set_option linter.unusedVariables false
set_option linter.unusedSimpArgs false
set_option maxRecDepth 100000
namespace Go.Proofs.Ytmomphnkngbgjaa
open Go Go.Al
theorem mixed : Try.prog.follows .mixedOrders = true := by kernel_rfl
theorem ti2 : ti Try.prog 2 = { ok := true, kd := (.int .i64), eqg := false, size := 1, bytes := 8, agg := false, elem := none, offs := [], flds := none, zero := (some [.int .i64 0]) } := by kernel_rfl
@[simp] theorem ti2_ok : (ti Try.prog 2).ok = true := by rw [ti2]
@[simp] theorem ti2_kd : (ti Try.prog 2).kd = (.int .i64) := by rw [ti2]
@[simp] theorem ti2_eqg : (ti Try.prog 2).eqg = false := by rw [ti2]
@[simp] theorem ti2_size : (ti Try.prog 2).size = 1 := by rw [ti2]
@[simp] theorem ti2_bytes : (ti Try.prog 2).bytes = 8 := by rw [ti2]
@[simp] theorem ti2_agg : (ti Try.prog 2).agg = false := by rw [ti2]
@[simp] theorem ti2_offs : (ti Try.prog 2).offs = [] := by rw [ti2]
@[simp] theorem ti2_isS : (ti Try.prog 2).isS = false := by rw [ti2]; rfl
@[simp] theorem ti2_isP : (ti Try.prog 2).isP = false := by rw [ti2]; rfl
@[simp] theorem ti2_zs : (ti Try.prog 2).zs = [.int .i64 0] := by rw [ti2]; rfl
@[simp] theorem ti2_hasz : (ti Try.prog 2).hasz = true := by rw [ti2]; rfl
theorem ti3 : ti Try.prog 3 = { ok := true, kd := (.int .i64), eqg := false, size := 1, bytes := 8, agg := false, elem := none, offs := [], flds := none, zero := (some [.int .i64 0]) } := by kernel_rfl
@[simp] theorem ti3_ok : (ti Try.prog 3).ok = true := by rw [ti3]
@[simp] theorem ti3_kd : (ti Try.prog 3).kd = (.int .i64) := by rw [ti3]
@[simp] theorem ti3_eqg : (ti Try.prog 3).eqg = false := by rw [ti3]
@[simp] theorem ti3_size : (ti Try.prog 3).size = 1 := by rw [ti3]
@[simp] theorem ti3_bytes : (ti Try.prog 3).bytes = 8 := by rw [ti3]
@[simp] theorem ti3_agg : (ti Try.prog 3).agg = false := by rw [ti3]
@[simp] theorem ti3_offs : (ti Try.prog 3).offs = [] := by rw [ti3]
@[simp] theorem ti3_isS : (ti Try.prog 3).isS = false := by rw [ti3]; rfl
@[simp] theorem ti3_isP : (ti Try.prog 3).isP = false := by rw [ti3]; rfl
@[simp] theorem ti3_zs : (ti Try.prog 3).zs = [.int .i64 0] := by rw [ti3]; rfl
@[simp] theorem ti3_hasz : (ti Try.prog 3).hasz = true := by rw [ti3]; rfl
theorem ti4 : ti Try.prog 4 = { ok := true, kd := .bool, eqg := false, size := 1, bytes := 1, agg := false, elem := none, offs := [], flds := none, zero := (some [.bool false]) } := by kernel_rfl
@[simp] theorem ti4_ok : (ti Try.prog 4).ok = true := by rw [ti4]
@[simp] theorem ti4_kd : (ti Try.prog 4).kd = .bool := by rw [ti4]
@[simp] theorem ti4_eqg : (ti Try.prog 4).eqg = false := by rw [ti4]
@[simp] theorem ti4_size : (ti Try.prog 4).size = 1 := by rw [ti4]
@[simp] theorem ti4_bytes : (ti Try.prog 4).bytes = 1 := by rw [ti4]
@[simp] theorem ti4_agg : (ti Try.prog 4).agg = false := by rw [ti4]
@[simp] theorem ti4_offs : (ti Try.prog 4).offs = [] := by rw [ti4]
@[simp] theorem ti4_isS : (ti Try.prog 4).isS = false := by rw [ti4]; rfl
@[simp] theorem ti4_isP : (ti Try.prog 4).isP = false := by rw [ti4]; rfl
@[simp] theorem ti4_zs : (ti Try.prog 4).zs = [.bool false] := by rw [ti4]; rfl
@[simp] theorem ti4_hasz : (ti Try.prog 4).hasz = true := by rw [ti4]; rfl
theorem ti5 : ti Try.prog 5 = { ok := true, kd := (.int .u8), eqg := false, size := 1, bytes := 1, agg := false, elem := none, offs := [], flds := none, zero := (some [.int .u8 0]) } := by kernel_rfl
@[simp] theorem ti5_ok : (ti Try.prog 5).ok = true := by rw [ti5]
@[simp] theorem ti5_kd : (ti Try.prog 5).kd = (.int .u8) := by rw [ti5]
@[simp] theorem ti5_eqg : (ti Try.prog 5).eqg = false := by rw [ti5]
@[simp] theorem ti5_size : (ti Try.prog 5).size = 1 := by rw [ti5]
@[simp] theorem ti5_bytes : (ti Try.prog 5).bytes = 1 := by rw [ti5]
@[simp] theorem ti5_agg : (ti Try.prog 5).agg = false := by rw [ti5]
@[simp] theorem ti5_offs : (ti Try.prog 5).offs = [] := by rw [ti5]
@[simp] theorem ti5_isS : (ti Try.prog 5).isS = false := by rw [ti5]; rfl
@[simp] theorem ti5_isP : (ti Try.prog 5).isP = false := by rw [ti5]; rfl
@[simp] theorem ti5_zs : (ti Try.prog 5).zs = [.int .u8 0] := by rw [ti5]; rfl
@[simp] theorem ti5_hasz : (ti Try.prog 5).hasz = true := by rw [ti5]; rfl
theorem ti9 : ti Try.prog 9 = { ok := true, kd := .str, eqg := false, size := 1, bytes := 16, agg := false, elem := none, offs := [], flds := none, zero := (some [.str ByteArray.empty]) } := by kernel_rfl
@[simp] theorem ti9_ok : (ti Try.prog 9).ok = true := by rw [ti9]
@[simp] theorem ti9_kd : (ti Try.prog 9).kd = .str := by rw [ti9]
@[simp] theorem ti9_eqg : (ti Try.prog 9).eqg = false := by rw [ti9]
@[simp] theorem ti9_size : (ti Try.prog 9).size = 1 := by rw [ti9]
@[simp] theorem ti9_bytes : (ti Try.prog 9).bytes = 16 := by rw [ti9]
@[simp] theorem ti9_agg : (ti Try.prog 9).agg = false := by rw [ti9]
@[simp] theorem ti9_offs : (ti Try.prog 9).offs = [] := by rw [ti9]
@[simp] theorem ti9_isS : (ti Try.prog 9).isS = false := by rw [ti9]; rfl
@[simp] theorem ti9_isP : (ti Try.prog 9).isP = false := by rw [ti9]; rfl
@[simp] theorem ti9_zs : (ti Try.prog 9).zs = [.str ByteArray.empty] := by rw [ti9]; rfl
@[simp] theorem ti9_hasz : (ti Try.prog 9).hasz = true := by rw [ti9]; rfl
theorem ti21 : ti Try.prog 21 = { ok := true, kd := (.int .i32), eqg := false, size := 1, bytes := 4, agg := false, elem := none, offs := [], flds := none, zero := (some [.int .i32 0]) } := by kernel_rfl
@[simp] theorem ti21_ok : (ti Try.prog 21).ok = true := by rw [ti21]
@[simp] theorem ti21_kd : (ti Try.prog 21).kd = (.int .i32) := by rw [ti21]
@[simp] theorem ti21_eqg : (ti Try.prog 21).eqg = false := by rw [ti21]
@[simp] theorem ti21_size : (ti Try.prog 21).size = 1 := by rw [ti21]
@[simp] theorem ti21_bytes : (ti Try.prog 21).bytes = 4 := by rw [ti21]
@[simp] theorem ti21_agg : (ti Try.prog 21).agg = false := by rw [ti21]
@[simp] theorem ti21_offs : (ti Try.prog 21).offs = [] := by rw [ti21]
@[simp] theorem ti21_isS : (ti Try.prog 21).isS = false := by rw [ti21]; rfl
@[simp] theorem ti21_isP : (ti Try.prog 21).isP = false := by rw [ti21]; rfl
@[simp] theorem ti21_zs : (ti Try.prog 21).zs = [.int .i32 0] := by rw [ti21]; rfl
@[simp] theorem ti21_hasz : (ti Try.prog 21).hasz = true := by rw [ti21]; rfl
theorem ti22 : ti Try.prog 22 = { ok := true, kd := (.slc 33), eqg := false, size := 1, bytes := 24, agg := false, elem := (some 33), offs := [], flds := none, zero := (some [.nils]) } := by kernel_rfl
@[simp] theorem ti22_ok : (ti Try.prog 22).ok = true := by rw [ti22]
@[simp] theorem ti22_kd : (ti Try.prog 22).kd = (.slc 33) := by rw [ti22]
@[simp] theorem ti22_eqg : (ti Try.prog 22).eqg = false := by rw [ti22]
@[simp] theorem ti22_size : (ti Try.prog 22).size = 1 := by rw [ti22]
@[simp] theorem ti22_bytes : (ti Try.prog 22).bytes = 24 := by rw [ti22]
@[simp] theorem ti22_agg : (ti Try.prog 22).agg = false := by rw [ti22]
@[simp] theorem ti22_offs : (ti Try.prog 22).offs = [] := by rw [ti22]
@[simp] theorem ti22_isS : (ti Try.prog 22).isS = true := by rw [ti22]; rfl
@[simp] theorem ti22_isP : (ti Try.prog 22).isP = false := by rw [ti22]; rfl
@[simp] theorem ti22_el : (ti Try.prog 22).el = 33 := by rw [ti22]; rfl
@[simp] theorem ti22_zs : (ti Try.prog 22).zs = [.nils] := by rw [ti22]; rfl
@[simp] theorem ti22_hasz : (ti Try.prog 22).hasz = true := by rw [ti22]; rfl
theorem ti24 : ti Try.prog 24 = { ok := true, kd := .struct, eqg := false, size := 2, bytes := 16, agg := true, elem := none, offs := [some 0, some 1], flds := (some [(0, 1), (1, 1)]), zero := (some [.int .i64 0, .int .i64 0]) } := by kernel_rfl
@[simp] theorem ti24_ok : (ti Try.prog 24).ok = true := by rw [ti24]
@[simp] theorem ti24_kd : (ti Try.prog 24).kd = .struct := by rw [ti24]
@[simp] theorem ti24_eqg : (ti Try.prog 24).eqg = false := by rw [ti24]
@[simp] theorem ti24_size : (ti Try.prog 24).size = 2 := by rw [ti24]
@[simp] theorem ti24_bytes : (ti Try.prog 24).bytes = 16 := by rw [ti24]
@[simp] theorem ti24_agg : (ti Try.prog 24).agg = true := by rw [ti24]
@[simp] theorem ti24_offs : (ti Try.prog 24).offs = [some 0, some 1] := by rw [ti24]
@[simp] theorem ti24_isS : (ti Try.prog 24).isS = false := by rw [ti24]; rfl
@[simp] theorem ti24_isP : (ti Try.prog 24).isP = false := by rw [ti24]; rfl
@[simp] theorem ti24_zs : (ti Try.prog 24).zs = [.int .i64 0, .int .i64 0] := by rw [ti24]; rfl
@[simp] theorem ti24_hasz : (ti Try.prog 24).hasz = true := by rw [ti24]; rfl
@[simp] theorem ti24_fl : (ti Try.prog 24).fl = [(0, 1), (1, 1)] := by rw [ti24]; rfl
@[simp] theorem ti24_hasf : (ti Try.prog 24).hasf = true := by rw [ti24]; rfl
theorem ti25 : ti Try.prog 25 = { ok := true, kd := (.int .u64), eqg := false, size := 1, bytes := 8, agg := false, elem := none, offs := [], flds := none, zero := (some [.int .u64 0]) } := by kernel_rfl
@[simp] theorem ti25_ok : (ti Try.prog 25).ok = true := by rw [ti25]
@[simp] theorem ti25_kd : (ti Try.prog 25).kd = (.int .u64) := by rw [ti25]
@[simp] theorem ti25_eqg : (ti Try.prog 25).eqg = false := by rw [ti25]
@[simp] theorem ti25_size : (ti Try.prog 25).size = 1 := by rw [ti25]
@[simp] theorem ti25_bytes : (ti Try.prog 25).bytes = 8 := by rw [ti25]
@[simp] theorem ti25_agg : (ti Try.prog 25).agg = false := by rw [ti25]
@[simp] theorem ti25_offs : (ti Try.prog 25).offs = [] := by rw [ti25]
@[simp] theorem ti25_isS : (ti Try.prog 25).isS = false := by rw [ti25]; rfl
@[simp] theorem ti25_isP : (ti Try.prog 25).isP = false := by rw [ti25]; rfl
@[simp] theorem ti25_zs : (ti Try.prog 25).zs = [.int .u64 0] := by rw [ti25]; rfl
@[simp] theorem ti25_hasz : (ti Try.prog 25).hasz = true := by rw [ti25]; rfl
theorem ti26 : ti Try.prog 26 = { ok := true, kd := (.int .u32), eqg := false, size := 1, bytes := 4, agg := false, elem := none, offs := [], flds := none, zero := (some [.int .u32 0]) } := by kernel_rfl
@[simp] theorem ti26_ok : (ti Try.prog 26).ok = true := by rw [ti26]
@[simp] theorem ti26_kd : (ti Try.prog 26).kd = (.int .u32) := by rw [ti26]
@[simp] theorem ti26_eqg : (ti Try.prog 26).eqg = false := by rw [ti26]
@[simp] theorem ti26_size : (ti Try.prog 26).size = 1 := by rw [ti26]
@[simp] theorem ti26_bytes : (ti Try.prog 26).bytes = 4 := by rw [ti26]
@[simp] theorem ti26_agg : (ti Try.prog 26).agg = false := by rw [ti26]
@[simp] theorem ti26_offs : (ti Try.prog 26).offs = [] := by rw [ti26]
@[simp] theorem ti26_isS : (ti Try.prog 26).isS = false := by rw [ti26]; rfl
@[simp] theorem ti26_isP : (ti Try.prog 26).isP = false := by rw [ti26]; rfl
@[simp] theorem ti26_zs : (ti Try.prog 26).zs = [.int .u32 0] := by rw [ti26]; rfl
@[simp] theorem ti26_hasz : (ti Try.prog 26).hasz = true := by rw [ti26]; rfl
theorem ti27 : ti Try.prog 27 = { ok := true, kd := (.ptr 68), eqg := false, size := 1, bytes := 8, agg := false, elem := none, offs := [], flds := none, zero := (some [.nil]) } := by kernel_rfl
@[simp] theorem ti27_ok : (ti Try.prog 27).ok = true := by rw [ti27]
@[simp] theorem ti27_kd : (ti Try.prog 27).kd = (.ptr 68) := by rw [ti27]
@[simp] theorem ti27_eqg : (ti Try.prog 27).eqg = false := by rw [ti27]
@[simp] theorem ti27_size : (ti Try.prog 27).size = 1 := by rw [ti27]
@[simp] theorem ti27_bytes : (ti Try.prog 27).bytes = 8 := by rw [ti27]
@[simp] theorem ti27_agg : (ti Try.prog 27).agg = false := by rw [ti27]
@[simp] theorem ti27_offs : (ti Try.prog 27).offs = [] := by rw [ti27]
@[simp] theorem ti27_isS : (ti Try.prog 27).isS = false := by rw [ti27]; rfl
@[simp] theorem ti27_isP : (ti Try.prog 27).isP = true := by rw [ti27]; rfl
@[simp] theorem ti27_zs : (ti Try.prog 27).zs = [.nil] := by rw [ti27]; rfl
@[simp] theorem ti27_hasz : (ti Try.prog 27).hasz = true := by rw [ti27]; rfl
theorem ti29 : ti Try.prog 29 = { ok := true, kd := (.slc 31), eqg := false, size := 1, bytes := 24, agg := false, elem := (some 31), offs := [], flds := none, zero := (some [.nils]) } := by kernel_rfl
@[simp] theorem ti29_ok : (ti Try.prog 29).ok = true := by rw [ti29]
@[simp] theorem ti29_kd : (ti Try.prog 29).kd = (.slc 31) := by rw [ti29]
@[simp] theorem ti29_eqg : (ti Try.prog 29).eqg = false := by rw [ti29]
@[simp] theorem ti29_size : (ti Try.prog 29).size = 1 := by rw [ti29]
@[simp] theorem ti29_bytes : (ti Try.prog 29).bytes = 24 := by rw [ti29]
@[simp] theorem ti29_agg : (ti Try.prog 29).agg = false := by rw [ti29]
@[simp] theorem ti29_offs : (ti Try.prog 29).offs = [] := by rw [ti29]
@[simp] theorem ti29_isS : (ti Try.prog 29).isS = true := by rw [ti29]; rfl
@[simp] theorem ti29_isP : (ti Try.prog 29).isP = false := by rw [ti29]; rfl
@[simp] theorem ti29_el : (ti Try.prog 29).el = 31 := by rw [ti29]; rfl
@[simp] theorem ti29_zs : (ti Try.prog 29).zs = [.nils] := by rw [ti29]; rfl
@[simp] theorem ti29_hasz : (ti Try.prog 29).hasz = true := by rw [ti29]; rfl
theorem ti31 : ti Try.prog 31 = { ok := true, kd := .struct, eqg := false, size := 7, bytes := 72, agg := true, elem := none, offs := [some 0, some 1, some 2, some 4, some 5, some 6], flds := (some [(0, 1), (1, 1), (2, 2), (4, 1), (5, 1), (6, 1)]), zero := (some [.int .u64 0, .int .u32 0, .int .i64 0, .int .i64 0, .str ByteArray.empty, .str ByteArray.empty, .int .i64 0]) } := by kernel_rfl
@[simp] theorem ti31_ok : (ti Try.prog 31).ok = true := by rw [ti31]
@[simp] theorem ti31_kd : (ti Try.prog 31).kd = .struct := by rw [ti31]
@[simp] theorem ti31_eqg : (ti Try.prog 31).eqg = false := by rw [ti31]
@[simp] theorem ti31_size : (ti Try.prog 31).size = 7 := by rw [ti31]
@[simp] theorem ti31_bytes : (ti Try.prog 31).bytes = 72 := by rw [ti31]
@[simp] theorem ti31_agg : (ti Try.prog 31).agg = true := by rw [ti31]
@[simp] theorem ti31_offs : (ti Try.prog 31).offs = [some 0, some 1, some 2, some 4, some 5, some 6] := by rw [ti31]
@[simp] theorem ti31_isS : (ti Try.prog 31).isS = false := by rw [ti31]; rfl
@[simp] theorem ti31_isP : (ti Try.prog 31).isP = false := by rw [ti31]; rfl
@[simp] theorem ti31_zs : (ti Try.prog 31).zs = [.int .u64 0, .int .u32 0, .int .i64 0, .int .i64 0, .str ByteArray.empty, .str ByteArray.empty, .int .i64 0] := by rw [ti31]; rfl
@[simp] theorem ti31_hasz : (ti Try.prog 31).hasz = true := by rw [ti31]; rfl
@[simp] theorem ti31_fl : (ti Try.prog 31).fl = [(0, 1), (1, 1), (2, 2), (4, 1), (5, 1), (6, 1)] := by rw [ti31]; rfl
@[simp] theorem ti31_hasf : (ti Try.prog 31).hasf = true := by rw [ti31]; rfl
theorem ti33 : ti Try.prog 33 = { ok := true, kd := .struct, eqg := false, size := 12, bytes := 120, agg := true, elem := none, offs := [some 0, some 1, some 8, some 10, some 11], flds := (some [(0, 1), (1, 7), (8, 2), (10, 1), (11, 1)]), zero := (some [.int .i64 0, .int .u64 0, .int .u32 0, .int .i64 0, .int .i64 0, .str ByteArray.empty, .str ByteArray.empty, .int .i64 0, .int .i64 0, .int .i64 0, .str ByteArray.empty, .int .i64 0]) } := by kernel_rfl
@[simp] theorem ti33_ok : (ti Try.prog 33).ok = true := by rw [ti33]
@[simp] theorem ti33_kd : (ti Try.prog 33).kd = .struct := by rw [ti33]
@[simp] theorem ti33_eqg : (ti Try.prog 33).eqg = false := by rw [ti33]
@[simp] theorem ti33_size : (ti Try.prog 33).size = 12 := by rw [ti33]
@[simp] theorem ti33_bytes : (ti Try.prog 33).bytes = 120 := by rw [ti33]
@[simp] theorem ti33_agg : (ti Try.prog 33).agg = true := by rw [ti33]
@[simp] theorem ti33_offs : (ti Try.prog 33).offs = [some 0, some 1, some 8, some 10, some 11] := by rw [ti33]
@[simp] theorem ti33_isS : (ti Try.prog 33).isS = false := by rw [ti33]; rfl
@[simp] theorem ti33_isP : (ti Try.prog 33).isP = false := by rw [ti33]; rfl
@[simp] theorem ti33_zs : (ti Try.prog 33).zs = [.int .i64 0, .int .u64 0, .int .u32 0, .int .i64 0, .int .i64 0, .str ByteArray.empty, .str ByteArray.empty, .int .i64 0, .int .i64 0, .int .i64 0, .str ByteArray.empty, .int .i64 0] := by rw [ti33]; rfl
@[simp] theorem ti33_hasz : (ti Try.prog 33).hasz = true := by rw [ti33]; rfl
@[simp] theorem ti33_fl : (ti Try.prog 33).fl = [(0, 1), (1, 7), (8, 2), (10, 1), (11, 1)] := by rw [ti33]; rfl
@[simp] theorem ti33_hasf : (ti Try.prog 33).hasf = true := by rw [ti33]; rfl
theorem ti37 : ti Try.prog 37 = { ok := true, kd := (.int .u64), eqg := false, size := 1, bytes := 8, agg := false, elem := none, offs := [], flds := none, zero := (some [.int .u64 0]) } := by kernel_rfl
@[simp] theorem ti37_ok : (ti Try.prog 37).ok = true := by rw [ti37]
@[simp] theorem ti37_kd : (ti Try.prog 37).kd = (.int .u64) := by rw [ti37]
@[simp] theorem ti37_eqg : (ti Try.prog 37).eqg = false := by rw [ti37]
@[simp] theorem ti37_size : (ti Try.prog 37).size = 1 := by rw [ti37]
@[simp] theorem ti37_bytes : (ti Try.prog 37).bytes = 8 := by rw [ti37]
@[simp] theorem ti37_agg : (ti Try.prog 37).agg = false := by rw [ti37]
@[simp] theorem ti37_offs : (ti Try.prog 37).offs = [] := by rw [ti37]
@[simp] theorem ti37_isS : (ti Try.prog 37).isS = false := by rw [ti37]; rfl
@[simp] theorem ti37_isP : (ti Try.prog 37).isP = false := by rw [ti37]; rfl
@[simp] theorem ti37_zs : (ti Try.prog 37).zs = [.int .u64 0] := by rw [ti37]; rfl
@[simp] theorem ti37_hasz : (ti Try.prog 37).hasz = true := by rw [ti37]; rfl
theorem ti38 : ti Try.prog 38 = { ok := true, kd := (.int .u32), eqg := false, size := 1, bytes := 4, agg := false, elem := none, offs := [], flds := none, zero := (some [.int .u32 0]) } := by kernel_rfl
@[simp] theorem ti38_ok : (ti Try.prog 38).ok = true := by rw [ti38]
@[simp] theorem ti38_kd : (ti Try.prog 38).kd = (.int .u32) := by rw [ti38]
@[simp] theorem ti38_eqg : (ti Try.prog 38).eqg = false := by rw [ti38]
@[simp] theorem ti38_size : (ti Try.prog 38).size = 1 := by rw [ti38]
@[simp] theorem ti38_bytes : (ti Try.prog 38).bytes = 4 := by rw [ti38]
@[simp] theorem ti38_agg : (ti Try.prog 38).agg = false := by rw [ti38]
@[simp] theorem ti38_offs : (ti Try.prog 38).offs = [] := by rw [ti38]
@[simp] theorem ti38_isS : (ti Try.prog 38).isS = false := by rw [ti38]; rfl
@[simp] theorem ti38_isP : (ti Try.prog 38).isP = false := by rw [ti38]; rfl
@[simp] theorem ti38_zs : (ti Try.prog 38).zs = [.int .u32 0] := by rw [ti38]; rfl
@[simp] theorem ti38_hasz : (ti Try.prog 38).hasz = true := by rw [ti38]; rfl
theorem ti40 : ti Try.prog 40 = { ok := true, kd := .struct, eqg := false, size := 7, bytes := 72, agg := true, elem := none, offs := [some 0, some 1, some 2, some 4, some 5, some 6], flds := (some [(0, 1), (1, 1), (2, 2), (4, 1), (5, 1), (6, 1)]), zero := (some [.int .u64 0, .int .u32 0, .int .i64 0, .int .i64 0, .str ByteArray.empty, .str ByteArray.empty, .int .i64 0]) } := by kernel_rfl
@[simp] theorem ti40_ok : (ti Try.prog 40).ok = true := by rw [ti40]
@[simp] theorem ti40_kd : (ti Try.prog 40).kd = .struct := by rw [ti40]
@[simp] theorem ti40_eqg : (ti Try.prog 40).eqg = false := by rw [ti40]
@[simp] theorem ti40_size : (ti Try.prog 40).size = 7 := by rw [ti40]
@[simp] theorem ti40_bytes : (ti Try.prog 40).bytes = 72 := by rw [ti40]
@[simp] theorem ti40_agg : (ti Try.prog 40).agg = true := by rw [ti40]
@[simp] theorem ti40_offs : (ti Try.prog 40).offs = [some 0, some 1, some 2, some 4, some 5, some 6] := by rw [ti40]
@[simp] theorem ti40_isS : (ti Try.prog 40).isS = false := by rw [ti40]; rfl
@[simp] theorem ti40_isP : (ti Try.prog 40).isP = false := by rw [ti40]; rfl
@[simp] theorem ti40_zs : (ti Try.prog 40).zs = [.int .u64 0, .int .u32 0, .int .i64 0, .int .i64 0, .str ByteArray.empty, .str ByteArray.empty, .int .i64 0] := by rw [ti40]; rfl
@[simp] theorem ti40_hasz : (ti Try.prog 40).hasz = true := by rw [ti40]; rfl
@[simp] theorem ti40_fl : (ti Try.prog 40).fl = [(0, 1), (1, 1), (2, 2), (4, 1), (5, 1), (6, 1)] := by rw [ti40]; rfl
@[simp] theorem ti40_hasf : (ti Try.prog 40).hasf = true := by rw [ti40]; rfl
theorem ti41 : ti Try.prog 41 = { ok := true, kd := (.int .i64), eqg := false, size := 1, bytes := 8, agg := false, elem := none, offs := [], flds := none, zero := (some [.int .i64 0]) } := by kernel_rfl
@[simp] theorem ti41_ok : (ti Try.prog 41).ok = true := by rw [ti41]
@[simp] theorem ti41_kd : (ti Try.prog 41).kd = (.int .i64) := by rw [ti41]
@[simp] theorem ti41_eqg : (ti Try.prog 41).eqg = false := by rw [ti41]
@[simp] theorem ti41_size : (ti Try.prog 41).size = 1 := by rw [ti41]
@[simp] theorem ti41_bytes : (ti Try.prog 41).bytes = 8 := by rw [ti41]
@[simp] theorem ti41_agg : (ti Try.prog 41).agg = false := by rw [ti41]
@[simp] theorem ti41_offs : (ti Try.prog 41).offs = [] := by rw [ti41]
@[simp] theorem ti41_isS : (ti Try.prog 41).isS = false := by rw [ti41]; rfl
@[simp] theorem ti41_isP : (ti Try.prog 41).isP = false := by rw [ti41]; rfl
@[simp] theorem ti41_zs : (ti Try.prog 41).zs = [.int .i64 0] := by rw [ti41]; rfl
@[simp] theorem ti41_hasz : (ti Try.prog 41).hasz = true := by rw [ti41]; rfl
theorem ti47 : ti Try.prog 47 = { ok := true, kd := (.slc 40), eqg := false, size := 1, bytes := 24, agg := false, elem := (some 40), offs := [], flds := none, zero := (some [.nils]) } := by kernel_rfl
@[simp] theorem ti47_ok : (ti Try.prog 47).ok = true := by rw [ti47]
@[simp] theorem ti47_kd : (ti Try.prog 47).kd = (.slc 40) := by rw [ti47]
@[simp] theorem ti47_eqg : (ti Try.prog 47).eqg = false := by rw [ti47]
@[simp] theorem ti47_size : (ti Try.prog 47).size = 1 := by rw [ti47]
@[simp] theorem ti47_bytes : (ti Try.prog 47).bytes = 24 := by rw [ti47]
@[simp] theorem ti47_agg : (ti Try.prog 47).agg = false := by rw [ti47]
@[simp] theorem ti47_offs : (ti Try.prog 47).offs = [] := by rw [ti47]
@[simp] theorem ti47_isS : (ti Try.prog 47).isS = true := by rw [ti47]; rfl
@[simp] theorem ti47_isP : (ti Try.prog 47).isP = false := by rw [ti47]; rfl
@[simp] theorem ti47_el : (ti Try.prog 47).el = 40 := by rw [ti47]; rfl
@[simp] theorem ti47_zs : (ti Try.prog 47).zs = [.nils] := by rw [ti47]; rfl
@[simp] theorem ti47_hasz : (ti Try.prog 47).hasz = true := by rw [ti47]; rfl
theorem ti65 : ti Try.prog 65 = { ok := true, kd := (.ptr 93), eqg := false, size := 1, bytes := 8, agg := false, elem := none, offs := [], flds := none, zero := (some [.nil]) } := by kernel_rfl
@[simp] theorem ti65_ok : (ti Try.prog 65).ok = true := by rw [ti65]
@[simp] theorem ti65_kd : (ti Try.prog 65).kd = (.ptr 93) := by rw [ti65]
@[simp] theorem ti65_eqg : (ti Try.prog 65).eqg = false := by rw [ti65]
@[simp] theorem ti65_size : (ti Try.prog 65).size = 1 := by rw [ti65]
@[simp] theorem ti65_bytes : (ti Try.prog 65).bytes = 8 := by rw [ti65]
@[simp] theorem ti65_agg : (ti Try.prog 65).agg = false := by rw [ti65]
@[simp] theorem ti65_offs : (ti Try.prog 65).offs = [] := by rw [ti65]
@[simp] theorem ti65_isS : (ti Try.prog 65).isS = false := by rw [ti65]; rfl
@[simp] theorem ti65_isP : (ti Try.prog 65).isP = true := by rw [ti65]; rfl
@[simp] theorem ti65_zs : (ti Try.prog 65).zs = [.nil] := by rw [ti65]; rfl
@[simp] theorem ti65_hasz : (ti Try.prog 65).hasz = true := by rw [ti65]; rfl
theorem ti68 : ti Try.prog 68 = { ok := true, kd := .struct, eqg := false, size := 1, bytes := 8, agg := true, elem := none, offs := [some 0], flds := (some [(0, 1)]), zero := (some [.nil]) } := by kernel_rfl
@[simp] theorem ti68_ok : (ti Try.prog 68).ok = true := by rw [ti68]
@[simp] theorem ti68_kd : (ti Try.prog 68).kd = .struct := by rw [ti68]
@[simp] theorem ti68_eqg : (ti Try.prog 68).eqg = false := by rw [ti68]
@[simp] theorem ti68_size : (ti Try.prog 68).size = 1 := by rw [ti68]
@[simp] theorem ti68_bytes : (ti Try.prog 68).bytes = 8 := by rw [ti68]
@[simp] theorem ti68_agg : (ti Try.prog 68).agg = true := by rw [ti68]
@[simp] theorem ti68_offs : (ti Try.prog 68).offs = [some 0] := by rw [ti68]
@[simp] theorem ti68_isS : (ti Try.prog 68).isS = false := by rw [ti68]; rfl
@[simp] theorem ti68_isP : (ti Try.prog 68).isP = false := by rw [ti68]; rfl
@[simp] theorem ti68_zs : (ti Try.prog 68).zs = [.nil] := by rw [ti68]; rfl
@[simp] theorem ti68_hasz : (ti Try.prog 68).hasz = true := by rw [ti68]; rfl
@[simp] theorem ti68_fl : (ti Try.prog 68).fl = [(0, 1)] := by rw [ti68]; rfl
@[simp] theorem ti68_hasf : (ti Try.prog 68).hasf = true := by rw [ti68]; rfl
theorem ti77 : ti Try.prog 77 = { ok := true, kd := (.slc 24), eqg := false, size := 1, bytes := 24, agg := false, elem := (some 24), offs := [], flds := none, zero := (some [.nils]) } := by kernel_rfl
@[simp] theorem ti77_ok : (ti Try.prog 77).ok = true := by rw [ti77]
@[simp] theorem ti77_kd : (ti Try.prog 77).kd = (.slc 24) := by rw [ti77]
@[simp] theorem ti77_eqg : (ti Try.prog 77).eqg = false := by rw [ti77]
@[simp] theorem ti77_size : (ti Try.prog 77).size = 1 := by rw [ti77]
@[simp] theorem ti77_bytes : (ti Try.prog 77).bytes = 24 := by rw [ti77]
@[simp] theorem ti77_agg : (ti Try.prog 77).agg = false := by rw [ti77]
@[simp] theorem ti77_offs : (ti Try.prog 77).offs = [] := by rw [ti77]
@[simp] theorem ti77_isS : (ti Try.prog 77).isS = true := by rw [ti77]; rfl
@[simp] theorem ti77_isP : (ti Try.prog 77).isP = false := by rw [ti77]; rfl
@[simp] theorem ti77_el : (ti Try.prog 77).el = 24 := by rw [ti77]; rfl
@[simp] theorem ti77_zs : (ti Try.prog 77).zs = [.nils] := by rw [ti77]; rfl
@[simp] theorem ti77_hasz : (ti Try.prog 77).hasz = true := by rw [ti77]; rfl
theorem ti86 : ti Try.prog 86 = { ok := true, kd := .func, eqg := false, size := 1, bytes := 8, agg := false, elem := none, offs := [], flds := none, zero := (some [.any]) } := by kernel_rfl
@[simp] theorem ti86_ok : (ti Try.prog 86).ok = true := by rw [ti86]
@[simp] theorem ti86_kd : (ti Try.prog 86).kd = .func := by rw [ti86]
@[simp] theorem ti86_eqg : (ti Try.prog 86).eqg = false := by rw [ti86]
@[simp] theorem ti86_size : (ti Try.prog 86).size = 1 := by rw [ti86]
@[simp] theorem ti86_bytes : (ti Try.prog 86).bytes = 8 := by rw [ti86]
@[simp] theorem ti86_agg : (ti Try.prog 86).agg = false := by rw [ti86]
@[simp] theorem ti86_offs : (ti Try.prog 86).offs = [] := by rw [ti86]
@[simp] theorem ti86_isS : (ti Try.prog 86).isS = false := by rw [ti86]; rfl
@[simp] theorem ti86_isP : (ti Try.prog 86).isP = false := by rw [ti86]; rfl
@[simp] theorem ti86_zs : (ti Try.prog 86).zs = [.any] := by rw [ti86]; rfl
@[simp] theorem ti86_hasz : (ti Try.prog 86).hasz = true := by rw [ti86]; rfl
theorem ti91 : ti Try.prog 91 = { ok := true, kd := (.slc 96), eqg := false, size := 1, bytes := 24, agg := false, elem := (some 96), offs := [], flds := none, zero := (some [.nils]) } := by kernel_rfl
@[simp] theorem ti91_ok : (ti Try.prog 91).ok = true := by rw [ti91]
@[simp] theorem ti91_kd : (ti Try.prog 91).kd = (.slc 96) := by rw [ti91]
@[simp] theorem ti91_eqg : (ti Try.prog 91).eqg = false := by rw [ti91]
@[simp] theorem ti91_size : (ti Try.prog 91).size = 1 := by rw [ti91]
@[simp] theorem ti91_bytes : (ti Try.prog 91).bytes = 24 := by rw [ti91]
@[simp] theorem ti91_agg : (ti Try.prog 91).agg = false := by rw [ti91]
@[simp] theorem ti91_offs : (ti Try.prog 91).offs = [] := by rw [ti91]
@[simp] theorem ti91_isS : (ti Try.prog 91).isS = true := by rw [ti91]; rfl
@[simp] theorem ti91_isP : (ti Try.prog 91).isP = false := by rw [ti91]; rfl
@[simp] theorem ti91_el : (ti Try.prog 91).el = 96 := by rw [ti91]; rfl
@[simp] theorem ti91_zs : (ti Try.prog 91).zs = [.nils] := by rw [ti91]; rfl
@[simp] theorem ti91_hasz : (ti Try.prog 91).hasz = true := by rw [ti91]; rfl
theorem ti93 : ti Try.prog 93 = { ok := true, kd := .struct, eqg := false, size := 2, bytes := 32, agg := true, elem := none, offs := [some 0, some 1], flds := (some [(0, 1), (1, 1)]), zero := (some [.nils, .int .i64 0]) } := by kernel_rfl
@[simp] theorem ti93_ok : (ti Try.prog 93).ok = true := by rw [ti93]
@[simp] theorem ti93_kd : (ti Try.prog 93).kd = .struct := by rw [ti93]
@[simp] theorem ti93_eqg : (ti Try.prog 93).eqg = false := by rw [ti93]
@[simp] theorem ti93_size : (ti Try.prog 93).size = 2 := by rw [ti93]
@[simp] theorem ti93_bytes : (ti Try.prog 93).bytes = 32 := by rw [ti93]
@[simp] theorem ti93_agg : (ti Try.prog 93).agg = true := by rw [ti93]
@[simp] theorem ti93_offs : (ti Try.prog 93).offs = [some 0, some 1] := by rw [ti93]
@[simp] theorem ti93_isS : (ti Try.prog 93).isS = false := by rw [ti93]; rfl
@[simp] theorem ti93_isP : (ti Try.prog 93).isP = false := by rw [ti93]; rfl
@[simp] theorem ti93_zs : (ti Try.prog 93).zs = [.nils, .int .i64 0] := by rw [ti93]; rfl
@[simp] theorem ti93_hasz : (ti Try.prog 93).hasz = true := by rw [ti93]; rfl
@[simp] theorem ti93_fl : (ti Try.prog 93).fl = [(0, 1), (1, 1)] := by rw [ti93]; rfl
@[simp] theorem ti93_hasf : (ti Try.prog 93).hasf = true := by rw [ti93]; rfl
theorem ti96 : ti Try.prog 96 = { ok := true, kd := .struct, eqg := false, size := 8, bytes := 80, agg := true, elem := none, offs := [some 0, some 1], flds := (some [(0, 1), (1, 7)]), zero := (some [.int .u64 0, .int .u64 0, .int .u32 0, .int .i64 0, .int .i64 0, .str ByteArray.empty, .str ByteArray.empty, .int .i64 0]) } := by kernel_rfl
@[simp] theorem ti96_ok : (ti Try.prog 96).ok = true := by rw [ti96]
@[simp] theorem ti96_kd : (ti Try.prog 96).kd = .struct := by rw [ti96]
@[simp] theorem ti96_eqg : (ti Try.prog 96).eqg = false := by rw [ti96]
@[simp] theorem ti96_size : (ti Try.prog 96).size = 8 := by rw [ti96]
@[simp] theorem ti96_bytes : (ti Try.prog 96).bytes = 80 := by rw [ti96]
@[simp] theorem ti96_agg : (ti Try.prog 96).agg = true := by rw [ti96]
@[simp] theorem ti96_offs : (ti Try.prog 96).offs = [some 0, some 1] := by rw [ti96]
@[simp] theorem ti96_isS : (ti Try.prog 96).isS = false := by rw [ti96]; rfl
@[simp] theorem ti96_isP : (ti Try.prog 96).isP = false := by rw [ti96]; rfl
@[simp] theorem ti96_zs : (ti Try.prog 96).zs = [.int .u64 0, .int .u64 0, .int .u32 0, .int .i64 0, .int .i64 0, .str ByteArray.empty, .str ByteArray.empty, .int .i64 0] := by rw [ti96]; rfl
@[simp] theorem ti96_hasz : (ti Try.prog 96).hasz = true := by rw [ti96]; rfl
@[simp] theorem ti96_fl : (ti Try.prog 96).fl = [(0, 1), (1, 7)] := by rw [ti96]; rfl
@[simp] theorem ti96_hasf : (ti Try.prog 96).hasf = true := by rw [ti96]; rfl
theorem ti98 : ti Try.prog 98 = { ok := true, kd := .func, eqg := false, size := 1, bytes := 8, agg := false, elem := none, offs := [], flds := none, zero := (some [.any]) } := by kernel_rfl
@[simp] theorem ti98_ok : (ti Try.prog 98).ok = true := by rw [ti98]
@[simp] theorem ti98_kd : (ti Try.prog 98).kd = .func := by rw [ti98]
@[simp] theorem ti98_eqg : (ti Try.prog 98).eqg = false := by rw [ti98]
@[simp] theorem ti98_size : (ti Try.prog 98).size = 1 := by rw [ti98]
@[simp] theorem ti98_bytes : (ti Try.prog 98).bytes = 8 := by rw [ti98]
@[simp] theorem ti98_agg : (ti Try.prog 98).agg = false := by rw [ti98]
@[simp] theorem ti98_offs : (ti Try.prog 98).offs = [] := by rw [ti98]
@[simp] theorem ti98_isS : (ti Try.prog 98).isS = false := by rw [ti98]; rfl
@[simp] theorem ti98_isP : (ti Try.prog 98).isP = false := by rw [ti98]; rfl
@[simp] theorem ti98_zs : (ti Try.prog 98).zs = [.any] := by rw [ti98]; rfl
@[simp] theorem ti98_hasz : (ti Try.prog 98).hasz = true := by rw [ti98]; rfl
@[simp] theorem ca3 : callable Try.prog 3 = true := by kernel_rfl
@[simp] theorem ca4 : callable Try.prog 4 = true := by kernel_rfl
@[simp] theorem ca5 : callable Try.prog 5 = true := by kernel_rfl
@[simp] theorem ca6 : callable Try.prog 6 = true := by kernel_rfl
@[simp] theorem ca7 : callable Try.prog 7 = true := by kernel_rfl
@[simp] theorem ca8 : callable Try.prog 8 = true := by kernel_rfl
@[simp] theorem ca9 : callable Try.prog 9 = true := by kernel_rfl
@[simp] theorem ca10 : callable Try.prog 10 = true := by kernel_rfl
@[simp] theorem ca11 : callable Try.prog 11 = true := by kernel_rfl
@[simp] theorem ca12 : callable Try.prog 12 = true := by kernel_rfl
@[simp] theorem ca13 : callable Try.prog 13 = true := by kernel_rfl
@[simp] theorem ca14 : callable Try.prog 14 = true := by kernel_rfl
@[simp] theorem ca15 : callable Try.prog 15 = true := by kernel_rfl
@[simp] theorem ca16 : callable Try.prog 16 = true := by kernel_rfl
@[simp] theorem ca17 : callable Try.prog 17 = true := by kernel_rfl
@[simp] theorem ca18 : callable Try.prog 18 = true := by kernel_rfl
@[simp] theorem ca19 : callable Try.prog 19 = true := by kernel_rfl
@[simp] theorem ca20 : callable Try.prog 20 = true := by kernel_rfl
@[simp] theorem ca21 : callable Try.prog 21 = true := by kernel_rfl
@[simp] theorem ca22 : callable Try.prog 22 = true := by kernel_rfl
@[simp] theorem ca23 : callable Try.prog 23 = true := by kernel_rfl
@[simp] theorem ca24 : callable Try.prog 24 = true := by kernel_rfl
@[simp] theorem ca25 : callable Try.prog 25 = true := by kernel_rfl
@[simp] theorem ca26 : callable Try.prog 26 = true := by kernel_rfl
@[simp] theorem ca27 : callable Try.prog 27 = true := by kernel_rfl
@[simp] theorem ca28 : callable Try.prog 28 = true := by kernel_rfl
@[simp] theorem ca29 : callable Try.prog 29 = true := by kernel_rfl
@[simp] theorem ca30 : callable Try.prog 30 = true := by kernel_rfl
@[simp] theorem ca31 : callable Try.prog 31 = true := by kernel_rfl
@[simp] theorem ca32 : callable Try.prog 32 = true := by kernel_rfl
@[simp] theorem ca33 : callable Try.prog 33 = true := by kernel_rfl
@[simp] theorem ca34 : callable Try.prog 34 = true := by kernel_rfl
@[simp] theorem ca35 : callable Try.prog 35 = true := by kernel_rfl
@[simp] theorem ca36 : callable Try.prog 36 = true := by kernel_rfl
@[simp] theorem ca37 : callable Try.prog 37 = true := by kernel_rfl
@[simp] theorem ca38 : callable Try.prog 38 = true := by kernel_rfl
@[simp] theorem ca39 : callable Try.prog 39 = true := by kernel_rfl
@[simp] theorem ca40 : callable Try.prog 40 = true := by kernel_rfl
@[simp] theorem ca41 : callable Try.prog 41 = true := by kernel_rfl
@[simp] theorem ca42 : callable Try.prog 42 = true := by kernel_rfl
@[simp] theorem ca43 : callable Try.prog 43 = true := by kernel_rfl
@[simp] theorem ca44 : callable Try.prog 44 = true := by kernel_rfl
@[simp] theorem ca45 : callable Try.prog 45 = true := by kernel_rfl
@[simp] theorem ca46 : callable Try.prog 46 = true := by kernel_rfl
@[simp] theorem ca47 : callable Try.prog 47 = true := by kernel_rfl
@[simp] theorem ca48 : callable Try.prog 48 = true := by kernel_rfl
@[simp] theorem ca49 : callable Try.prog 49 = true := by kernel_rfl
@[simp] theorem ca50 : callable Try.prog 50 = true := by kernel_rfl
@[simp] theorem ca51 : callable Try.prog 51 = true := by kernel_rfl
@[simp] theorem ca52 : callable Try.prog 52 = true := by kernel_rfl
@[simp] theorem ca53 : callable Try.prog 53 = true := by kernel_rfl
@[simp] theorem ca54 : callable Try.prog 54 = true := by kernel_rfl
@[simp] theorem ca55 : callable Try.prog 55 = true := by kernel_rfl
@[simp] theorem ca56 : callable Try.prog 56 = true := by kernel_rfl
@[simp] theorem ca57 : callable Try.prog 57 = true := by kernel_rfl
@[simp] theorem ca58 : callable Try.prog 58 = true := by kernel_rfl
@[simp] theorem ca59 : callable Try.prog 59 = true := by kernel_rfl
@[simp] theorem ca60 : callable Try.prog 60 = true := by kernel_rfl
@[simp] theorem ca61 : callable Try.prog 61 = false := by kernel_rfl
@[simp] theorem ca62 : callable Try.prog 62 = true := by kernel_rfl
@[simp] theorem ca63 : callable Try.prog 63 = true := by kernel_rfl
@[simp] theorem ca64 : callable Try.prog 64 = true := by kernel_rfl
/-- equality of type 24: ostiary/api.Place -/
def eqS24 (x0 y0 : Int) (x1 y1 : Int) : Bool := decide (x0 = y0 ∧ x1 = y1)
theorem eqS24_iff {x0 y0 : Int} {x1 y1 : Int} : eqS24 x0 y0 x1 y1 = true ↔ x0 = y0 ∧ x1 = y1 := by simp [eqS24]
theorem eqS24_no {x0 y0 : Int} {x1 y1 : Int} : eqS24 x0 y0 x1 y1 = false ↔ ¬ (x0 = y0 ∧ x1 = y1) := by simp [eqS24]
theorem eqA24_ (x0 y0 : Int) (x1 y1 : Int) : eqA Try.prog 10000 24 (.agg [.int .i64 x0, .int .i64 x1]) (.agg [.int .i64 y0, .int .i64 y1]) = some (decide (x0 = y0) && (decide (x1 = y1) && true)) := by kernel_rfl
@[simp] theorem eqA24 (x0 y0 : Int) (x1 y1 : Int) : eqA Try.prog 10000 24 (.agg [.int .i64 x0, .int .i64 x1]) (.agg [.int .i64 y0, .int .i64 y1]) = some (eqS24 x0 y0 x1 y1) := by rw [eqA24_]; simp only [ba_eq, eqS24]; congr 1; rw [Bool.eq_iff_iff]; simp [and_assoc]
/-- equality of type 31: ostiary/ostiaryref25.Binding -/
def eqS31 (x0 y0 : Int) (x1 y1 : Int) (x2 y2 : Int) (x3 y3 : Int) (x4 y4 : ByteArray) (x5 y5 : ByteArray) (x6 y6 : Int) : Bool := decide (x0 = y0 ∧ x1 = y1 ∧ x2 = y2 ∧ x3 = y3 ∧ x4 = y4 ∧ x5 = y5 ∧ x6 = y6)
theorem eqS31_iff {x0 y0 : Int} {x1 y1 : Int} {x2 y2 : Int} {x3 y3 : Int} {x4 y4 : ByteArray} {x5 y5 : ByteArray} {x6 y6 : Int} : eqS31 x0 y0 x1 y1 x2 y2 x3 y3 x4 y4 x5 y5 x6 y6 = true ↔ x0 = y0 ∧ x1 = y1 ∧ x2 = y2 ∧ x3 = y3 ∧ x4 = y4 ∧ x5 = y5 ∧ x6 = y6 := by simp [eqS31]
theorem eqS31_no {x0 y0 : Int} {x1 y1 : Int} {x2 y2 : Int} {x3 y3 : Int} {x4 y4 : ByteArray} {x5 y5 : ByteArray} {x6 y6 : Int} : eqS31 x0 y0 x1 y1 x2 y2 x3 y3 x4 y4 x5 y5 x6 y6 = false ↔ ¬ (x0 = y0 ∧ x1 = y1 ∧ x2 = y2 ∧ x3 = y3 ∧ x4 = y4 ∧ x5 = y5 ∧ x6 = y6) := by simp [eqS31]
theorem eqA31_ (x0 y0 : Int) (x1 y1 : Int) (x2 y2 : Int) (x3 y3 : Int) (x4 y4 : ByteArray) (x5 y5 : ByteArray) (x6 y6 : Int) : eqA Try.prog 10000 31 (.agg [.int .u64 x0, .int .u32 x1, .int .i64 x2, .int .i64 x3, .str x4, .str x5, .int .i64 x6]) (.agg [.int .u64 y0, .int .u32 y1, .int .i64 y2, .int .i64 y3, .str y4, .str y5, .int .i64 y6]) = some (decide (x0 = y0) && (decide (x1 = y1) && ((decide (x2 = y2) && (decide (x3 = y3) && true)) && ((x4.toList == y4.toList) && ((x5.toList == y5.toList) && (decide (x6 = y6) && true)))))) := by kernel_rfl
@[simp] theorem eqA31 (x0 y0 : Int) (x1 y1 : Int) (x2 y2 : Int) (x3 y3 : Int) (x4 y4 : ByteArray) (x5 y5 : ByteArray) (x6 y6 : Int) : eqA Try.prog 10000 31 (.agg [.int .u64 x0, .int .u32 x1, .int .i64 x2, .int .i64 x3, .str x4, .str x5, .int .i64 x6]) (.agg [.int .u64 y0, .int .u32 y1, .int .i64 y2, .int .i64 y3, .str y4, .str y5, .int .i64 y6]) = some (eqS31 x0 y0 x1 y1 x2 y2 x3 y3 x4 y4 x5 y5 x6 y6) := by rw [eqA31_]; simp only [ba_eq, eqS31]; congr 1; rw [Bool.eq_iff_iff]; simp [and_assoc]
end Go.Proofs.Ytmomphnkngbgjaa
