import Derived.Test.YteifakkknhfdpaaAl2
import Derived.Test.YteifakkknhfdpaaProg
import Derived.KernelRfl
set_option linter.unusedVariables false
set_option linter.unusedSimpArgs false
set_option maxRecDepth 100000
namespace Go.Proofs.Yteifakkknhfdpaa
open Go Go.Al
theorem mixed : Try.prog.follows .mixedOrders = true := by kernel_rfl
theorem ti3 : ti Try.prog 3 = { ok := true, kd := (.int .i64), eqg := false, size := 1, bytes := 8, agg := false, elem := none, offs := [], flds := none, zero := (some [.int .i64 0]) } := by kernel_rfl
@[simp] theorem ti3_ok : (ti Try.prog 3).ok = true := by rw [ti3]
@[simp] theorem ti3_kd : (ti Try.prog 3).kd = (.int .i64) := by rw [ti3]
@[simp] theorem ti3_eqg : (ti Try.prog 3).eqg = false := by rw [ti3]
@[simp] theorem ti3_size : (ti Try.prog 3).size = 1 := by rw [ti3]
@[simp] theorem ti3_bytes : (ti Try.prog 3).bytes = 8 := by rw [ti3]
@[simp] theorem ti3_agg : (ti Try.prog 3).agg = false := by rw [ti3]
@[simp] theorem ti3_offs : (ti Try.prog 3).offs = [] := by rw [ti3]
@[simp] theorem ti3_isS : (ti Try.prog 3).isS = false := by rw [ti3]; rfl
@[simp] theorem ti3_isP : (ti Try.prog 3).isP = false := by rw [ti3]; rfl
@[simp] theorem ti3_zs : (ti Try.prog 3).zs = [.int .i64 0] := by rw [ti3]; rfl
@[simp] theorem ti3_hasz : (ti Try.prog 3).hasz = true := by rw [ti3]; rfl
theorem ti4 : ti Try.prog 4 = { ok := true, kd := .bool, eqg := false, size := 1, bytes := 1, agg := false, elem := none, offs := [], flds := none, zero := (some [.bool false]) } := by kernel_rfl
@[simp] theorem ti4_ok : (ti Try.prog 4).ok = true := by rw [ti4]
@[simp] theorem ti4_kd : (ti Try.prog 4).kd = .bool := by rw [ti4]
@[simp] theorem ti4_eqg : (ti Try.prog 4).eqg = false := by rw [ti4]
@[simp] theorem ti4_size : (ti Try.prog 4).size = 1 := by rw [ti4]
@[simp] theorem ti4_bytes : (ti Try.prog 4).bytes = 1 := by rw [ti4]
@[simp] theorem ti4_agg : (ti Try.prog 4).agg = false := by rw [ti4]
@[simp] theorem ti4_offs : (ti Try.prog 4).offs = [] := by rw [ti4]
@[simp] theorem ti4_isS : (ti Try.prog 4).isS = false := by rw [ti4]; rfl
@[simp] theorem ti4_isP : (ti Try.prog 4).isP = false := by rw [ti4]; rfl
@[simp] theorem ti4_zs : (ti Try.prog 4).zs = [.bool false] := by rw [ti4]; rfl
@[simp] theorem ti4_hasz : (ti Try.prog 4).hasz = true := by rw [ti4]; rfl
theorem ti9 : ti Try.prog 9 = { ok := true, kd := .str, eqg := false, size := 1, bytes := 16, agg := false, elem := none, offs := [], flds := none, zero := (some [.str ByteArray.empty]) } := by kernel_rfl
@[simp] theorem ti9_ok : (ti Try.prog 9).ok = true := by rw [ti9]
@[simp] theorem ti9_kd : (ti Try.prog 9).kd = .str := by rw [ti9]
@[simp] theorem ti9_eqg : (ti Try.prog 9).eqg = false := by rw [ti9]
@[simp] theorem ti9_size : (ti Try.prog 9).size = 1 := by rw [ti9]
@[simp] theorem ti9_bytes : (ti Try.prog 9).bytes = 16 := by rw [ti9]
@[simp] theorem ti9_agg : (ti Try.prog 9).agg = false := by rw [ti9]
@[simp] theorem ti9_offs : (ti Try.prog 9).offs = [] := by rw [ti9]
@[simp] theorem ti9_isS : (ti Try.prog 9).isS = false := by rw [ti9]; rfl
@[simp] theorem ti9_isP : (ti Try.prog 9).isP = false := by rw [ti9]; rfl
@[simp] theorem ti9_zs : (ti Try.prog 9).zs = [.str ByteArray.empty] := by rw [ti9]; rfl
@[simp] theorem ti9_hasz : (ti Try.prog 9).hasz = true := by rw [ti9]; rfl
theorem ti22 : ti Try.prog 22 = { ok := true, kd := (.slc 3), eqg := false, size := 1, bytes := 24, agg := false, elem := (some 3), offs := [], flds := none, zero := (some [.nils]) } := by kernel_rfl
@[simp] theorem ti22_ok : (ti Try.prog 22).ok = true := by rw [ti22]
@[simp] theorem ti22_kd : (ti Try.prog 22).kd = (.slc 3) := by rw [ti22]
@[simp] theorem ti22_eqg : (ti Try.prog 22).eqg = false := by rw [ti22]
@[simp] theorem ti22_size : (ti Try.prog 22).size = 1 := by rw [ti22]
@[simp] theorem ti22_bytes : (ti Try.prog 22).bytes = 24 := by rw [ti22]
@[simp] theorem ti22_agg : (ti Try.prog 22).agg = false := by rw [ti22]
@[simp] theorem ti22_offs : (ti Try.prog 22).offs = [] := by rw [ti22]
@[simp] theorem ti22_isS : (ti Try.prog 22).isS = true := by rw [ti22]; rfl
@[simp] theorem ti22_isP : (ti Try.prog 22).isP = false := by rw [ti22]; rfl
@[simp] theorem ti22_el : (ti Try.prog 22).el = 3 := by rw [ti22]; rfl
@[simp] theorem ti22_zs : (ti Try.prog 22).zs = [.nils] := by rw [ti22]; rfl
@[simp] theorem ti22_hasz : (ti Try.prog 22).hasz = true := by rw [ti22]; rfl
theorem ti23 : ti Try.prog 23 = { ok := true, kd := (.ptr 61), eqg := false, size := 1, bytes := 8, agg := false, elem := none, offs := [], flds := none, zero := (some [.nil]) } := by kernel_rfl
@[simp] theorem ti23_ok : (ti Try.prog 23).ok = true := by rw [ti23]
@[simp] theorem ti23_kd : (ti Try.prog 23).kd = (.ptr 61) := by rw [ti23]
@[simp] theorem ti23_eqg : (ti Try.prog 23).eqg = false := by rw [ti23]
@[simp] theorem ti23_size : (ti Try.prog 23).size = 1 := by rw [ti23]
@[simp] theorem ti23_bytes : (ti Try.prog 23).bytes = 8 := by rw [ti23]
@[simp] theorem ti23_agg : (ti Try.prog 23).agg = false := by rw [ti23]
@[simp] theorem ti23_offs : (ti Try.prog 23).offs = [] := by rw [ti23]
@[simp] theorem ti23_isS : (ti Try.prog 23).isS = false := by rw [ti23]; rfl
@[simp] theorem ti23_isP : (ti Try.prog 23).isP = true := by rw [ti23]; rfl
@[simp] theorem ti23_zs : (ti Try.prog 23).zs = [.nil] := by rw [ti23]; rfl
@[simp] theorem ti23_hasz : (ti Try.prog 23).hasz = true := by rw [ti23]; rfl
theorem ti25 : ti Try.prog 25 = { ok := true, kd := (.int .i64), eqg := false, size := 1, bytes := 8, agg := false, elem := none, offs := [], flds := none, zero := (some [.int .i64 0]) } := by kernel_rfl
@[simp] theorem ti25_ok : (ti Try.prog 25).ok = true := by rw [ti25]
@[simp] theorem ti25_kd : (ti Try.prog 25).kd = (.int .i64) := by rw [ti25]
@[simp] theorem ti25_eqg : (ti Try.prog 25).eqg = false := by rw [ti25]
@[simp] theorem ti25_size : (ti Try.prog 25).size = 1 := by rw [ti25]
@[simp] theorem ti25_bytes : (ti Try.prog 25).bytes = 8 := by rw [ti25]
@[simp] theorem ti25_agg : (ti Try.prog 25).agg = false := by rw [ti25]
@[simp] theorem ti25_offs : (ti Try.prog 25).offs = [] := by rw [ti25]
@[simp] theorem ti25_isS : (ti Try.prog 25).isS = false := by rw [ti25]; rfl
@[simp] theorem ti25_isP : (ti Try.prog 25).isP = false := by rw [ti25]; rfl
@[simp] theorem ti25_zs : (ti Try.prog 25).zs = [.int .i64 0] := by rw [ti25]; rfl
@[simp] theorem ti25_hasz : (ti Try.prog 25).hasz = true := by rw [ti25]; rfl
theorem ti33 : ti Try.prog 33 = { ok := true, kd := (.slc 37), eqg := false, size := 1, bytes := 24, agg := false, elem := (some 37), offs := [], flds := none, zero := (some [.nils]) } := by kernel_rfl
@[simp] theorem ti33_ok : (ti Try.prog 33).ok = true := by rw [ti33]
@[simp] theorem ti33_kd : (ti Try.prog 33).kd = (.slc 37) := by rw [ti33]
@[simp] theorem ti33_eqg : (ti Try.prog 33).eqg = false := by rw [ti33]
@[simp] theorem ti33_size : (ti Try.prog 33).size = 1 := by rw [ti33]
@[simp] theorem ti33_bytes : (ti Try.prog 33).bytes = 24 := by rw [ti33]
@[simp] theorem ti33_agg : (ti Try.prog 33).agg = false := by rw [ti33]
@[simp] theorem ti33_offs : (ti Try.prog 33).offs = [] := by rw [ti33]
@[simp] theorem ti33_isS : (ti Try.prog 33).isS = true := by rw [ti33]; rfl
@[simp] theorem ti33_isP : (ti Try.prog 33).isP = false := by rw [ti33]; rfl
@[simp] theorem ti33_el : (ti Try.prog 33).el = 37 := by rw [ti33]; rfl
@[simp] theorem ti33_zs : (ti Try.prog 33).zs = [.nils] := by rw [ti33]; rfl
@[simp] theorem ti33_hasz : (ti Try.prog 33).hasz = true := by rw [ti33]; rfl
theorem ti34 : ti Try.prog 34 = { ok := true, kd := (.ptr 71), eqg := false, size := 1, bytes := 8, agg := false, elem := none, offs := [], flds := none, zero := (some [.nil]) } := by kernel_rfl
@[simp] theorem ti34_ok : (ti Try.prog 34).ok = true := by rw [ti34]
@[simp] theorem ti34_kd : (ti Try.prog 34).kd = (.ptr 71) := by rw [ti34]
@[simp] theorem ti34_eqg : (ti Try.prog 34).eqg = false := by rw [ti34]
@[simp] theorem ti34_size : (ti Try.prog 34).size = 1 := by rw [ti34]
@[simp] theorem ti34_bytes : (ti Try.prog 34).bytes = 8 := by rw [ti34]
@[simp] theorem ti34_agg : (ti Try.prog 34).agg = false := by rw [ti34]
@[simp] theorem ti34_offs : (ti Try.prog 34).offs = [] := by rw [ti34]
@[simp] theorem ti34_isS : (ti Try.prog 34).isS = false := by rw [ti34]; rfl
@[simp] theorem ti34_isP : (ti Try.prog 34).isP = true := by rw [ti34]; rfl
@[simp] theorem ti34_zs : (ti Try.prog 34).zs = [.nil] := by rw [ti34]; rfl
@[simp] theorem ti34_hasz : (ti Try.prog 34).hasz = true := by rw [ti34]; rfl
theorem ti37 : ti Try.prog 37 = { ok := true, kd := .struct, eqg := false, size := 6, bytes := 64, agg := true, elem := none, offs := [some 0, some 1, some 2, some 3, some 4, some 5], flds := (some [(0, 1), (1, 1), (2, 1), (3, 1), (4, 1), (5, 1)]), zero := (some [.int .i64 0, .int .i64 0, .int .i64 0, .int .i64 0, .str ByteArray.empty, .str ByteArray.empty]) } := by kernel_rfl
@[simp] theorem ti37_ok : (ti Try.prog 37).ok = true := by rw [ti37]
@[simp] theorem ti37_kd : (ti Try.prog 37).kd = .struct := by rw [ti37]
@[simp] theorem ti37_eqg : (ti Try.prog 37).eqg = false := by rw [ti37]
@[simp] theorem ti37_size : (ti Try.prog 37).size = 6 := by rw [ti37]
@[simp] theorem ti37_bytes : (ti Try.prog 37).bytes = 64 := by rw [ti37]
@[simp] theorem ti37_agg : (ti Try.prog 37).agg = true := by rw [ti37]
@[simp] theorem ti37_offs : (ti Try.prog 37).offs = [some 0, some 1, some 2, some 3, some 4, some 5] := by rw [ti37]
@[simp] theorem ti37_isS : (ti Try.prog 37).isS = false := by rw [ti37]; rfl
@[simp] theorem ti37_isP : (ti Try.prog 37).isP = false := by rw [ti37]; rfl
@[simp] theorem ti37_zs : (ti Try.prog 37).zs = [.int .i64 0, .int .i64 0, .int .i64 0, .int .i64 0, .str ByteArray.empty, .str ByteArray.empty] := by rw [ti37]; rfl
@[simp] theorem ti37_hasz : (ti Try.prog 37).hasz = true := by rw [ti37]; rfl
@[simp] theorem ti37_fl : (ti Try.prog 37).fl = [(0, 1), (1, 1), (2, 1), (3, 1), (4, 1), (5, 1)] := by rw [ti37]; rfl
@[simp] theorem ti37_hasf : (ti Try.prog 37).hasf = true := by rw [ti37]; rfl
theorem ti48 : ti Try.prog 48 = { ok := true, kd := (.ptr 78), eqg := false, size := 1, bytes := 8, agg := false, elem := none, offs := [], flds := none, zero := (some [.nil]) } := by kernel_rfl
@[simp] theorem ti48_ok : (ti Try.prog 48).ok = true := by rw [ti48]
@[simp] theorem ti48_kd : (ti Try.prog 48).kd = (.ptr 78) := by rw [ti48]
@[simp] theorem ti48_eqg : (ti Try.prog 48).eqg = false := by rw [ti48]
@[simp] theorem ti48_size : (ti Try.prog 48).size = 1 := by rw [ti48]
@[simp] theorem ti48_bytes : (ti Try.prog 48).bytes = 8 := by rw [ti48]
@[simp] theorem ti48_agg : (ti Try.prog 48).agg = false := by rw [ti48]
@[simp] theorem ti48_offs : (ti Try.prog 48).offs = [] := by rw [ti48]
@[simp] theorem ti48_isS : (ti Try.prog 48).isS = false := by rw [ti48]; rfl
@[simp] theorem ti48_isP : (ti Try.prog 48).isP = true := by rw [ti48]; rfl
@[simp] theorem ti48_zs : (ti Try.prog 48).zs = [.nil] := by rw [ti48]; rfl
@[simp] theorem ti48_hasz : (ti Try.prog 48).hasz = true := by rw [ti48]; rfl
theorem ti50 : ti Try.prog 50 = { ok := true, kd := (.slc 52), eqg := false, size := 1, bytes := 24, agg := false, elem := (some 52), offs := [], flds := none, zero := (some [.nils]) } := by kernel_rfl
@[simp] theorem ti50_ok : (ti Try.prog 50).ok = true := by rw [ti50]
@[simp] theorem ti50_kd : (ti Try.prog 50).kd = (.slc 52) := by rw [ti50]
@[simp] theorem ti50_eqg : (ti Try.prog 50).eqg = false := by rw [ti50]
@[simp] theorem ti50_size : (ti Try.prog 50).size = 1 := by rw [ti50]
@[simp] theorem ti50_bytes : (ti Try.prog 50).bytes = 24 := by rw [ti50]
@[simp] theorem ti50_agg : (ti Try.prog 50).agg = false := by rw [ti50]
@[simp] theorem ti50_offs : (ti Try.prog 50).offs = [] := by rw [ti50]
@[simp] theorem ti50_isS : (ti Try.prog 50).isS = true := by rw [ti50]; rfl
@[simp] theorem ti50_isP : (ti Try.prog 50).isP = false := by rw [ti50]; rfl
@[simp] theorem ti50_el : (ti Try.prog 50).el = 52 := by rw [ti50]; rfl
@[simp] theorem ti50_zs : (ti Try.prog 50).zs = [.nils] := by rw [ti50]; rfl
@[simp] theorem ti50_hasz : (ti Try.prog 50).hasz = true := by rw [ti50]; rfl
theorem ti52 : ti Try.prog 52 = { ok := true, kd := .struct, eqg := false, size := 2, bytes := 24, agg := true, elem := none, offs := [some 0, some 1], flds := (some [(0, 1), (1, 1)]), zero := (some [.str ByteArray.empty, .int .i64 0]) } := by kernel_rfl
@[simp] theorem ti52_ok : (ti Try.prog 52).ok = true := by rw [ti52]
@[simp] theorem ti52_kd : (ti Try.prog 52).kd = .struct := by rw [ti52]
@[simp] theorem ti52_eqg : (ti Try.prog 52).eqg = false := by rw [ti52]
@[simp] theorem ti52_size : (ti Try.prog 52).size = 2 := by rw [ti52]
@[simp] theorem ti52_bytes : (ti Try.prog 52).bytes = 24 := by rw [ti52]
@[simp] theorem ti52_agg : (ti Try.prog 52).agg = true := by rw [ti52]
@[simp] theorem ti52_offs : (ti Try.prog 52).offs = [some 0, some 1] := by rw [ti52]
@[simp] theorem ti52_isS : (ti Try.prog 52).isS = false := by rw [ti52]; rfl
@[simp] theorem ti52_isP : (ti Try.prog 52).isP = false := by rw [ti52]; rfl
@[simp] theorem ti52_zs : (ti Try.prog 52).zs = [.str ByteArray.empty, .int .i64 0] := by rw [ti52]; rfl
@[simp] theorem ti52_hasz : (ti Try.prog 52).hasz = true := by rw [ti52]; rfl
@[simp] theorem ti52_fl : (ti Try.prog 52).fl = [(0, 1), (1, 1)] := by rw [ti52]; rfl
@[simp] theorem ti52_hasf : (ti Try.prog 52).hasf = true := by rw [ti52]; rfl
theorem ti57 : ti Try.prog 57 = { ok := true, kd := (.slc 9), eqg := false, size := 1, bytes := 24, agg := false, elem := (some 9), offs := [], flds := none, zero := (some [.nils]) } := by kernel_rfl
@[simp] theorem ti57_ok : (ti Try.prog 57).ok = true := by rw [ti57]
@[simp] theorem ti57_kd : (ti Try.prog 57).kd = (.slc 9) := by rw [ti57]
@[simp] theorem ti57_eqg : (ti Try.prog 57).eqg = false := by rw [ti57]
@[simp] theorem ti57_size : (ti Try.prog 57).size = 1 := by rw [ti57]
@[simp] theorem ti57_bytes : (ti Try.prog 57).bytes = 24 := by rw [ti57]
@[simp] theorem ti57_agg : (ti Try.prog 57).agg = false := by rw [ti57]
@[simp] theorem ti57_offs : (ti Try.prog 57).offs = [] := by rw [ti57]
@[simp] theorem ti57_isS : (ti Try.prog 57).isS = true := by rw [ti57]; rfl
@[simp] theorem ti57_isP : (ti Try.prog 57).isP = false := by rw [ti57]; rfl
@[simp] theorem ti57_el : (ti Try.prog 57).el = 9 := by rw [ti57]; rfl
@[simp] theorem ti57_zs : (ti Try.prog 57).zs = [.nils] := by rw [ti57]; rfl
@[simp] theorem ti57_hasz : (ti Try.prog 57).hasz = true := by rw [ti57]; rfl
theorem ti59 : ti Try.prog 59 = { ok := true, kd := (.slc 63), eqg := false, size := 1, bytes := 24, agg := false, elem := (some 63), offs := [], flds := none, zero := (some [.nils]) } := by kernel_rfl
@[simp] theorem ti59_ok : (ti Try.prog 59).ok = true := by rw [ti59]
@[simp] theorem ti59_kd : (ti Try.prog 59).kd = (.slc 63) := by rw [ti59]
@[simp] theorem ti59_eqg : (ti Try.prog 59).eqg = false := by rw [ti59]
@[simp] theorem ti59_size : (ti Try.prog 59).size = 1 := by rw [ti59]
@[simp] theorem ti59_bytes : (ti Try.prog 59).bytes = 24 := by rw [ti59]
@[simp] theorem ti59_agg : (ti Try.prog 59).agg = false := by rw [ti59]
@[simp] theorem ti59_offs : (ti Try.prog 59).offs = [] := by rw [ti59]
@[simp] theorem ti59_isS : (ti Try.prog 59).isS = true := by rw [ti59]; rfl
@[simp] theorem ti59_isP : (ti Try.prog 59).isP = false := by rw [ti59]; rfl
@[simp] theorem ti59_el : (ti Try.prog 59).el = 63 := by rw [ti59]; rfl
@[simp] theorem ti59_zs : (ti Try.prog 59).zs = [.nils] := by rw [ti59]; rfl
@[simp] theorem ti59_hasz : (ti Try.prog 59).hasz = true := by rw [ti59]; rfl
theorem ti61 : ti Try.prog 61 = { ok := true, kd := .struct, eqg := false, size := 2, bytes := 32, agg := true, elem := none, offs := [some 0, some 1], flds := (some [(0, 1), (1, 1)]), zero := (some [.nils, .int .i64 0]) } := by kernel_rfl
@[simp] theorem ti61_ok : (ti Try.prog 61).ok = true := by rw [ti61]
@[simp] theorem ti61_kd : (ti Try.prog 61).kd = .struct := by rw [ti61]
@[simp] theorem ti61_eqg : (ti Try.prog 61).eqg = false := by rw [ti61]
@[simp] theorem ti61_size : (ti Try.prog 61).size = 2 := by rw [ti61]
@[simp] theorem ti61_bytes : (ti Try.prog 61).bytes = 32 := by rw [ti61]
@[simp] theorem ti61_agg : (ti Try.prog 61).agg = true := by rw [ti61]
@[simp] theorem ti61_offs : (ti Try.prog 61).offs = [some 0, some 1] := by rw [ti61]
@[simp] theorem ti61_isS : (ti Try.prog 61).isS = false := by rw [ti61]; rfl
@[simp] theorem ti61_isP : (ti Try.prog 61).isP = false := by rw [ti61]; rfl
@[simp] theorem ti61_zs : (ti Try.prog 61).zs = [.nils, .int .i64 0] := by rw [ti61]; rfl
@[simp] theorem ti61_hasz : (ti Try.prog 61).hasz = true := by rw [ti61]; rfl
@[simp] theorem ti61_fl : (ti Try.prog 61).fl = [(0, 1), (1, 1)] := by rw [ti61]; rfl
@[simp] theorem ti61_hasf : (ti Try.prog 61).hasf = true := by rw [ti61]; rfl
theorem ti63 : ti Try.prog 63 = { ok := true, kd := .struct, eqg := false, size := 2, bytes := 16, agg := true, elem := none, offs := [some 0, some 1], flds := (some [(0, 1), (1, 1)]), zero := (some [.int .i64 0, .int .i64 0]) } := by kernel_rfl
@[simp] theorem ti63_ok : (ti Try.prog 63).ok = true := by rw [ti63]
@[simp] theorem ti63_kd : (ti Try.prog 63).kd = .struct := by rw [ti63]
@[simp] theorem ti63_eqg : (ti Try.prog 63).eqg = false := by rw [ti63]
@[simp] theorem ti63_size : (ti Try.prog 63).size = 2 := by rw [ti63]
@[simp] theorem ti63_bytes : (ti Try.prog 63).bytes = 16 := by rw [ti63]
@[simp] theorem ti63_agg : (ti Try.prog 63).agg = true := by rw [ti63]
@[simp] theorem ti63_offs : (ti Try.prog 63).offs = [some 0, some 1] := by rw [ti63]
@[simp] theorem ti63_isS : (ti Try.prog 63).isS = false := by rw [ti63]; rfl
@[simp] theorem ti63_isP : (ti Try.prog 63).isP = false := by rw [ti63]; rfl
@[simp] theorem ti63_zs : (ti Try.prog 63).zs = [.int .i64 0, .int .i64 0] := by rw [ti63]; rfl
@[simp] theorem ti63_hasz : (ti Try.prog 63).hasz = true := by rw [ti63]; rfl
@[simp] theorem ti63_fl : (ti Try.prog 63).fl = [(0, 1), (1, 1)] := by rw [ti63]; rfl
@[simp] theorem ti63_hasf : (ti Try.prog 63).hasf = true := by rw [ti63]; rfl
theorem ti65 : ti Try.prog 65 = { ok := true, kd := (.ptr 95), eqg := false, size := 1, bytes := 8, agg := false, elem := none, offs := [], flds := none, zero := (some [.nil]) } := by kernel_rfl
@[simp] theorem ti65_ok : (ti Try.prog 65).ok = true := by rw [ti65]
@[simp] theorem ti65_kd : (ti Try.prog 65).kd = (.ptr 95) := by rw [ti65]
@[simp] theorem ti65_eqg : (ti Try.prog 65).eqg = false := by rw [ti65]
@[simp] theorem ti65_size : (ti Try.prog 65).size = 1 := by rw [ti65]
@[simp] theorem ti65_bytes : (ti Try.prog 65).bytes = 8 := by rw [ti65]
@[simp] theorem ti65_agg : (ti Try.prog 65).agg = false := by rw [ti65]
@[simp] theorem ti65_offs : (ti Try.prog 65).offs = [] := by rw [ti65]
@[simp] theorem ti65_isS : (ti Try.prog 65).isS = false := by rw [ti65]; rfl
@[simp] theorem ti65_isP : (ti Try.prog 65).isP = true := by rw [ti65]; rfl
@[simp] theorem ti65_zs : (ti Try.prog 65).zs = [.nil] := by rw [ti65]; rfl
@[simp] theorem ti65_hasz : (ti Try.prog 65).hasz = true := by rw [ti65]; rfl
theorem ti71 : ti Try.prog 71 = { ok := true, kd := .struct, eqg := false, size := 2, bytes := 32, agg := true, elem := none, offs := [some 0, some 1], flds := (some [(0, 1), (1, 1)]), zero := (some [.nils, .int .i64 0]) } := by kernel_rfl
@[simp] theorem ti71_ok : (ti Try.prog 71).ok = true := by rw [ti71]
@[simp] theorem ti71_kd : (ti Try.prog 71).kd = .struct := by rw [ti71]
@[simp] theorem ti71_eqg : (ti Try.prog 71).eqg = false := by rw [ti71]
@[simp] theorem ti71_size : (ti Try.prog 71).size = 2 := by rw [ti71]
@[simp] theorem ti71_bytes : (ti Try.prog 71).bytes = 32 := by rw [ti71]
@[simp] theorem ti71_agg : (ti Try.prog 71).agg = true := by rw [ti71]
@[simp] theorem ti71_offs : (ti Try.prog 71).offs = [some 0, some 1] := by rw [ti71]
@[simp] theorem ti71_isS : (ti Try.prog 71).isS = false := by rw [ti71]; rfl
@[simp] theorem ti71_isP : (ti Try.prog 71).isP = false := by rw [ti71]; rfl
@[simp] theorem ti71_zs : (ti Try.prog 71).zs = [.nils, .int .i64 0] := by rw [ti71]; rfl
@[simp] theorem ti71_hasz : (ti Try.prog 71).hasz = true := by rw [ti71]; rfl
@[simp] theorem ti71_fl : (ti Try.prog 71).fl = [(0, 1), (1, 1)] := by rw [ti71]; rfl
@[simp] theorem ti71_hasf : (ti Try.prog 71).hasf = true := by rw [ti71]; rfl
theorem ti76 : ti Try.prog 76 = { ok := true, kd := (.slc 90), eqg := false, size := 1, bytes := 24, agg := false, elem := (some 90), offs := [], flds := none, zero := (some [.nils]) } := by kernel_rfl
@[simp] theorem ti76_ok : (ti Try.prog 76).ok = true := by rw [ti76]
@[simp] theorem ti76_kd : (ti Try.prog 76).kd = (.slc 90) := by rw [ti76]
@[simp] theorem ti76_eqg : (ti Try.prog 76).eqg = false := by rw [ti76]
@[simp] theorem ti76_size : (ti Try.prog 76).size = 1 := by rw [ti76]
@[simp] theorem ti76_bytes : (ti Try.prog 76).bytes = 24 := by rw [ti76]
@[simp] theorem ti76_agg : (ti Try.prog 76).agg = false := by rw [ti76]
@[simp] theorem ti76_offs : (ti Try.prog 76).offs = [] := by rw [ti76]
@[simp] theorem ti76_isS : (ti Try.prog 76).isS = true := by rw [ti76]; rfl
@[simp] theorem ti76_isP : (ti Try.prog 76).isP = false := by rw [ti76]; rfl
@[simp] theorem ti76_el : (ti Try.prog 76).el = 90 := by rw [ti76]; rfl
@[simp] theorem ti76_zs : (ti Try.prog 76).zs = [.nils] := by rw [ti76]; rfl
@[simp] theorem ti76_hasz : (ti Try.prog 76).hasz = true := by rw [ti76]; rfl
theorem ti78 : ti Try.prog 78 = { ok := true, kd := .struct, eqg := false, size := 2, bytes := 32, agg := true, elem := none, offs := [some 0, some 1], flds := (some [(0, 1), (1, 1)]), zero := (some [.nils, .int .i64 0]) } := by kernel_rfl
@[simp] theorem ti78_ok : (ti Try.prog 78).ok = true := by rw [ti78]
@[simp] theorem ti78_kd : (ti Try.prog 78).kd = .struct := by rw [ti78]
@[simp] theorem ti78_eqg : (ti Try.prog 78).eqg = false := by rw [ti78]
@[simp] theorem ti78_size : (ti Try.prog 78).size = 2 := by rw [ti78]
@[simp] theorem ti78_bytes : (ti Try.prog 78).bytes = 32 := by rw [ti78]
@[simp] theorem ti78_agg : (ti Try.prog 78).agg = true := by rw [ti78]
@[simp] theorem ti78_offs : (ti Try.prog 78).offs = [some 0, some 1] := by rw [ti78]
@[simp] theorem ti78_isS : (ti Try.prog 78).isS = false := by rw [ti78]; rfl
@[simp] theorem ti78_isP : (ti Try.prog 78).isP = false := by rw [ti78]; rfl
@[simp] theorem ti78_zs : (ti Try.prog 78).zs = [.nils, .int .i64 0] := by rw [ti78]; rfl
@[simp] theorem ti78_hasz : (ti Try.prog 78).hasz = true := by rw [ti78]; rfl
@[simp] theorem ti78_fl : (ti Try.prog 78).fl = [(0, 1), (1, 1)] := by rw [ti78]; rfl
@[simp] theorem ti78_hasf : (ti Try.prog 78).hasf = true := by rw [ti78]; rfl
theorem ti80 : ti Try.prog 80 = { ok := true, kd := .func, eqg := false, size := 1, bytes := 8, agg := false, elem := none, offs := [], flds := none, zero := (some [.any]) } := by kernel_rfl
@[simp] theorem ti80_ok : (ti Try.prog 80).ok = true := by rw [ti80]
@[simp] theorem ti80_kd : (ti Try.prog 80).kd = .func := by rw [ti80]
@[simp] theorem ti80_eqg : (ti Try.prog 80).eqg = false := by rw [ti80]
@[simp] theorem ti80_size : (ti Try.prog 80).size = 1 := by rw [ti80]
@[simp] theorem ti80_bytes : (ti Try.prog 80).bytes = 8 := by rw [ti80]
@[simp] theorem ti80_agg : (ti Try.prog 80).agg = false := by rw [ti80]
@[simp] theorem ti80_offs : (ti Try.prog 80).offs = [] := by rw [ti80]
@[simp] theorem ti80_isS : (ti Try.prog 80).isS = false := by rw [ti80]; rfl
@[simp] theorem ti80_isP : (ti Try.prog 80).isP = false := by rw [ti80]; rfl
@[simp] theorem ti80_zs : (ti Try.prog 80).zs = [.any] := by rw [ti80]; rfl
@[simp] theorem ti80_hasz : (ti Try.prog 80).hasz = true := by rw [ti80]; rfl
theorem ti90 : ti Try.prog 90 = { ok := true, kd := .struct, eqg := false, size := 2, bytes := 24, agg := true, elem := none, offs := [some 0, some 1], flds := (some [(0, 1), (1, 1)]), zero := (some [.str ByteArray.empty, .int .i64 0]) } := by kernel_rfl
@[simp] theorem ti90_ok : (ti Try.prog 90).ok = true := by rw [ti90]
@[simp] theorem ti90_kd : (ti Try.prog 90).kd = .struct := by rw [ti90]
@[simp] theorem ti90_eqg : (ti Try.prog 90).eqg = false := by rw [ti90]
@[simp] theorem ti90_size : (ti Try.prog 90).size = 2 := by rw [ti90]
@[simp] theorem ti90_bytes : (ti Try.prog 90).bytes = 24 := by rw [ti90]
@[simp] theorem ti90_agg : (ti Try.prog 90).agg = true := by rw [ti90]
@[simp] theorem ti90_offs : (ti Try.prog 90).offs = [some 0, some 1] := by rw [ti90]
@[simp] theorem ti90_isS : (ti Try.prog 90).isS = false := by rw [ti90]; rfl
@[simp] theorem ti90_isP : (ti Try.prog 90).isP = false := by rw [ti90]; rfl
@[simp] theorem ti90_zs : (ti Try.prog 90).zs = [.str ByteArray.empty, .int .i64 0] := by rw [ti90]; rfl
@[simp] theorem ti90_hasz : (ti Try.prog 90).hasz = true := by rw [ti90]; rfl
@[simp] theorem ti90_fl : (ti Try.prog 90).fl = [(0, 1), (1, 1)] := by rw [ti90]; rfl
@[simp] theorem ti90_hasf : (ti Try.prog 90).hasf = true := by rw [ti90]; rfl
theorem ti93 : ti Try.prog 93 = { ok := true, kd := (.slc 97), eqg := false, size := 1, bytes := 24, agg := false, elem := (some 97), offs := [], flds := none, zero := (some [.nils]) } := by kernel_rfl
@[simp] theorem ti93_ok : (ti Try.prog 93).ok = true := by rw [ti93]
@[simp] theorem ti93_kd : (ti Try.prog 93).kd = (.slc 97) := by rw [ti93]
@[simp] theorem ti93_eqg : (ti Try.prog 93).eqg = false := by rw [ti93]
@[simp] theorem ti93_size : (ti Try.prog 93).size = 1 := by rw [ti93]
@[simp] theorem ti93_bytes : (ti Try.prog 93).bytes = 24 := by rw [ti93]
@[simp] theorem ti93_agg : (ti Try.prog 93).agg = false := by rw [ti93]
@[simp] theorem ti93_offs : (ti Try.prog 93).offs = [] := by rw [ti93]
@[simp] theorem ti93_isS : (ti Try.prog 93).isS = true := by rw [ti93]; rfl
@[simp] theorem ti93_isP : (ti Try.prog 93).isP = false := by rw [ti93]; rfl
@[simp] theorem ti93_el : (ti Try.prog 93).el = 97 := by rw [ti93]; rfl
@[simp] theorem ti93_zs : (ti Try.prog 93).zs = [.nils] := by rw [ti93]; rfl
@[simp] theorem ti93_hasz : (ti Try.prog 93).hasz = true := by rw [ti93]; rfl
theorem ti95 : ti Try.prog 95 = { ok := true, kd := .struct, eqg := false, size := 2, bytes := 32, agg := true, elem := none, offs := [some 0, some 1], flds := (some [(0, 1), (1, 1)]), zero := (some [.nils, .int .i64 0]) } := by kernel_rfl
@[simp] theorem ti95_ok : (ti Try.prog 95).ok = true := by rw [ti95]
@[simp] theorem ti95_kd : (ti Try.prog 95).kd = .struct := by rw [ti95]
@[simp] theorem ti95_eqg : (ti Try.prog 95).eqg = false := by rw [ti95]
@[simp] theorem ti95_size : (ti Try.prog 95).size = 2 := by rw [ti95]
@[simp] theorem ti95_bytes : (ti Try.prog 95).bytes = 32 := by rw [ti95]
@[simp] theorem ti95_agg : (ti Try.prog 95).agg = true := by rw [ti95]
@[simp] theorem ti95_offs : (ti Try.prog 95).offs = [some 0, some 1] := by rw [ti95]
@[simp] theorem ti95_isS : (ti Try.prog 95).isS = false := by rw [ti95]; rfl
@[simp] theorem ti95_isP : (ti Try.prog 95).isP = false := by rw [ti95]; rfl
@[simp] theorem ti95_zs : (ti Try.prog 95).zs = [.nils, .int .i64 0] := by rw [ti95]; rfl
@[simp] theorem ti95_hasz : (ti Try.prog 95).hasz = true := by rw [ti95]; rfl
@[simp] theorem ti95_fl : (ti Try.prog 95).fl = [(0, 1), (1, 1)] := by rw [ti95]; rfl
@[simp] theorem ti95_hasf : (ti Try.prog 95).hasf = true := by rw [ti95]; rfl
theorem ti97 : ti Try.prog 97 = { ok := true, kd := .struct, eqg := false, size := 2, bytes := 24, agg := true, elem := none, offs := [some 0, some 1], flds := (some [(0, 1), (1, 1)]), zero := (some [.int .i64 0, .str ByteArray.empty]) } := by kernel_rfl
@[simp] theorem ti97_ok : (ti Try.prog 97).ok = true := by rw [ti97]
@[simp] theorem ti97_kd : (ti Try.prog 97).kd = .struct := by rw [ti97]
@[simp] theorem ti97_eqg : (ti Try.prog 97).eqg = false := by rw [ti97]
@[simp] theorem ti97_size : (ti Try.prog 97).size = 2 := by rw [ti97]
@[simp] theorem ti97_bytes : (ti Try.prog 97).bytes = 24 := by rw [ti97]
@[simp] theorem ti97_agg : (ti Try.prog 97).agg = true := by rw [ti97]
@[simp] theorem ti97_offs : (ti Try.prog 97).offs = [some 0, some 1] := by rw [ti97]
@[simp] theorem ti97_isS : (ti Try.prog 97).isS = false := by rw [ti97]; rfl
@[simp] theorem ti97_isP : (ti Try.prog 97).isP = false := by rw [ti97]; rfl
@[simp] theorem ti97_zs : (ti Try.prog 97).zs = [.int .i64 0, .str ByteArray.empty] := by rw [ti97]; rfl
@[simp] theorem ti97_hasz : (ti Try.prog 97).hasz = true := by rw [ti97]; rfl
@[simp] theorem ti97_fl : (ti Try.prog 97).fl = [(0, 1), (1, 1)] := by rw [ti97]; rfl
@[simp] theorem ti97_hasf : (ti Try.prog 97).hasf = true := by rw [ti97]; rfl
@[simp] theorem ca3 : callable Try.prog 3 = true := by kernel_rfl
@[simp] theorem ca4 : callable Try.prog 4 = true := by kernel_rfl
@[simp] theorem ca5 : callable Try.prog 5 = true := by kernel_rfl
@[simp] theorem ca6 : callable Try.prog 6 = true := by kernel_rfl
@[simp] theorem ca7 : callable Try.prog 7 = true := by kernel_rfl
@[simp] theorem ca8 : callable Try.prog 8 = true := by kernel_rfl
@[simp] theorem ca9 : callable Try.prog 9 = true := by kernel_rfl
@[simp] theorem ca10 : callable Try.prog 10 = true := by kernel_rfl
@[simp] theorem ca11 : callable Try.prog 11 = true := by kernel_rfl
@[simp] theorem ca12 : callable Try.prog 12 = true := by kernel_rfl
@[simp] theorem ca13 : callable Try.prog 13 = true := by kernel_rfl
@[simp] theorem ca14 : callable Try.prog 14 = true := by kernel_rfl
@[simp] theorem ca15 : callable Try.prog 15 = true := by kernel_rfl
@[simp] theorem ca16 : callable Try.prog 16 = true := by kernel_rfl
@[simp] theorem ca17 : callable Try.prog 17 = true := by kernel_rfl
@[simp] theorem ca18 : callable Try.prog 18 = true := by kernel_rfl
@[simp] theorem ca19 : callable Try.prog 19 = true := by kernel_rfl
@[simp] theorem ca20 : callable Try.prog 20 = true := by kernel_rfl
@[simp] theorem ca21 : callable Try.prog 21 = true := by kernel_rfl
@[simp] theorem ca22 : callable Try.prog 22 = true := by kernel_rfl
@[simp] theorem ca23 : callable Try.prog 23 = true := by kernel_rfl
@[simp] theorem ca24 : callable Try.prog 24 = true := by kernel_rfl
@[simp] theorem ca25 : callable Try.prog 25 = true := by kernel_rfl
@[simp] theorem ca26 : callable Try.prog 26 = true := by kernel_rfl
@[simp] theorem ca27 : callable Try.prog 27 = true := by kernel_rfl
@[simp] theorem ca28 : callable Try.prog 28 = true := by kernel_rfl
@[simp] theorem ca29 : callable Try.prog 29 = true := by kernel_rfl
@[simp] theorem ca30 : callable Try.prog 30 = true := by kernel_rfl
@[simp] theorem ca31 : callable Try.prog 31 = true := by kernel_rfl
@[simp] theorem ca32 : callable Try.prog 32 = true := by kernel_rfl
@[simp] theorem ca33 : callable Try.prog 33 = true := by kernel_rfl
@[simp] theorem ca34 : callable Try.prog 34 = true := by kernel_rfl
@[simp] theorem ca35 : callable Try.prog 35 = true := by kernel_rfl
@[simp] theorem ca36 : callable Try.prog 36 = true := by kernel_rfl
@[simp] theorem ca37 : callable Try.prog 37 = true := by kernel_rfl
@[simp] theorem ca38 : callable Try.prog 38 = true := by kernel_rfl
@[simp] theorem ca39 : callable Try.prog 39 = true := by kernel_rfl
@[simp] theorem ca40 : callable Try.prog 40 = true := by kernel_rfl
@[simp] theorem ca41 : callable Try.prog 41 = true := by kernel_rfl
@[simp] theorem ca42 : callable Try.prog 42 = true := by kernel_rfl
@[simp] theorem ca43 : callable Try.prog 43 = true := by kernel_rfl
@[simp] theorem ca44 : callable Try.prog 44 = true := by kernel_rfl
@[simp] theorem ca45 : callable Try.prog 45 = true := by kernel_rfl
@[simp] theorem ca46 : callable Try.prog 46 = true := by kernel_rfl
@[simp] theorem ca47 : callable Try.prog 47 = true := by kernel_rfl
@[simp] theorem ca48 : callable Try.prog 48 = true := by kernel_rfl
@[simp] theorem ca49 : callable Try.prog 49 = true := by kernel_rfl
@[simp] theorem ca50 : callable Try.prog 50 = true := by kernel_rfl
@[simp] theorem ca51 : callable Try.prog 51 = true := by kernel_rfl
@[simp] theorem ca52 : callable Try.prog 52 = true := by kernel_rfl
@[simp] theorem ca53 : callable Try.prog 53 = false := by kernel_rfl
@[simp] theorem ca54 : callable Try.prog 54 = true := by kernel_rfl
@[simp] theorem ca55 : callable Try.prog 55 = true := by kernel_rfl
@[simp] theorem ca56 : callable Try.prog 56 = true := by kernel_rfl
@[simp] theorem ca57 : callable Try.prog 57 = true := by kernel_rfl
@[simp] theorem ca58 : callable Try.prog 58 = true := by kernel_rfl
@[simp] theorem ca59 : callable Try.prog 59 = true := by kernel_rfl
@[simp] theorem ca60 : callable Try.prog 60 = true := by kernel_rfl
@[simp] theorem ca61 : callable Try.prog 61 = true := by kernel_rfl
@[simp] theorem ca62 : callable Try.prog 62 = false := by kernel_rfl
@[simp] theorem ca63 : callable Try.prog 63 = true := by kernel_rfl
@[simp] theorem ca64 : callable Try.prog 64 = false := by kernel_rfl
@[simp] theorem ca65 : callable Try.prog 65 = true := by kernel_rfl
@[simp] theorem ca66 : callable Try.prog 66 = true := by kernel_rfl
@[simp] theorem ca67 : callable Try.prog 67 = true := by kernel_rfl
@[simp] theorem ca68 : callable Try.prog 68 = true := by kernel_rfl
@[simp] theorem ca69 : callable Try.prog 69 = true := by kernel_rfl
@[simp] theorem ca70 : callable Try.prog 70 = true := by kernel_rfl
@[simp] theorem ca86 : callable Try.prog 86 = false := by kernel_rfl
@[simp] theorem ca87 : callable Try.prog 87 = false := by kernel_rfl
@[simp] theorem ca88 : callable Try.prog 88 = false := by kernel_rfl
@[simp] theorem ca89 : callable Try.prog 89 = false := by kernel_rfl
@[simp] theorem ca90 : callable Try.prog 90 = false := by kernel_rfl
end Go.Proofs.Yteifakkknhfdpaa
