import Derived.Test.YtdpppigniaafnaaAl2
import Derived.Test.YtdpppigniaafnaaProg
import Derived.KernelRfl
set_option linter.unusedVariables false
set_option linter.unusedSimpArgs false
set_option maxRecDepth 100000
namespace Go.Proofs.Ytdpppigniaafnaa
open Go Go.Al
theorem mixed : Try.prog.follows .mixedOrders = true := by kernel_rfl
theorem ti3 : ti Try.prog 3 = { ok := true, kd := (.int .i64), eqg := false, size := 1, bytes := 8, agg := false, elem := none, offs := [], flds := none, zero := (some [.int .i64 0]) } := by kernel_rfl
@[simp] theorem ti3_ok : (ti Try.prog 3).ok = true := by rw [ti3]
@[simp] theorem ti3_kd : (ti Try.prog 3).kd = (.int .i64) := by rw [ti3]
@[simp] theorem ti3_eqg : (ti Try.prog 3).eqg = false := by rw [ti3]
@[simp] theorem ti3_size : (ti Try.prog 3).size = 1 := by rw [ti3]
@[simp] theorem ti3_bytes : (ti Try.prog 3).bytes = 8 := by rw [ti3]
@[simp] theorem ti3_agg : (ti Try.prog 3).agg = false := by rw [ti3]
@[simp] theorem ti3_offs : (ti Try.prog 3).offs = [] := by rw [ti3]
@[simp] theorem ti3_isS : (ti Try.prog 3).isS = false := by rw [ti3]; rfl
@[simp] theorem ti3_isP : (ti Try.prog 3).isP = false := by rw [ti3]; rfl
@[simp] theorem ti3_zs : (ti Try.prog 3).zs = [.int .i64 0] := by rw [ti3]; rfl
@[simp] theorem ti3_hasz : (ti Try.prog 3).hasz = true := by rw [ti3]; rfl
theorem ti4 : ti Try.prog 4 = { ok := true, kd := .bool, eqg := false, size := 1, bytes := 1, agg := false, elem := none, offs := [], flds := none, zero := (some [.bool false]) } := by kernel_rfl
@[simp] theorem ti4_ok : (ti Try.prog 4).ok = true := by rw [ti4]
@[simp] theorem ti4_kd : (ti Try.prog 4).kd = .bool := by rw [ti4]
@[simp] theorem ti4_eqg : (ti Try.prog 4).eqg = false := by rw [ti4]
@[simp] theorem ti4_size : (ti Try.prog 4).size = 1 := by rw [ti4]
@[simp] theorem ti4_bytes : (ti Try.prog 4).bytes = 1 := by rw [ti4]
@[simp] theorem ti4_agg : (ti Try.prog 4).agg = false := by rw [ti4]
@[simp] theorem ti4_offs : (ti Try.prog 4).offs = [] := by rw [ti4]
@[simp] theorem ti4_isS : (ti Try.prog 4).isS = false := by rw [ti4]; rfl
@[simp] theorem ti4_isP : (ti Try.prog 4).isP = false := by rw [ti4]; rfl
@[simp] theorem ti4_zs : (ti Try.prog 4).zs = [.bool false] := by rw [ti4]; rfl
@[simp] theorem ti4_hasz : (ti Try.prog 4).hasz = true := by rw [ti4]; rfl
theorem ti5 : ti Try.prog 5 = { ok := true, kd := (.int .u8), eqg := false, size := 1, bytes := 1, agg := false, elem := none, offs := [], flds := none, zero := (some [.int .u8 0]) } := by kernel_rfl
@[simp] theorem ti5_ok : (ti Try.prog 5).ok = true := by rw [ti5]
@[simp] theorem ti5_kd : (ti Try.prog 5).kd = (.int .u8) := by rw [ti5]
@[simp] theorem ti5_eqg : (ti Try.prog 5).eqg = false := by rw [ti5]
@[simp] theorem ti5_size : (ti Try.prog 5).size = 1 := by rw [ti5]
@[simp] theorem ti5_bytes : (ti Try.prog 5).bytes = 1 := by rw [ti5]
@[simp] theorem ti5_agg : (ti Try.prog 5).agg = false := by rw [ti5]
@[simp] theorem ti5_offs : (ti Try.prog 5).offs = [] := by rw [ti5]
@[simp] theorem ti5_isS : (ti Try.prog 5).isS = false := by rw [ti5]; rfl
@[simp] theorem ti5_isP : (ti Try.prog 5).isP = false := by rw [ti5]; rfl
@[simp] theorem ti5_zs : (ti Try.prog 5).zs = [.int .u8 0] := by rw [ti5]; rfl
@[simp] theorem ti5_hasz : (ti Try.prog 5).hasz = true := by rw [ti5]; rfl
theorem ti9 : ti Try.prog 9 = { ok := true, kd := .str, eqg := false, size := 1, bytes := 16, agg := false, elem := none, offs := [], flds := none, zero := (some [.str ByteArray.empty]) } := by kernel_rfl
@[simp] theorem ti9_ok : (ti Try.prog 9).ok = true := by rw [ti9]
@[simp] theorem ti9_kd : (ti Try.prog 9).kd = .str := by rw [ti9]
@[simp] theorem ti9_eqg : (ti Try.prog 9).eqg = false := by rw [ti9]
@[simp] theorem ti9_size : (ti Try.prog 9).size = 1 := by rw [ti9]
@[simp] theorem ti9_bytes : (ti Try.prog 9).bytes = 16 := by rw [ti9]
@[simp] theorem ti9_agg : (ti Try.prog 9).agg = false := by rw [ti9]
@[simp] theorem ti9_offs : (ti Try.prog 9).offs = [] := by rw [ti9]
@[simp] theorem ti9_isS : (ti Try.prog 9).isS = false := by rw [ti9]; rfl
@[simp] theorem ti9_isP : (ti Try.prog 9).isP = false := by rw [ti9]; rfl
@[simp] theorem ti9_zs : (ti Try.prog 9).zs = [.str ByteArray.empty] := by rw [ti9]; rfl
@[simp] theorem ti9_hasz : (ti Try.prog 9).hasz = true := by rw [ti9]; rfl
theorem ti22 : ti Try.prog 22 = { ok := true, kd := (.slc 3), eqg := false, size := 1, bytes := 24, agg := false, elem := (some 3), offs := [], flds := none, zero := (some [.nils]) } := by kernel_rfl
@[simp] theorem ti22_ok : (ti Try.prog 22).ok = true := by rw [ti22]
@[simp] theorem ti22_kd : (ti Try.prog 22).kd = (.slc 3) := by rw [ti22]
@[simp] theorem ti22_eqg : (ti Try.prog 22).eqg = false := by rw [ti22]
@[simp] theorem ti22_size : (ti Try.prog 22).size = 1 := by rw [ti22]
@[simp] theorem ti22_bytes : (ti Try.prog 22).bytes = 24 := by rw [ti22]
@[simp] theorem ti22_agg : (ti Try.prog 22).agg = false := by rw [ti22]
@[simp] theorem ti22_offs : (ti Try.prog 22).offs = [] := by rw [ti22]
@[simp] theorem ti22_isS : (ti Try.prog 22).isS = true := by rw [ti22]; rfl
@[simp] theorem ti22_isP : (ti Try.prog 22).isP = false := by rw [ti22]; rfl
@[simp] theorem ti22_el : (ti Try.prog 22).el = 3 := by rw [ti22]; rfl
@[simp] theorem ti22_zs : (ti Try.prog 22).zs = [.nils] := by rw [ti22]; rfl
@[simp] theorem ti22_hasz : (ti Try.prog 22).hasz = true := by rw [ti22]; rfl
theorem ti23 : ti Try.prog 23 = { ok := true, kd := (.slc 29), eqg := false, size := 1, bytes := 24, agg := false, elem := (some 29), offs := [], flds := none, zero := (some [.nils]) } := by kernel_rfl
@[simp] theorem ti23_ok : (ti Try.prog 23).ok = true := by rw [ti23]
@[simp] theorem ti23_kd : (ti Try.prog 23).kd = (.slc 29) := by rw [ti23]
@[simp] theorem ti23_eqg : (ti Try.prog 23).eqg = false := by rw [ti23]
@[simp] theorem ti23_size : (ti Try.prog 23).size = 1 := by rw [ti23]
@[simp] theorem ti23_bytes : (ti Try.prog 23).bytes = 24 := by rw [ti23]
@[simp] theorem ti23_agg : (ti Try.prog 23).agg = false := by rw [ti23]
@[simp] theorem ti23_offs : (ti Try.prog 23).offs = [] := by rw [ti23]
@[simp] theorem ti23_isS : (ti Try.prog 23).isS = true := by rw [ti23]; rfl
@[simp] theorem ti23_isP : (ti Try.prog 23).isP = false := by rw [ti23]; rfl
@[simp] theorem ti23_el : (ti Try.prog 23).el = 29 := by rw [ti23]; rfl
@[simp] theorem ti23_zs : (ti Try.prog 23).zs = [.nils] := by rw [ti23]; rfl
@[simp] theorem ti23_hasz : (ti Try.prog 23).hasz = true := by rw [ti23]; rfl
theorem ti24 : ti Try.prog 24 = { ok := true, kd := (.ptr 67), eqg := false, size := 1, bytes := 8, agg := false, elem := none, offs := [], flds := none, zero := (some [.nil]) } := by kernel_rfl
@[simp] theorem ti24_ok : (ti Try.prog 24).ok = true := by rw [ti24]
@[simp] theorem ti24_kd : (ti Try.prog 24).kd = (.ptr 67) := by rw [ti24]
@[simp] theorem ti24_eqg : (ti Try.prog 24).eqg = false := by rw [ti24]
@[simp] theorem ti24_size : (ti Try.prog 24).size = 1 := by rw [ti24]
@[simp] theorem ti24_bytes : (ti Try.prog 24).bytes = 8 := by rw [ti24]
@[simp] theorem ti24_agg : (ti Try.prog 24).agg = false := by rw [ti24]
@[simp] theorem ti24_offs : (ti Try.prog 24).offs = [] := by rw [ti24]
@[simp] theorem ti24_isS : (ti Try.prog 24).isS = false := by rw [ti24]; rfl
@[simp] theorem ti24_isP : (ti Try.prog 24).isP = true := by rw [ti24]; rfl
@[simp] theorem ti24_zs : (ti Try.prog 24).zs = [.nil] := by rw [ti24]; rfl
@[simp] theorem ti24_hasz : (ti Try.prog 24).hasz = true := by rw [ti24]; rfl
theorem ti27 : ti Try.prog 27 = { ok := true, kd := (.int .i64), eqg := false, size := 1, bytes := 8, agg := false, elem := none, offs := [], flds := none, zero := (some [.int .i64 0]) } := by kernel_rfl
@[simp] theorem ti27_ok : (ti Try.prog 27).ok = true := by rw [ti27]
@[simp] theorem ti27_kd : (ti Try.prog 27).kd = (.int .i64) := by rw [ti27]
@[simp] theorem ti27_eqg : (ti Try.prog 27).eqg = false := by rw [ti27]
@[simp] theorem ti27_size : (ti Try.prog 27).size = 1 := by rw [ti27]
@[simp] theorem ti27_bytes : (ti Try.prog 27).bytes = 8 := by rw [ti27]
@[simp] theorem ti27_agg : (ti Try.prog 27).agg = false := by rw [ti27]
@[simp] theorem ti27_offs : (ti Try.prog 27).offs = [] := by rw [ti27]
@[simp] theorem ti27_isS : (ti Try.prog 27).isS = false := by rw [ti27]; rfl
@[simp] theorem ti27_isP : (ti Try.prog 27).isP = false := by rw [ti27]; rfl
@[simp] theorem ti27_zs : (ti Try.prog 27).zs = [.int .i64 0] := by rw [ti27]; rfl
@[simp] theorem ti27_hasz : (ti Try.prog 27).hasz = true := by rw [ti27]; rfl
theorem ti29 : ti Try.prog 29 = { ok := true, kd := (.int .u64), eqg := false, size := 1, bytes := 8, agg := false, elem := none, offs := [], flds := none, zero := (some [.int .u64 0]) } := by kernel_rfl
@[simp] theorem ti29_ok : (ti Try.prog 29).ok = true := by rw [ti29]
@[simp] theorem ti29_kd : (ti Try.prog 29).kd = (.int .u64) := by rw [ti29]
@[simp] theorem ti29_eqg : (ti Try.prog 29).eqg = false := by rw [ti29]
@[simp] theorem ti29_size : (ti Try.prog 29).size = 1 := by rw [ti29]
@[simp] theorem ti29_bytes : (ti Try.prog 29).bytes = 8 := by rw [ti29]
@[simp] theorem ti29_agg : (ti Try.prog 29).agg = false := by rw [ti29]
@[simp] theorem ti29_offs : (ti Try.prog 29).offs = [] := by rw [ti29]
@[simp] theorem ti29_isS : (ti Try.prog 29).isS = false := by rw [ti29]; rfl
@[simp] theorem ti29_isP : (ti Try.prog 29).isP = false := by rw [ti29]; rfl
@[simp] theorem ti29_zs : (ti Try.prog 29).zs = [.int .u64 0] := by rw [ti29]; rfl
@[simp] theorem ti29_hasz : (ti Try.prog 29).hasz = true := by rw [ti29]; rfl
theorem ti30 : ti Try.prog 30 = { ok := true, kd := (.ptr 71), eqg := false, size := 1, bytes := 8, agg := false, elem := none, offs := [], flds := none, zero := (some [.nil]) } := by kernel_rfl
@[simp] theorem ti30_ok : (ti Try.prog 30).ok = true := by rw [ti30]
@[simp] theorem ti30_kd : (ti Try.prog 30).kd = (.ptr 71) := by rw [ti30]
@[simp] theorem ti30_eqg : (ti Try.prog 30).eqg = false := by rw [ti30]
@[simp] theorem ti30_size : (ti Try.prog 30).size = 1 := by rw [ti30]
@[simp] theorem ti30_bytes : (ti Try.prog 30).bytes = 8 := by rw [ti30]
@[simp] theorem ti30_agg : (ti Try.prog 30).agg = false := by rw [ti30]
@[simp] theorem ti30_offs : (ti Try.prog 30).offs = [] := by rw [ti30]
@[simp] theorem ti30_isS : (ti Try.prog 30).isS = false := by rw [ti30]; rfl
@[simp] theorem ti30_isP : (ti Try.prog 30).isP = true := by rw [ti30]; rfl
@[simp] theorem ti30_zs : (ti Try.prog 30).zs = [.nil] := by rw [ti30]; rfl
@[simp] theorem ti30_hasz : (ti Try.prog 30).hasz = true := by rw [ti30]; rfl
theorem ti32 : ti Try.prog 32 = { ok := true, kd := (.slc 5), eqg := false, size := 1, bytes := 24, agg := false, elem := (some 5), offs := [], flds := none, zero := (some [.nils]) } := by kernel_rfl
@[simp] theorem ti32_ok : (ti Try.prog 32).ok = true := by rw [ti32]
@[simp] theorem ti32_kd : (ti Try.prog 32).kd = (.slc 5) := by rw [ti32]
@[simp] theorem ti32_eqg : (ti Try.prog 32).eqg = false := by rw [ti32]
@[simp] theorem ti32_size : (ti Try.prog 32).size = 1 := by rw [ti32]
@[simp] theorem ti32_bytes : (ti Try.prog 32).bytes = 24 := by rw [ti32]
@[simp] theorem ti32_agg : (ti Try.prog 32).agg = false := by rw [ti32]
@[simp] theorem ti32_offs : (ti Try.prog 32).offs = [] := by rw [ti32]
@[simp] theorem ti32_isS : (ti Try.prog 32).isS = true := by rw [ti32]; rfl
@[simp] theorem ti32_isP : (ti Try.prog 32).isP = false := by rw [ti32]; rfl
@[simp] theorem ti32_el : (ti Try.prog 32).el = 5 := by rw [ti32]; rfl
@[simp] theorem ti32_zs : (ti Try.prog 32).zs = [.nils] := by rw [ti32]; rfl
@[simp] theorem ti32_hasz : (ti Try.prog 32).hasz = true := by rw [ti32]; rfl
theorem ti42 : ti Try.prog 42 = { ok := true, kd := (.int .u64), eqg := false, size := 1, bytes := 8, agg := false, elem := none, offs := [], flds := none, zero := (some [.int .u64 0]) } := by kernel_rfl
@[simp] theorem ti42_ok : (ti Try.prog 42).ok = true := by rw [ti42]
@[simp] theorem ti42_kd : (ti Try.prog 42).kd = (.int .u64) := by rw [ti42]
@[simp] theorem ti42_eqg : (ti Try.prog 42).eqg = false := by rw [ti42]
@[simp] theorem ti42_size : (ti Try.prog 42).size = 1 := by rw [ti42]
@[simp] theorem ti42_bytes : (ti Try.prog 42).bytes = 8 := by rw [ti42]
@[simp] theorem ti42_agg : (ti Try.prog 42).agg = false := by rw [ti42]
@[simp] theorem ti42_offs : (ti Try.prog 42).offs = [] := by rw [ti42]
@[simp] theorem ti42_isS : (ti Try.prog 42).isS = false := by rw [ti42]; rfl
@[simp] theorem ti42_isP : (ti Try.prog 42).isP = false := by rw [ti42]; rfl
@[simp] theorem ti42_zs : (ti Try.prog 42).zs = [.int .u64 0] := by rw [ti42]; rfl
@[simp] theorem ti42_hasz : (ti Try.prog 42).hasz = true := by rw [ti42]; rfl
theorem ti46 : ti Try.prog 46 = { ok := true, kd := (.slc 52), eqg := false, size := 1, bytes := 24, agg := false, elem := (some 52), offs := [], flds := none, zero := (some [.nils]) } := by kernel_rfl
@[simp] theorem ti46_ok : (ti Try.prog 46).ok = true := by rw [ti46]
@[simp] theorem ti46_kd : (ti Try.prog 46).kd = (.slc 52) := by rw [ti46]
@[simp] theorem ti46_eqg : (ti Try.prog 46).eqg = false := by rw [ti46]
@[simp] theorem ti46_size : (ti Try.prog 46).size = 1 := by rw [ti46]
@[simp] theorem ti46_bytes : (ti Try.prog 46).bytes = 24 := by rw [ti46]
@[simp] theorem ti46_agg : (ti Try.prog 46).agg = false := by rw [ti46]
@[simp] theorem ti46_offs : (ti Try.prog 46).offs = [] := by rw [ti46]
@[simp] theorem ti46_isS : (ti Try.prog 46).isS = true := by rw [ti46]; rfl
@[simp] theorem ti46_isP : (ti Try.prog 46).isP = false := by rw [ti46]; rfl
@[simp] theorem ti46_el : (ti Try.prog 46).el = 52 := by rw [ti46]; rfl
@[simp] theorem ti46_zs : (ti Try.prog 46).zs = [.nils] := by rw [ti46]; rfl
@[simp] theorem ti46_hasz : (ti Try.prog 46).hasz = true := by rw [ti46]; rfl
theorem ti47 : ti Try.prog 47 = { ok := true, kd := (.ptr 50), eqg := false, size := 1, bytes := 8, agg := false, elem := none, offs := [], flds := none, zero := (some [.nil]) } := by kernel_rfl
@[simp] theorem ti47_ok : (ti Try.prog 47).ok = true := by rw [ti47]
@[simp] theorem ti47_kd : (ti Try.prog 47).kd = (.ptr 50) := by rw [ti47]
@[simp] theorem ti47_eqg : (ti Try.prog 47).eqg = false := by rw [ti47]
@[simp] theorem ti47_size : (ti Try.prog 47).size = 1 := by rw [ti47]
@[simp] theorem ti47_bytes : (ti Try.prog 47).bytes = 8 := by rw [ti47]
@[simp] theorem ti47_agg : (ti Try.prog 47).agg = false := by rw [ti47]
@[simp] theorem ti47_offs : (ti Try.prog 47).offs = [] := by rw [ti47]
@[simp] theorem ti47_isS : (ti Try.prog 47).isS = false := by rw [ti47]; rfl
@[simp] theorem ti47_isP : (ti Try.prog 47).isP = true := by rw [ti47]; rfl
@[simp] theorem ti47_zs : (ti Try.prog 47).zs = [.nil] := by rw [ti47]; rfl
@[simp] theorem ti47_hasz : (ti Try.prog 47).hasz = true := by rw [ti47]; rfl
theorem ti50 : ti Try.prog 50 = { ok := true, kd := .struct, eqg := false, size := 3, bytes := 40, agg := true, elem := none, offs := [some 0, some 1, some 2], flds := (some [(0, 1), (1, 1), (2, 1)]), zero := (some [.nils, .int .i64 0, .int .i64 0]) } := by kernel_rfl
@[simp] theorem ti50_ok : (ti Try.prog 50).ok = true := by rw [ti50]
@[simp] theorem ti50_kd : (ti Try.prog 50).kd = .struct := by rw [ti50]
@[simp] theorem ti50_eqg : (ti Try.prog 50).eqg = false := by rw [ti50]
@[simp] theorem ti50_size : (ti Try.prog 50).size = 3 := by rw [ti50]
@[simp] theorem ti50_bytes : (ti Try.prog 50).bytes = 40 := by rw [ti50]
@[simp] theorem ti50_agg : (ti Try.prog 50).agg = true := by rw [ti50]
@[simp] theorem ti50_offs : (ti Try.prog 50).offs = [some 0, some 1, some 2] := by rw [ti50]
@[simp] theorem ti50_isS : (ti Try.prog 50).isS = false := by rw [ti50]; rfl
@[simp] theorem ti50_isP : (ti Try.prog 50).isP = false := by rw [ti50]; rfl
@[simp] theorem ti50_zs : (ti Try.prog 50).zs = [.nils, .int .i64 0, .int .i64 0] := by rw [ti50]; rfl
@[simp] theorem ti50_hasz : (ti Try.prog 50).hasz = true := by rw [ti50]; rfl
@[simp] theorem ti50_fl : (ti Try.prog 50).fl = [(0, 1), (1, 1), (2, 1)] := by rw [ti50]; rfl
@[simp] theorem ti50_hasf : (ti Try.prog 50).hasf = true := by rw [ti50]; rfl
theorem ti52 : ti Try.prog 52 = { ok := true, kd := .struct, eqg := false, size := 2, bytes := 16, agg := true, elem := none, offs := [some 0, some 1], flds := (some [(0, 1), (1, 1)]), zero := (some [.int .i64 0, .int .i64 0]) } := by kernel_rfl
@[simp] theorem ti52_ok : (ti Try.prog 52).ok = true := by rw [ti52]
@[simp] theorem ti52_kd : (ti Try.prog 52).kd = .struct := by rw [ti52]
@[simp] theorem ti52_eqg : (ti Try.prog 52).eqg = false := by rw [ti52]
@[simp] theorem ti52_size : (ti Try.prog 52).size = 2 := by rw [ti52]
@[simp] theorem ti52_bytes : (ti Try.prog 52).bytes = 16 := by rw [ti52]
@[simp] theorem ti52_agg : (ti Try.prog 52).agg = true := by rw [ti52]
@[simp] theorem ti52_offs : (ti Try.prog 52).offs = [some 0, some 1] := by rw [ti52]
@[simp] theorem ti52_isS : (ti Try.prog 52).isS = false := by rw [ti52]; rfl
@[simp] theorem ti52_isP : (ti Try.prog 52).isP = false := by rw [ti52]; rfl
@[simp] theorem ti52_zs : (ti Try.prog 52).zs = [.int .i64 0, .int .i64 0] := by rw [ti52]; rfl
@[simp] theorem ti52_hasz : (ti Try.prog 52).hasz = true := by rw [ti52]; rfl
@[simp] theorem ti52_fl : (ti Try.prog 52).fl = [(0, 1), (1, 1)] := by rw [ti52]; rfl
@[simp] theorem ti52_hasf : (ti Try.prog 52).hasf = true := by rw [ti52]; rfl
theorem ti57 : ti Try.prog 57 = { ok := true, kd := (.slc 59), eqg := false, size := 1, bytes := 24, agg := false, elem := (some 59), offs := [], flds := none, zero := (some [.nils]) } := by kernel_rfl
@[simp] theorem ti57_ok : (ti Try.prog 57).ok = true := by rw [ti57]
@[simp] theorem ti57_kd : (ti Try.prog 57).kd = (.slc 59) := by rw [ti57]
@[simp] theorem ti57_eqg : (ti Try.prog 57).eqg = false := by rw [ti57]
@[simp] theorem ti57_size : (ti Try.prog 57).size = 1 := by rw [ti57]
@[simp] theorem ti57_bytes : (ti Try.prog 57).bytes = 24 := by rw [ti57]
@[simp] theorem ti57_agg : (ti Try.prog 57).agg = false := by rw [ti57]
@[simp] theorem ti57_offs : (ti Try.prog 57).offs = [] := by rw [ti57]
@[simp] theorem ti57_isS : (ti Try.prog 57).isS = true := by rw [ti57]; rfl
@[simp] theorem ti57_isP : (ti Try.prog 57).isP = false := by rw [ti57]; rfl
@[simp] theorem ti57_el : (ti Try.prog 57).el = 59 := by rw [ti57]; rfl
@[simp] theorem ti57_zs : (ti Try.prog 57).zs = [.nils] := by rw [ti57]; rfl
@[simp] theorem ti57_hasz : (ti Try.prog 57).hasz = true := by rw [ti57]; rfl
theorem ti59 : ti Try.prog 59 = { ok := true, kd := .struct, eqg := false, size := 5, bytes := 72, agg := true, elem := none, offs := [some 0, some 1, some 2, some 3, some 4], flds := (some [(0, 1), (1, 1), (2, 1), (3, 1), (4, 1)]), zero := (some [.int .i64 0, .int .i64 0, .int .i64 0, .nils, .nils]) } := by kernel_rfl
@[simp] theorem ti59_ok : (ti Try.prog 59).ok = true := by rw [ti59]
@[simp] theorem ti59_kd : (ti Try.prog 59).kd = .struct := by rw [ti59]
@[simp] theorem ti59_eqg : (ti Try.prog 59).eqg = false := by rw [ti59]
@[simp] theorem ti59_size : (ti Try.prog 59).size = 5 := by rw [ti59]
@[simp] theorem ti59_bytes : (ti Try.prog 59).bytes = 72 := by rw [ti59]
@[simp] theorem ti59_agg : (ti Try.prog 59).agg = true := by rw [ti59]
@[simp] theorem ti59_offs : (ti Try.prog 59).offs = [some 0, some 1, some 2, some 3, some 4] := by rw [ti59]
@[simp] theorem ti59_isS : (ti Try.prog 59).isS = false := by rw [ti59]; rfl
@[simp] theorem ti59_isP : (ti Try.prog 59).isP = false := by rw [ti59]; rfl
@[simp] theorem ti59_zs : (ti Try.prog 59).zs = [.int .i64 0, .int .i64 0, .int .i64 0, .nils, .nils] := by rw [ti59]; rfl
@[simp] theorem ti59_hasz : (ti Try.prog 59).hasz = true := by rw [ti59]; rfl
@[simp] theorem ti59_fl : (ti Try.prog 59).fl = [(0, 1), (1, 1), (2, 1), (3, 1), (4, 1)] := by rw [ti59]; rfl
@[simp] theorem ti59_hasf : (ti Try.prog 59).hasf = true := by rw [ti59]; rfl
theorem ti65 : ti Try.prog 65 = { ok := true, kd := (.slc 32), eqg := false, size := 1, bytes := 24, agg := false, elem := (some 32), offs := [], flds := none, zero := (some [.nils]) } := by kernel_rfl
@[simp] theorem ti65_ok : (ti Try.prog 65).ok = true := by rw [ti65]
@[simp] theorem ti65_kd : (ti Try.prog 65).kd = (.slc 32) := by rw [ti65]
@[simp] theorem ti65_eqg : (ti Try.prog 65).eqg = false := by rw [ti65]
@[simp] theorem ti65_size : (ti Try.prog 65).size = 1 := by rw [ti65]
@[simp] theorem ti65_bytes : (ti Try.prog 65).bytes = 24 := by rw [ti65]
@[simp] theorem ti65_agg : (ti Try.prog 65).agg = false := by rw [ti65]
@[simp] theorem ti65_offs : (ti Try.prog 65).offs = [] := by rw [ti65]
@[simp] theorem ti65_isS : (ti Try.prog 65).isS = true := by rw [ti65]; rfl
@[simp] theorem ti65_isP : (ti Try.prog 65).isP = false := by rw [ti65]; rfl
@[simp] theorem ti65_el : (ti Try.prog 65).el = 32 := by rw [ti65]; rfl
@[simp] theorem ti65_zs : (ti Try.prog 65).zs = [.nils] := by rw [ti65]; rfl
@[simp] theorem ti65_hasz : (ti Try.prog 65).hasz = true := by rw [ti65]; rfl
theorem ti67 : ti Try.prog 67 = { ok := true, kd := .struct, eqg := false, size := 2, bytes := 32, agg := true, elem := none, offs := [some 0, some 1], flds := (some [(0, 1), (1, 1)]), zero := (some [.nils, .int .i64 0]) } := by kernel_rfl
@[simp] theorem ti67_ok : (ti Try.prog 67).ok = true := by rw [ti67]
@[simp] theorem ti67_kd : (ti Try.prog 67).kd = .struct := by rw [ti67]
@[simp] theorem ti67_eqg : (ti Try.prog 67).eqg = false := by rw [ti67]
@[simp] theorem ti67_size : (ti Try.prog 67).size = 2 := by rw [ti67]
@[simp] theorem ti67_bytes : (ti Try.prog 67).bytes = 32 := by rw [ti67]
@[simp] theorem ti67_agg : (ti Try.prog 67).agg = true := by rw [ti67]
@[simp] theorem ti67_offs : (ti Try.prog 67).offs = [some 0, some 1] := by rw [ti67]
@[simp] theorem ti67_isS : (ti Try.prog 67).isS = false := by rw [ti67]; rfl
@[simp] theorem ti67_isP : (ti Try.prog 67).isP = false := by rw [ti67]; rfl
@[simp] theorem ti67_zs : (ti Try.prog 67).zs = [.nils, .int .i64 0] := by rw [ti67]; rfl
@[simp] theorem ti67_hasz : (ti Try.prog 67).hasz = true := by rw [ti67]; rfl
@[simp] theorem ti67_fl : (ti Try.prog 67).fl = [(0, 1), (1, 1)] := by rw [ti67]; rfl
@[simp] theorem ti67_hasf : (ti Try.prog 67).hasf = true := by rw [ti67]; rfl
theorem ti71 : ti Try.prog 71 = { ok := true, kd := .struct, eqg := false, size := 3, bytes := 40, agg := true, elem := none, offs := [some 0, some 1, some 2], flds := (some [(0, 1), (1, 1), (2, 1)]), zero := (some [.nils, .int .i64 0, .int .i64 0]) } := by kernel_rfl
@[simp] theorem ti71_ok : (ti Try.prog 71).ok = true := by rw [ti71]
@[simp] theorem ti71_kd : (ti Try.prog 71).kd = .struct := by rw [ti71]
@[simp] theorem ti71_eqg : (ti Try.prog 71).eqg = false := by rw [ti71]
@[simp] theorem ti71_size : (ti Try.prog 71).size = 3 := by rw [ti71]
@[simp] theorem ti71_bytes : (ti Try.prog 71).bytes = 40 := by rw [ti71]
@[simp] theorem ti71_agg : (ti Try.prog 71).agg = true := by rw [ti71]
@[simp] theorem ti71_offs : (ti Try.prog 71).offs = [some 0, some 1, some 2] := by rw [ti71]
@[simp] theorem ti71_isS : (ti Try.prog 71).isS = false := by rw [ti71]; rfl
@[simp] theorem ti71_isP : (ti Try.prog 71).isP = false := by rw [ti71]; rfl
@[simp] theorem ti71_zs : (ti Try.prog 71).zs = [.nils, .int .i64 0, .int .i64 0] := by rw [ti71]; rfl
@[simp] theorem ti71_hasz : (ti Try.prog 71).hasz = true := by rw [ti71]; rfl
@[simp] theorem ti71_fl : (ti Try.prog 71).fl = [(0, 1), (1, 1), (2, 1)] := by rw [ti71]; rfl
@[simp] theorem ti71_hasf : (ti Try.prog 71).hasf = true := by rw [ti71]; rfl
@[simp] theorem ca3 : callable Try.prog 3 = true := by kernel_rfl
@[simp] theorem ca4 : callable Try.prog 4 = true := by kernel_rfl
@[simp] theorem ca5 : callable Try.prog 5 = true := by kernel_rfl
@[simp] theorem ca6 : callable Try.prog 6 = true := by kernel_rfl
@[simp] theorem ca7 : callable Try.prog 7 = true := by kernel_rfl
@[simp] theorem ca8 : callable Try.prog 8 = true := by kernel_rfl
@[simp] theorem ca9 : callable Try.prog 9 = true := by kernel_rfl
@[simp] theorem ca10 : callable Try.prog 10 = true := by kernel_rfl
@[simp] theorem ca11 : callable Try.prog 11 = true := by kernel_rfl
@[simp] theorem ca12 : callable Try.prog 12 = true := by kernel_rfl
@[simp] theorem ca13 : callable Try.prog 13 = true := by kernel_rfl
@[simp] theorem ca14 : callable Try.prog 14 = true := by kernel_rfl
@[simp] theorem ca15 : callable Try.prog 15 = true := by kernel_rfl
@[simp] theorem ca16 : callable Try.prog 16 = true := by kernel_rfl
@[simp] theorem ca17 : callable Try.prog 17 = true := by kernel_rfl
@[simp] theorem ca18 : callable Try.prog 18 = true := by kernel_rfl
@[simp] theorem ca19 : callable Try.prog 19 = true := by kernel_rfl
@[simp] theorem ca20 : callable Try.prog 20 = true := by kernel_rfl
@[simp] theorem ca21 : callable Try.prog 21 = true := by kernel_rfl
@[simp] theorem ca22 : callable Try.prog 22 = true := by kernel_rfl
@[simp] theorem ca23 : callable Try.prog 23 = true := by kernel_rfl
@[simp] theorem ca24 : callable Try.prog 24 = true := by kernel_rfl
@[simp] theorem ca25 : callable Try.prog 25 = true := by kernel_rfl
@[simp] theorem ca26 : callable Try.prog 26 = true := by kernel_rfl
@[simp] theorem ca27 : callable Try.prog 27 = true := by kernel_rfl
@[simp] theorem ca28 : callable Try.prog 28 = true := by kernel_rfl
@[simp] theorem ca29 : callable Try.prog 29 = true := by kernel_rfl
@[simp] theorem ca30 : callable Try.prog 30 = true := by kernel_rfl
@[simp] theorem ca31 : callable Try.prog 31 = true := by kernel_rfl
@[simp] theorem ca32 : callable Try.prog 32 = true := by kernel_rfl
@[simp] theorem ca33 : callable Try.prog 33 = true := by kernel_rfl
@[simp] theorem ca34 : callable Try.prog 34 = true := by kernel_rfl
@[simp] theorem ca35 : callable Try.prog 35 = true := by kernel_rfl
@[simp] theorem ca36 : callable Try.prog 36 = true := by kernel_rfl
end Go.Proofs.Ytdpppigniaafnaa
