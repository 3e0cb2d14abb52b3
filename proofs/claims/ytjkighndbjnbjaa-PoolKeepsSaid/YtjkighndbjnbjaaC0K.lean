import Derived.Test.YtjkighndbjnbjaaAl2
import Derived.Test.YtjkighndbjnbjaaProg
import Derived.KernelRfl
set_option linter.unusedVariables false
set_option linter.unusedSimpArgs false
set_option maxRecDepth 100000
namespace Go.Proofs.Ytjkighndbjnbjaa
open Go Go.Al
theorem mixed : Try.prog.follows .mixedOrders = true := by kernel_rfl
theorem ti2 : ti Try.prog 2 = { ok := true, kd := (.int .i64), eqg := false, size := 1, bytes := 8, agg := false, elem := none, offs := [], flds := none, zero := (some [.int .i64 0]) } := by kernel_rfl
@[simp] theorem ti2_ok : (ti Try.prog 2).ok = true := by rw [ti2]
@[simp] theorem ti2_kd : (ti Try.prog 2).kd = (.int .i64) := by rw [ti2]
@[simp] theorem ti2_eqg : (ti Try.prog 2).eqg = false := by rw [ti2]
@[simp] theorem ti2_size : (ti Try.prog 2).size = 1 := by rw [ti2]
@[simp] theorem ti2_bytes : (ti Try.prog 2).bytes = 8 := by rw [ti2]
@[simp] theorem ti2_agg : (ti Try.prog 2).agg = false := by rw [ti2]
@[simp] theorem ti2_offs : (ti Try.prog 2).offs = [] := by rw [ti2]
@[simp] theorem ti2_isS : (ti Try.prog 2).isS = false := by rw [ti2]; rfl
@[simp] theorem ti2_isP : (ti Try.prog 2).isP = false := by rw [ti2]; rfl
@[simp] theorem ti2_zs : (ti Try.prog 2).zs = [.int .i64 0] := by rw [ti2]; rfl
@[simp] theorem ti2_hasz : (ti Try.prog 2).hasz = true := by rw [ti2]; rfl
theorem ti3 : ti Try.prog 3 = { ok := true, kd := (.int .i64), eqg := false, size := 1, bytes := 8, agg := false, elem := none, offs := [], flds := none, zero := (some [.int .i64 0]) } := by kernel_rfl
@[simp] theorem ti3_ok : (ti Try.prog 3).ok = true := by rw [ti3]
@[simp] theorem ti3_kd : (ti Try.prog 3).kd = (.int .i64) := by rw [ti3]
@[simp] theorem ti3_eqg : (ti Try.prog 3).eqg = false := by rw [ti3]
@[simp] theorem ti3_size : (ti Try.prog 3).size = 1 := by rw [ti3]
@[simp] theorem ti3_bytes : (ti Try.prog 3).bytes = 8 := by rw [ti3]
@[simp] theorem ti3_agg : (ti Try.prog 3).agg = false := by rw [ti3]
@[simp] theorem ti3_offs : (ti Try.prog 3).offs = [] := by rw [ti3]
@[simp] theorem ti3_isS : (ti Try.prog 3).isS = false := by rw [ti3]; rfl
@[simp] theorem ti3_isP : (ti Try.prog 3).isP = false := by rw [ti3]; rfl
@[simp] theorem ti3_zs : (ti Try.prog 3).zs = [.int .i64 0] := by rw [ti3]; rfl
@[simp] theorem ti3_hasz : (ti Try.prog 3).hasz = true := by rw [ti3]; rfl
theorem ti4 : ti Try.prog 4 = { ok := true, kd := .bool, eqg := false, size := 1, bytes := 1, agg := false, elem := none, offs := [], flds := none, zero := (some [.bool false]) } := by kernel_rfl
@[simp] theorem ti4_ok : (ti Try.prog 4).ok = true := by rw [ti4]
@[simp] theorem ti4_kd : (ti Try.prog 4).kd = .bool := by rw [ti4]
@[simp] theorem ti4_eqg : (ti Try.prog 4).eqg = false := by rw [ti4]
@[simp] theorem ti4_size : (ti Try.prog 4).size = 1 := by rw [ti4]
@[simp] theorem ti4_bytes : (ti Try.prog 4).bytes = 1 := by rw [ti4]
@[simp] theorem ti4_agg : (ti Try.prog 4).agg = false := by rw [ti4]
@[simp] theorem ti4_offs : (ti Try.prog 4).offs = [] := by rw [ti4]
@[simp] theorem ti4_isS : (ti Try.prog 4).isS = false := by rw [ti4]; rfl
@[simp] theorem ti4_isP : (ti Try.prog 4).isP = false := by rw [ti4]; rfl
@[simp] theorem ti4_zs : (ti Try.prog 4).zs = [.bool false] := by rw [ti4]; rfl
@[simp] theorem ti4_hasz : (ti Try.prog 4).hasz = true := by rw [ti4]; rfl
theorem ti22 : ti Try.prog 22 = { ok := true, kd := (.int .u32), eqg := false, size := 1, bytes := 4, agg := false, elem := none, offs := [], flds := none, zero := (some [.int .u32 0]) } := by kernel_rfl
@[simp] theorem ti22_ok : (ti Try.prog 22).ok = true := by rw [ti22]
@[simp] theorem ti22_kd : (ti Try.prog 22).kd = (.int .u32) := by rw [ti22]
@[simp] theorem ti22_eqg : (ti Try.prog 22).eqg = false := by rw [ti22]
@[simp] theorem ti22_size : (ti Try.prog 22).size = 1 := by rw [ti22]
@[simp] theorem ti22_bytes : (ti Try.prog 22).bytes = 4 := by rw [ti22]
@[simp] theorem ti22_agg : (ti Try.prog 22).agg = false := by rw [ti22]
@[simp] theorem ti22_offs : (ti Try.prog 22).offs = [] := by rw [ti22]
@[simp] theorem ti22_isS : (ti Try.prog 22).isS = false := by rw [ti22]; rfl
@[simp] theorem ti22_isP : (ti Try.prog 22).isP = false := by rw [ti22]; rfl
@[simp] theorem ti22_zs : (ti Try.prog 22).zs = [.int .u32 0] := by rw [ti22]; rfl
@[simp] theorem ti22_hasz : (ti Try.prog 22).hasz = true := by rw [ti22]; rfl
theorem ti23 : ti Try.prog 23 = { ok := true, kd := (.slc 35), eqg := false, size := 1, bytes := 24, agg := false, elem := (some 35), offs := [], flds := none, zero := (some [.nils]) } := by kernel_rfl
@[simp] theorem ti23_ok : (ti Try.prog 23).ok = true := by rw [ti23]
@[simp] theorem ti23_kd : (ti Try.prog 23).kd = (.slc 35) := by rw [ti23]
@[simp] theorem ti23_eqg : (ti Try.prog 23).eqg = false := by rw [ti23]
@[simp] theorem ti23_size : (ti Try.prog 23).size = 1 := by rw [ti23]
@[simp] theorem ti23_bytes : (ti Try.prog 23).bytes = 24 := by rw [ti23]
@[simp] theorem ti23_agg : (ti Try.prog 23).agg = false := by rw [ti23]
@[simp] theorem ti23_offs : (ti Try.prog 23).offs = [] := by rw [ti23]
@[simp] theorem ti23_isS : (ti Try.prog 23).isS = true := by rw [ti23]; rfl
@[simp] theorem ti23_isP : (ti Try.prog 23).isP = false := by rw [ti23]; rfl
@[simp] theorem ti23_el : (ti Try.prog 23).el = 35 := by rw [ti23]; rfl
@[simp] theorem ti23_zs : (ti Try.prog 23).zs = [.nils] := by rw [ti23]; rfl
@[simp] theorem ti23_hasz : (ti Try.prog 23).hasz = true := by rw [ti23]; rfl
theorem ti24 : ti Try.prog 24 = { ok := true, kd := (.ptr 57), eqg := false, size := 1, bytes := 8, agg := false, elem := none, offs := [], flds := none, zero := (some [.nil]) } := by kernel_rfl
@[simp] theorem ti24_ok : (ti Try.prog 24).ok = true := by rw [ti24]
@[simp] theorem ti24_kd : (ti Try.prog 24).kd = (.ptr 57) := by rw [ti24]
@[simp] theorem ti24_eqg : (ti Try.prog 24).eqg = false := by rw [ti24]
@[simp] theorem ti24_size : (ti Try.prog 24).size = 1 := by rw [ti24]
@[simp] theorem ti24_bytes : (ti Try.prog 24).bytes = 8 := by rw [ti24]
@[simp] theorem ti24_agg : (ti Try.prog 24).agg = false := by rw [ti24]
@[simp] theorem ti24_offs : (ti Try.prog 24).offs = [] := by rw [ti24]
@[simp] theorem ti24_isS : (ti Try.prog 24).isS = false := by rw [ti24]; rfl
@[simp] theorem ti24_isP : (ti Try.prog 24).isP = true := by rw [ti24]; rfl
@[simp] theorem ti24_zs : (ti Try.prog 24).zs = [.nil] := by rw [ti24]; rfl
@[simp] theorem ti24_hasz : (ti Try.prog 24).hasz = true := by rw [ti24]; rfl
theorem ti25 : ti Try.prog 25 = { ok := true, kd := (.int .i64), eqg := false, size := 1, bytes := 8, agg := false, elem := none, offs := [], flds := none, zero := (some [.int .i64 0]) } := by kernel_rfl
@[simp] theorem ti25_ok : (ti Try.prog 25).ok = true := by rw [ti25]
@[simp] theorem ti25_kd : (ti Try.prog 25).kd = (.int .i64) := by rw [ti25]
@[simp] theorem ti25_eqg : (ti Try.prog 25).eqg = false := by rw [ti25]
@[simp] theorem ti25_size : (ti Try.prog 25).size = 1 := by rw [ti25]
@[simp] theorem ti25_bytes : (ti Try.prog 25).bytes = 8 := by rw [ti25]
@[simp] theorem ti25_agg : (ti Try.prog 25).agg = false := by rw [ti25]
@[simp] theorem ti25_offs : (ti Try.prog 25).offs = [] := by rw [ti25]
@[simp] theorem ti25_isS : (ti Try.prog 25).isS = false := by rw [ti25]; rfl
@[simp] theorem ti25_isP : (ti Try.prog 25).isP = false := by rw [ti25]; rfl
@[simp] theorem ti25_zs : (ti Try.prog 25).zs = [.int .i64 0] := by rw [ti25]; rfl
@[simp] theorem ti25_hasz : (ti Try.prog 25).hasz = true := by rw [ti25]; rfl
theorem ti28 : ti Try.prog 28 = { ok := true, kd := (.int .u32), eqg := false, size := 1, bytes := 4, agg := false, elem := none, offs := [], flds := none, zero := (some [.int .u32 0]) } := by kernel_rfl
@[simp] theorem ti28_ok : (ti Try.prog 28).ok = true := by rw [ti28]
@[simp] theorem ti28_kd : (ti Try.prog 28).kd = (.int .u32) := by rw [ti28]
@[simp] theorem ti28_eqg : (ti Try.prog 28).eqg = false := by rw [ti28]
@[simp] theorem ti28_size : (ti Try.prog 28).size = 1 := by rw [ti28]
@[simp] theorem ti28_bytes : (ti Try.prog 28).bytes = 4 := by rw [ti28]
@[simp] theorem ti28_agg : (ti Try.prog 28).agg = false := by rw [ti28]
@[simp] theorem ti28_offs : (ti Try.prog 28).offs = [] := by rw [ti28]
@[simp] theorem ti28_isS : (ti Try.prog 28).isS = false := by rw [ti28]; rfl
@[simp] theorem ti28_isP : (ti Try.prog 28).isP = false := by rw [ti28]; rfl
@[simp] theorem ti28_zs : (ti Try.prog 28).zs = [.int .u32 0] := by rw [ti28]; rfl
@[simp] theorem ti28_hasz : (ti Try.prog 28).hasz = true := by rw [ti28]; rfl
theorem ti29 : ti Try.prog 29 = { ok := true, kd := (.ptr 61), eqg := false, size := 1, bytes := 8, agg := false, elem := none, offs := [], flds := none, zero := (some [.nil]) } := by kernel_rfl
@[simp] theorem ti29_ok : (ti Try.prog 29).ok = true := by rw [ti29]
@[simp] theorem ti29_kd : (ti Try.prog 29).kd = (.ptr 61) := by rw [ti29]
@[simp] theorem ti29_eqg : (ti Try.prog 29).eqg = false := by rw [ti29]
@[simp] theorem ti29_size : (ti Try.prog 29).size = 1 := by rw [ti29]
@[simp] theorem ti29_bytes : (ti Try.prog 29).bytes = 8 := by rw [ti29]
@[simp] theorem ti29_agg : (ti Try.prog 29).agg = false := by rw [ti29]
@[simp] theorem ti29_offs : (ti Try.prog 29).offs = [] := by rw [ti29]
@[simp] theorem ti29_isS : (ti Try.prog 29).isS = false := by rw [ti29]; rfl
@[simp] theorem ti29_isP : (ti Try.prog 29).isP = true := by rw [ti29]; rfl
@[simp] theorem ti29_zs : (ti Try.prog 29).zs = [.nil] := by rw [ti29]; rfl
@[simp] theorem ti29_hasz : (ti Try.prog 29).hasz = true := by rw [ti29]; rfl
theorem ti33 : ti Try.prog 33 = { ok := true, kd := (.int .u64), eqg := false, size := 1, bytes := 8, agg := false, elem := none, offs := [], flds := none, zero := (some [.int .u64 0]) } := by kernel_rfl
@[simp] theorem ti33_ok : (ti Try.prog 33).ok = true := by rw [ti33]
@[simp] theorem ti33_kd : (ti Try.prog 33).kd = (.int .u64) := by rw [ti33]
@[simp] theorem ti33_eqg : (ti Try.prog 33).eqg = false := by rw [ti33]
@[simp] theorem ti33_size : (ti Try.prog 33).size = 1 := by rw [ti33]
@[simp] theorem ti33_bytes : (ti Try.prog 33).bytes = 8 := by rw [ti33]
@[simp] theorem ti33_agg : (ti Try.prog 33).agg = false := by rw [ti33]
@[simp] theorem ti33_offs : (ti Try.prog 33).offs = [] := by rw [ti33]
@[simp] theorem ti33_isS : (ti Try.prog 33).isS = false := by rw [ti33]; rfl
@[simp] theorem ti33_isP : (ti Try.prog 33).isP = false := by rw [ti33]; rfl
@[simp] theorem ti33_zs : (ti Try.prog 33).zs = [.int .u64 0] := by rw [ti33]; rfl
@[simp] theorem ti33_hasz : (ti Try.prog 33).hasz = true := by rw [ti33]; rfl
theorem ti35 : ti Try.prog 35 = { ok := true, kd := .struct, eqg := false, size := 5, bytes := 40, agg := true, elem := none, offs := [some 0, some 1, some 2, some 3, some 4], flds := (some [(0, 1), (1, 1), (2, 1), (3, 1), (4, 1)]), zero := (some [.int .i64 0, .int .u64 0, .int .u32 0, .int .i64 0, .int .i64 0]) } := by kernel_rfl
@[simp] theorem ti35_ok : (ti Try.prog 35).ok = true := by rw [ti35]
@[simp] theorem ti35_kd : (ti Try.prog 35).kd = .struct := by rw [ti35]
@[simp] theorem ti35_eqg : (ti Try.prog 35).eqg = false := by rw [ti35]
@[simp] theorem ti35_size : (ti Try.prog 35).size = 5 := by rw [ti35]
@[simp] theorem ti35_bytes : (ti Try.prog 35).bytes = 40 := by rw [ti35]
@[simp] theorem ti35_agg : (ti Try.prog 35).agg = true := by rw [ti35]
@[simp] theorem ti35_offs : (ti Try.prog 35).offs = [some 0, some 1, some 2, some 3, some 4] := by rw [ti35]
@[simp] theorem ti35_isS : (ti Try.prog 35).isS = false := by rw [ti35]; rfl
@[simp] theorem ti35_isP : (ti Try.prog 35).isP = false := by rw [ti35]; rfl
@[simp] theorem ti35_zs : (ti Try.prog 35).zs = [.int .i64 0, .int .u64 0, .int .u32 0, .int .i64 0, .int .i64 0] := by rw [ti35]; rfl
@[simp] theorem ti35_hasz : (ti Try.prog 35).hasz = true := by rw [ti35]; rfl
@[simp] theorem ti35_fl : (ti Try.prog 35).fl = [(0, 1), (1, 1), (2, 1), (3, 1), (4, 1)] := by rw [ti35]; rfl
@[simp] theorem ti35_hasf : (ti Try.prog 35).hasf = true := by rw [ti35]; rfl
theorem ti37 : ti Try.prog 37 = { ok := true, kd := (.slc 41), eqg := false, size := 1, bytes := 24, agg := false, elem := (some 41), offs := [], flds := none, zero := (some [.nils]) } := by kernel_rfl
@[simp] theorem ti37_ok : (ti Try.prog 37).ok = true := by rw [ti37]
@[simp] theorem ti37_kd : (ti Try.prog 37).kd = (.slc 41) := by rw [ti37]
@[simp] theorem ti37_eqg : (ti Try.prog 37).eqg = false := by rw [ti37]
@[simp] theorem ti37_size : (ti Try.prog 37).size = 1 := by rw [ti37]
@[simp] theorem ti37_bytes : (ti Try.prog 37).bytes = 24 := by rw [ti37]
@[simp] theorem ti37_agg : (ti Try.prog 37).agg = false := by rw [ti37]
@[simp] theorem ti37_offs : (ti Try.prog 37).offs = [] := by rw [ti37]
@[simp] theorem ti37_isS : (ti Try.prog 37).isS = true := by rw [ti37]; rfl
@[simp] theorem ti37_isP : (ti Try.prog 37).isP = false := by rw [ti37]; rfl
@[simp] theorem ti37_el : (ti Try.prog 37).el = 41 := by rw [ti37]; rfl
@[simp] theorem ti37_zs : (ti Try.prog 37).zs = [.nils] := by rw [ti37]; rfl
@[simp] theorem ti37_hasz : (ti Try.prog 37).hasz = true := by rw [ti37]; rfl
theorem ti39 : ti Try.prog 39 = { ok := true, kd := (.int .u64), eqg := false, size := 1, bytes := 8, agg := false, elem := none, offs := [], flds := none, zero := (some [.int .u64 0]) } := by kernel_rfl
@[simp] theorem ti39_ok : (ti Try.prog 39).ok = true := by rw [ti39]
@[simp] theorem ti39_kd : (ti Try.prog 39).kd = (.int .u64) := by rw [ti39]
@[simp] theorem ti39_eqg : (ti Try.prog 39).eqg = false := by rw [ti39]
@[simp] theorem ti39_size : (ti Try.prog 39).size = 1 := by rw [ti39]
@[simp] theorem ti39_bytes : (ti Try.prog 39).bytes = 8 := by rw [ti39]
@[simp] theorem ti39_agg : (ti Try.prog 39).agg = false := by rw [ti39]
@[simp] theorem ti39_offs : (ti Try.prog 39).offs = [] := by rw [ti39]
@[simp] theorem ti39_isS : (ti Try.prog 39).isS = false := by rw [ti39]; rfl
@[simp] theorem ti39_isP : (ti Try.prog 39).isP = false := by rw [ti39]; rfl
@[simp] theorem ti39_zs : (ti Try.prog 39).zs = [.int .u64 0] := by rw [ti39]; rfl
@[simp] theorem ti39_hasz : (ti Try.prog 39).hasz = true := by rw [ti39]; rfl
theorem ti41 : ti Try.prog 41 = { ok := true, kd := .struct, eqg := false, size := 3, bytes := 24, agg := true, elem := none, offs := [some 0, some 1, some 2], flds := (some [(0, 1), (1, 1), (2, 1)]), zero := (some [.int .u64 0, .int .u32 0, .int .i64 0]) } := by kernel_rfl
@[simp] theorem ti41_ok : (ti Try.prog 41).ok = true := by rw [ti41]
@[simp] theorem ti41_kd : (ti Try.prog 41).kd = .struct := by rw [ti41]
@[simp] theorem ti41_eqg : (ti Try.prog 41).eqg = false := by rw [ti41]
@[simp] theorem ti41_size : (ti Try.prog 41).size = 3 := by rw [ti41]
@[simp] theorem ti41_bytes : (ti Try.prog 41).bytes = 24 := by rw [ti41]
@[simp] theorem ti41_agg : (ti Try.prog 41).agg = true := by rw [ti41]
@[simp] theorem ti41_offs : (ti Try.prog 41).offs = [some 0, some 1, some 2] := by rw [ti41]
@[simp] theorem ti41_isS : (ti Try.prog 41).isS = false := by rw [ti41]; rfl
@[simp] theorem ti41_isP : (ti Try.prog 41).isP = false := by rw [ti41]; rfl
@[simp] theorem ti41_zs : (ti Try.prog 41).zs = [.int .u64 0, .int .u32 0, .int .i64 0] := by rw [ti41]; rfl
@[simp] theorem ti41_hasz : (ti Try.prog 41).hasz = true := by rw [ti41]; rfl
@[simp] theorem ti41_fl : (ti Try.prog 41).fl = [(0, 1), (1, 1), (2, 1)] := by rw [ti41]; rfl
@[simp] theorem ti41_hasf : (ti Try.prog 41).hasf = true := by rw [ti41]; rfl
theorem ti54 : ti Try.prog 54 = { ok := true, kd := (.ptr 81), eqg := false, size := 1, bytes := 8, agg := false, elem := none, offs := [], flds := none, zero := (some [.nil]) } := by kernel_rfl
@[simp] theorem ti54_ok : (ti Try.prog 54).ok = true := by rw [ti54]
@[simp] theorem ti54_kd : (ti Try.prog 54).kd = (.ptr 81) := by rw [ti54]
@[simp] theorem ti54_eqg : (ti Try.prog 54).eqg = false := by rw [ti54]
@[simp] theorem ti54_size : (ti Try.prog 54).size = 1 := by rw [ti54]
@[simp] theorem ti54_bytes : (ti Try.prog 54).bytes = 8 := by rw [ti54]
@[simp] theorem ti54_agg : (ti Try.prog 54).agg = false := by rw [ti54]
@[simp] theorem ti54_offs : (ti Try.prog 54).offs = [] := by rw [ti54]
@[simp] theorem ti54_isS : (ti Try.prog 54).isS = false := by rw [ti54]; rfl
@[simp] theorem ti54_isP : (ti Try.prog 54).isP = true := by rw [ti54]; rfl
@[simp] theorem ti54_zs : (ti Try.prog 54).zs = [.nil] := by rw [ti54]; rfl
@[simp] theorem ti54_hasz : (ti Try.prog 54).hasz = true := by rw [ti54]; rfl
theorem ti57 : ti Try.prog 57 = { ok := true, kd := .struct, eqg := false, size := 4, bytes := 32, agg := true, elem := none, offs := [some 0, some 1, some 2, some 3], flds := (some [(0, 1), (1, 1), (2, 1), (3, 1)]), zero := (some [.int .u32 0, .int .i64 0, .int .i64 0, .nil]) } := by kernel_rfl
@[simp] theorem ti57_ok : (ti Try.prog 57).ok = true := by rw [ti57]
@[simp] theorem ti57_kd : (ti Try.prog 57).kd = .struct := by rw [ti57]
@[simp] theorem ti57_eqg : (ti Try.prog 57).eqg = false := by rw [ti57]
@[simp] theorem ti57_size : (ti Try.prog 57).size = 4 := by rw [ti57]
@[simp] theorem ti57_bytes : (ti Try.prog 57).bytes = 32 := by rw [ti57]
@[simp] theorem ti57_agg : (ti Try.prog 57).agg = true := by rw [ti57]
@[simp] theorem ti57_offs : (ti Try.prog 57).offs = [some 0, some 1, some 2, some 3] := by rw [ti57]
@[simp] theorem ti57_isS : (ti Try.prog 57).isS = false := by rw [ti57]; rfl
@[simp] theorem ti57_isP : (ti Try.prog 57).isP = false := by rw [ti57]; rfl
@[simp] theorem ti57_zs : (ti Try.prog 57).zs = [.int .u32 0, .int .i64 0, .int .i64 0, .nil] := by rw [ti57]; rfl
@[simp] theorem ti57_hasz : (ti Try.prog 57).hasz = true := by rw [ti57]; rfl
@[simp] theorem ti57_fl : (ti Try.prog 57).fl = [(0, 1), (1, 1), (2, 1), (3, 1)] := by rw [ti57]; rfl
@[simp] theorem ti57_hasf : (ti Try.prog 57).hasf = true := by rw [ti57]; rfl
theorem ti58 : ti Try.prog 58 = { ok := true, kd := (.slc 4), eqg := false, size := 1, bytes := 24, agg := false, elem := (some 4), offs := [], flds := none, zero := (some [.nils]) } := by kernel_rfl
@[simp] theorem ti58_ok : (ti Try.prog 58).ok = true := by rw [ti58]
@[simp] theorem ti58_kd : (ti Try.prog 58).kd = (.slc 4) := by rw [ti58]
@[simp] theorem ti58_eqg : (ti Try.prog 58).eqg = false := by rw [ti58]
@[simp] theorem ti58_size : (ti Try.prog 58).size = 1 := by rw [ti58]
@[simp] theorem ti58_bytes : (ti Try.prog 58).bytes = 24 := by rw [ti58]
@[simp] theorem ti58_agg : (ti Try.prog 58).agg = false := by rw [ti58]
@[simp] theorem ti58_offs : (ti Try.prog 58).offs = [] := by rw [ti58]
@[simp] theorem ti58_isS : (ti Try.prog 58).isS = true := by rw [ti58]; rfl
@[simp] theorem ti58_isP : (ti Try.prog 58).isP = false := by rw [ti58]; rfl
@[simp] theorem ti58_el : (ti Try.prog 58).el = 4 := by rw [ti58]; rfl
@[simp] theorem ti58_zs : (ti Try.prog 58).zs = [.nils] := by rw [ti58]; rfl
@[simp] theorem ti58_hasz : (ti Try.prog 58).hasz = true := by rw [ti58]; rfl
theorem ti59 : ti Try.prog 59 = { ok := true, kd := (.slc 66), eqg := false, size := 1, bytes := 24, agg := false, elem := (some 66), offs := [], flds := none, zero := (some [.nils]) } := by kernel_rfl
@[simp] theorem ti59_ok : (ti Try.prog 59).ok = true := by rw [ti59]
@[simp] theorem ti59_kd : (ti Try.prog 59).kd = (.slc 66) := by rw [ti59]
@[simp] theorem ti59_eqg : (ti Try.prog 59).eqg = false := by rw [ti59]
@[simp] theorem ti59_size : (ti Try.prog 59).size = 1 := by rw [ti59]
@[simp] theorem ti59_bytes : (ti Try.prog 59).bytes = 24 := by rw [ti59]
@[simp] theorem ti59_agg : (ti Try.prog 59).agg = false := by rw [ti59]
@[simp] theorem ti59_offs : (ti Try.prog 59).offs = [] := by rw [ti59]
@[simp] theorem ti59_isS : (ti Try.prog 59).isS = true := by rw [ti59]; rfl
@[simp] theorem ti59_isP : (ti Try.prog 59).isP = false := by rw [ti59]; rfl
@[simp] theorem ti59_el : (ti Try.prog 59).el = 66 := by rw [ti59]; rfl
@[simp] theorem ti59_zs : (ti Try.prog 59).zs = [.nils] := by rw [ti59]; rfl
@[simp] theorem ti59_hasz : (ti Try.prog 59).hasz = true := by rw [ti59]; rfl
theorem ti61 : ti Try.prog 61 = { ok := true, kd := .struct, eqg := false, size := 4, bytes := 64, agg := true, elem := none, offs := [some 0, some 1, some 2, some 3], flds := (some [(0, 1), (1, 1), (2, 1), (3, 1)]), zero := (some [.int .u32 0, .int .i64 0, .nils, .nils]) } := by kernel_rfl
@[simp] theorem ti61_ok : (ti Try.prog 61).ok = true := by rw [ti61]
@[simp] theorem ti61_kd : (ti Try.prog 61).kd = .struct := by rw [ti61]
@[simp] theorem ti61_eqg : (ti Try.prog 61).eqg = false := by rw [ti61]
@[simp] theorem ti61_size : (ti Try.prog 61).size = 4 := by rw [ti61]
@[simp] theorem ti61_bytes : (ti Try.prog 61).bytes = 64 := by rw [ti61]
@[simp] theorem ti61_agg : (ti Try.prog 61).agg = true := by rw [ti61]
@[simp] theorem ti61_offs : (ti Try.prog 61).offs = [some 0, some 1, some 2, some 3] := by rw [ti61]
@[simp] theorem ti61_isS : (ti Try.prog 61).isS = false := by rw [ti61]; rfl
@[simp] theorem ti61_isP : (ti Try.prog 61).isP = false := by rw [ti61]; rfl
@[simp] theorem ti61_zs : (ti Try.prog 61).zs = [.int .u32 0, .int .i64 0, .nils, .nils] := by rw [ti61]; rfl
@[simp] theorem ti61_hasz : (ti Try.prog 61).hasz = true := by rw [ti61]; rfl
@[simp] theorem ti61_fl : (ti Try.prog 61).fl = [(0, 1), (1, 1), (2, 1), (3, 1)] := by rw [ti61]; rfl
@[simp] theorem ti61_hasf : (ti Try.prog 61).hasf = true := by rw [ti61]; rfl
theorem ti66 : ti Try.prog 66 = { ok := true, kd := .struct, eqg := false, size := 3, bytes := 24, agg := true, elem := none, offs := [some 0, some 1, some 2], flds := (some [(0, 1), (1, 1), (2, 1)]), zero := (some [.int .u64 0, .int .u32 0, .int .i64 0]) } := by kernel_rfl
@[simp] theorem ti66_ok : (ti Try.prog 66).ok = true := by rw [ti66]
@[simp] theorem ti66_kd : (ti Try.prog 66).kd = .struct := by rw [ti66]
@[simp] theorem ti66_eqg : (ti Try.prog 66).eqg = false := by rw [ti66]
@[simp] theorem ti66_size : (ti Try.prog 66).size = 3 := by rw [ti66]
@[simp] theorem ti66_bytes : (ti Try.prog 66).bytes = 24 := by rw [ti66]
@[simp] theorem ti66_agg : (ti Try.prog 66).agg = true := by rw [ti66]
@[simp] theorem ti66_offs : (ti Try.prog 66).offs = [some 0, some 1, some 2] := by rw [ti66]
@[simp] theorem ti66_isS : (ti Try.prog 66).isS = false := by rw [ti66]; rfl
@[simp] theorem ti66_isP : (ti Try.prog 66).isP = false := by rw [ti66]; rfl
@[simp] theorem ti66_zs : (ti Try.prog 66).zs = [.int .u64 0, .int .u32 0, .int .i64 0] := by rw [ti66]; rfl
@[simp] theorem ti66_hasz : (ti Try.prog 66).hasz = true := by rw [ti66]; rfl
@[simp] theorem ti66_fl : (ti Try.prog 66).fl = [(0, 1), (1, 1), (2, 1)] := by rw [ti66]; rfl
@[simp] theorem ti66_hasf : (ti Try.prog 66).hasf = true := by rw [ti66]; rfl
theorem ti78 : ti Try.prog 78 = { ok := true, kd := .func, eqg := false, size := 1, bytes := 8, agg := false, elem := none, offs := [], flds := none, zero := (some [.any]) } := by kernel_rfl
@[simp] theorem ti78_ok : (ti Try.prog 78).ok = true := by rw [ti78]
@[simp] theorem ti78_kd : (ti Try.prog 78).kd = .func := by rw [ti78]
@[simp] theorem ti78_eqg : (ti Try.prog 78).eqg = false := by rw [ti78]
@[simp] theorem ti78_size : (ti Try.prog 78).size = 1 := by rw [ti78]
@[simp] theorem ti78_bytes : (ti Try.prog 78).bytes = 8 := by rw [ti78]
@[simp] theorem ti78_agg : (ti Try.prog 78).agg = false := by rw [ti78]
@[simp] theorem ti78_offs : (ti Try.prog 78).offs = [] := by rw [ti78]
@[simp] theorem ti78_isS : (ti Try.prog 78).isS = false := by rw [ti78]; rfl
@[simp] theorem ti78_isP : (ti Try.prog 78).isP = false := by rw [ti78]; rfl
@[simp] theorem ti78_zs : (ti Try.prog 78).zs = [.any] := by rw [ti78]; rfl
@[simp] theorem ti78_hasz : (ti Try.prog 78).hasz = true := by rw [ti78]; rfl
theorem ti79 : ti Try.prog 79 = { ok := true, kd := (.slc 86), eqg := false, size := 1, bytes := 24, agg := false, elem := (some 86), offs := [], flds := none, zero := (some [.nils]) } := by kernel_rfl
@[simp] theorem ti79_ok : (ti Try.prog 79).ok = true := by rw [ti79]
@[simp] theorem ti79_kd : (ti Try.prog 79).kd = (.slc 86) := by rw [ti79]
@[simp] theorem ti79_eqg : (ti Try.prog 79).eqg = false := by rw [ti79]
@[simp] theorem ti79_size : (ti Try.prog 79).size = 1 := by rw [ti79]
@[simp] theorem ti79_bytes : (ti Try.prog 79).bytes = 24 := by rw [ti79]
@[simp] theorem ti79_agg : (ti Try.prog 79).agg = false := by rw [ti79]
@[simp] theorem ti79_offs : (ti Try.prog 79).offs = [] := by rw [ti79]
@[simp] theorem ti79_isS : (ti Try.prog 79).isS = true := by rw [ti79]; rfl
@[simp] theorem ti79_isP : (ti Try.prog 79).isP = false := by rw [ti79]; rfl
@[simp] theorem ti79_el : (ti Try.prog 79).el = 86 := by rw [ti79]; rfl
@[simp] theorem ti79_zs : (ti Try.prog 79).zs = [.nils] := by rw [ti79]; rfl
@[simp] theorem ti79_hasz : (ti Try.prog 79).hasz = true := by rw [ti79]; rfl
theorem ti81 : ti Try.prog 81 = { ok := true, kd := .struct, eqg := false, size := 2, bytes := 32, agg := true, elem := none, offs := [some 0, some 1], flds := (some [(0, 1), (1, 1)]), zero := (some [.nils, .int .i64 0]) } := by kernel_rfl
@[simp] theorem ti81_ok : (ti Try.prog 81).ok = true := by rw [ti81]
@[simp] theorem ti81_kd : (ti Try.prog 81).kd = .struct := by rw [ti81]
@[simp] theorem ti81_eqg : (ti Try.prog 81).eqg = false := by rw [ti81]
@[simp] theorem ti81_size : (ti Try.prog 81).size = 2 := by rw [ti81]
@[simp] theorem ti81_bytes : (ti Try.prog 81).bytes = 32 := by rw [ti81]
@[simp] theorem ti81_agg : (ti Try.prog 81).agg = true := by rw [ti81]
@[simp] theorem ti81_offs : (ti Try.prog 81).offs = [some 0, some 1] := by rw [ti81]
@[simp] theorem ti81_isS : (ti Try.prog 81).isS = false := by rw [ti81]; rfl
@[simp] theorem ti81_isP : (ti Try.prog 81).isP = false := by rw [ti81]; rfl
@[simp] theorem ti81_zs : (ti Try.prog 81).zs = [.nils, .int .i64 0] := by rw [ti81]; rfl
@[simp] theorem ti81_hasz : (ti Try.prog 81).hasz = true := by rw [ti81]; rfl
@[simp] theorem ti81_fl : (ti Try.prog 81).fl = [(0, 1), (1, 1)] := by rw [ti81]; rfl
@[simp] theorem ti81_hasf : (ti Try.prog 81).hasf = true := by rw [ti81]; rfl
theorem ti86 : ti Try.prog 86 = { ok := true, kd := .struct, eqg := false, size := 4, bytes := 32, agg := true, elem := none, offs := [some 0, some 1], flds := (some [(0, 1), (1, 3)]), zero := (some [.int .u32 0, .int .u64 0, .int .u32 0, .int .i64 0]) } := by kernel_rfl
@[simp] theorem ti86_ok : (ti Try.prog 86).ok = true := by rw [ti86]
@[simp] theorem ti86_kd : (ti Try.prog 86).kd = .struct := by rw [ti86]
@[simp] theorem ti86_eqg : (ti Try.prog 86).eqg = false := by rw [ti86]
@[simp] theorem ti86_size : (ti Try.prog 86).size = 4 := by rw [ti86]
@[simp] theorem ti86_bytes : (ti Try.prog 86).bytes = 32 := by rw [ti86]
@[simp] theorem ti86_agg : (ti Try.prog 86).agg = true := by rw [ti86]
@[simp] theorem ti86_offs : (ti Try.prog 86).offs = [some 0, some 1] := by rw [ti86]
@[simp] theorem ti86_isS : (ti Try.prog 86).isS = false := by rw [ti86]; rfl
@[simp] theorem ti86_isP : (ti Try.prog 86).isP = false := by rw [ti86]; rfl
@[simp] theorem ti86_zs : (ti Try.prog 86).zs = [.int .u32 0, .int .u64 0, .int .u32 0, .int .i64 0] := by rw [ti86]; rfl
@[simp] theorem ti86_hasz : (ti Try.prog 86).hasz = true := by rw [ti86]; rfl
@[simp] theorem ti86_fl : (ti Try.prog 86).fl = [(0, 1), (1, 3)] := by rw [ti86]; rfl
@[simp] theorem ti86_hasf : (ti Try.prog 86).hasf = true := by rw [ti86]; rfl
theorem ti90 : ti Try.prog 90 = { ok := true, kd := (.slc 28), eqg := false, size := 1, bytes := 24, agg := false, elem := (some 28), offs := [], flds := none, zero := (some [.nils]) } := by kernel_rfl
@[simp] theorem ti90_ok : (ti Try.prog 90).ok = true := by rw [ti90]
@[simp] theorem ti90_kd : (ti Try.prog 90).kd = (.slc 28) := by rw [ti90]
@[simp] theorem ti90_eqg : (ti Try.prog 90).eqg = false := by rw [ti90]
@[simp] theorem ti90_size : (ti Try.prog 90).size = 1 := by rw [ti90]
@[simp] theorem ti90_bytes : (ti Try.prog 90).bytes = 24 := by rw [ti90]
@[simp] theorem ti90_agg : (ti Try.prog 90).agg = false := by rw [ti90]
@[simp] theorem ti90_offs : (ti Try.prog 90).offs = [] := by rw [ti90]
@[simp] theorem ti90_isS : (ti Try.prog 90).isS = true := by rw [ti90]; rfl
@[simp] theorem ti90_isP : (ti Try.prog 90).isP = false := by rw [ti90]; rfl
@[simp] theorem ti90_el : (ti Try.prog 90).el = 28 := by rw [ti90]; rfl
@[simp] theorem ti90_zs : (ti Try.prog 90).zs = [.nils] := by rw [ti90]; rfl
@[simp] theorem ti90_hasz : (ti Try.prog 90).hasz = true := by rw [ti90]; rfl
@[simp] theorem ca3 : callable Try.prog 3 = true := by kernel_rfl
@[simp] theorem ca4 : callable Try.prog 4 = true := by kernel_rfl
@[simp] theorem ca5 : callable Try.prog 5 = true := by kernel_rfl
@[simp] theorem ca6 : callable Try.prog 6 = true := by kernel_rfl
@[simp] theorem ca7 : callable Try.prog 7 = true := by kernel_rfl
@[simp] theorem ca8 : callable Try.prog 8 = true := by kernel_rfl
@[simp] theorem ca9 : callable Try.prog 9 = true := by kernel_rfl
@[simp] theorem ca10 : callable Try.prog 10 = true := by kernel_rfl
@[simp] theorem ca11 : callable Try.prog 11 = true := by kernel_rfl
@[simp] theorem ca12 : callable Try.prog 12 = true := by kernel_rfl
@[simp] theorem ca13 : callable Try.prog 13 = true := by kernel_rfl
@[simp] theorem ca14 : callable Try.prog 14 = true := by kernel_rfl
@[simp] theorem ca15 : callable Try.prog 15 = true := by kernel_rfl
@[simp] theorem ca16 : callable Try.prog 16 = true := by kernel_rfl
@[simp] theorem ca17 : callable Try.prog 17 = true := by kernel_rfl
@[simp] theorem ca18 : callable Try.prog 18 = true := by kernel_rfl
@[simp] theorem ca19 : callable Try.prog 19 = true := by kernel_rfl
@[simp] theorem ca20 : callable Try.prog 20 = true := by kernel_rfl
@[simp] theorem ca21 : callable Try.prog 21 = true := by kernel_rfl
@[simp] theorem ca22 : callable Try.prog 22 = true := by kernel_rfl
@[simp] theorem ca23 : callable Try.prog 23 = true := by kernel_rfl
@[simp] theorem ca24 : callable Try.prog 24 = true := by kernel_rfl
@[simp] theorem ca25 : callable Try.prog 25 = true := by kernel_rfl
@[simp] theorem ca26 : callable Try.prog 26 = true := by kernel_rfl
@[simp] theorem ca27 : callable Try.prog 27 = true := by kernel_rfl
@[simp] theorem ca28 : callable Try.prog 28 = true := by kernel_rfl
@[simp] theorem ca29 : callable Try.prog 29 = true := by kernel_rfl
@[simp] theorem ca30 : callable Try.prog 30 = true := by kernel_rfl
@[simp] theorem ca31 : callable Try.prog 31 = true := by kernel_rfl
@[simp] theorem ca32 : callable Try.prog 32 = true := by kernel_rfl
@[simp] theorem ca33 : callable Try.prog 33 = true := by kernel_rfl
@[simp] theorem ca34 : callable Try.prog 34 = true := by kernel_rfl
@[simp] theorem ca35 : callable Try.prog 35 = true := by kernel_rfl
@[simp] theorem ca36 : callable Try.prog 36 = true := by kernel_rfl
@[simp] theorem ca37 : callable Try.prog 37 = true := by kernel_rfl
@[simp] theorem ca38 : callable Try.prog 38 = true := by kernel_rfl
@[simp] theorem ca39 : callable Try.prog 39 = true := by kernel_rfl
@[simp] theorem ca40 : callable Try.prog 40 = true := by kernel_rfl
@[simp] theorem ca41 : callable Try.prog 41 = false := by kernel_rfl
@[simp] theorem ca42 : callable Try.prog 42 = true := by kernel_rfl
@[simp] theorem ca43 : callable Try.prog 43 = true := by kernel_rfl
@[simp] theorem ca44 : callable Try.prog 44 = true := by kernel_rfl
/-- equality of type 66: ostiary/ostiaryref23.Lease -/
def eqS66 (x0 y0 : Int) (x1 y1 : Int) (x2 y2 : Int) : Bool := decide (x0 = y0 ∧ x1 = y1 ∧ x2 = y2)
theorem eqS66_iff {x0 y0 : Int} {x1 y1 : Int} {x2 y2 : Int} : eqS66 x0 y0 x1 y1 x2 y2 = true ↔ x0 = y0 ∧ x1 = y1 ∧ x2 = y2 := by simp [eqS66]
theorem eqS66_no {x0 y0 : Int} {x1 y1 : Int} {x2 y2 : Int} : eqS66 x0 y0 x1 y1 x2 y2 = false ↔ ¬ (x0 = y0 ∧ x1 = y1 ∧ x2 = y2) := by simp [eqS66]
theorem eqA66_ (x0 y0 : Int) (x1 y1 : Int) (x2 y2 : Int) : eqA Try.prog 10000 66 (.agg [.int .u64 x0, .int .u32 x1, .int .i64 x2]) (.agg [.int .u64 y0, .int .u32 y1, .int .i64 y2]) = some (decide (x0 = y0) && (decide (x1 = y1) && (decide (x2 = y2) && true))) := by kernel_rfl
@[simp] theorem eqA66 (x0 y0 : Int) (x1 y1 : Int) (x2 y2 : Int) : eqA Try.prog 10000 66 (.agg [.int .u64 x0, .int .u32 x1, .int .i64 x2]) (.agg [.int .u64 y0, .int .u32 y1, .int .i64 y2]) = some (eqS66 x0 y0 x1 y1 x2 y2) := by rw [eqA66_]; simp only [ba_eq, eqS66]; congr 1; rw [Bool.eq_iff_iff]; simp [and_assoc]
end Go.Proofs.Ytjkighndbjnbjaa
