import Derived.Test.YtfllkpdhkeiofaaAl1
import Derived.Test.YtfllkpdhkeiofaaProg
import Derived.KernelRfl
set_option linter.unusedVariables false
set_option linter.unusedSimpArgs false
set_option maxRecDepth 100000
namespace Go.Proofs.Ytfllkpdhkeiofaa
open Go Go.Al
theorem mixed : Try.prog.follows .mixedOrders = true := by kernel_rfl
theorem ti3 : ti Try.prog 3 = { ok := true, kd := (.int .i64), eqg := false, size := 1, bytes := 8, agg := false, elem := none, offs := [], flds := none, zero := (some [.int .i64 0]) } := by kernel_rfl
@[simp] theorem ti3_ok : (ti Try.prog 3).ok = true := by rw [ti3]
@[simp] theorem ti3_kd : (ti Try.prog 3).kd = (.int .i64) := by rw [ti3]
@[simp] theorem ti3_eqg : (ti Try.prog 3).eqg = false := by rw [ti3]
@[simp] theorem ti3_size : (ti Try.prog 3).size = 1 := by rw [ti3]
@[simp] theorem ti3_bytes : (ti Try.prog 3).bytes = 8 := by rw [ti3]
@[simp] theorem ti3_agg : (ti Try.prog 3).agg = false := by rw [ti3]
@[simp] theorem ti3_offs : (ti Try.prog 3).offs = [] := by rw [ti3]
@[simp] theorem ti3_isS : (ti Try.prog 3).isS = false := by rw [ti3]; rfl
@[simp] theorem ti3_isP : (ti Try.prog 3).isP = false := by rw [ti3]; rfl
@[simp] theorem ti3_zs : (ti Try.prog 3).zs = [.int .i64 0] := by rw [ti3]; rfl
@[simp] theorem ti3_hasz : (ti Try.prog 3).hasz = true := by rw [ti3]; rfl
theorem ti22 : ti Try.prog 22 = { ok := true, kd := (.slc 27), eqg := false, size := 1, bytes := 24, agg := false, elem := (some 27), offs := [], flds := none, zero := (some [.nils]) } := by kernel_rfl
@[simp] theorem ti22_ok : (ti Try.prog 22).ok = true := by rw [ti22]
@[simp] theorem ti22_kd : (ti Try.prog 22).kd = (.slc 27) := by rw [ti22]
@[simp] theorem ti22_eqg : (ti Try.prog 22).eqg = false := by rw [ti22]
@[simp] theorem ti22_size : (ti Try.prog 22).size = 1 := by rw [ti22]
@[simp] theorem ti22_bytes : (ti Try.prog 22).bytes = 24 := by rw [ti22]
@[simp] theorem ti22_agg : (ti Try.prog 22).agg = false := by rw [ti22]
@[simp] theorem ti22_offs : (ti Try.prog 22).offs = [] := by rw [ti22]
@[simp] theorem ti22_isS : (ti Try.prog 22).isS = true := by rw [ti22]; rfl
@[simp] theorem ti22_isP : (ti Try.prog 22).isP = false := by rw [ti22]; rfl
@[simp] theorem ti22_el : (ti Try.prog 22).el = 27 := by rw [ti22]; rfl
@[simp] theorem ti22_zs : (ti Try.prog 22).zs = [.nils] := by rw [ti22]; rfl
@[simp] theorem ti22_hasz : (ti Try.prog 22).hasz = true := by rw [ti22]; rfl
theorem ti23 : ti Try.prog 23 = { ok := true, kd := (.ptr 50), eqg := false, size := 1, bytes := 8, agg := false, elem := none, offs := [], flds := none, zero := (some [.nil]) } := by kernel_rfl
@[simp] theorem ti23_ok : (ti Try.prog 23).ok = true := by rw [ti23]
@[simp] theorem ti23_kd : (ti Try.prog 23).kd = (.ptr 50) := by rw [ti23]
@[simp] theorem ti23_eqg : (ti Try.prog 23).eqg = false := by rw [ti23]
@[simp] theorem ti23_size : (ti Try.prog 23).size = 1 := by rw [ti23]
@[simp] theorem ti23_bytes : (ti Try.prog 23).bytes = 8 := by rw [ti23]
@[simp] theorem ti23_agg : (ti Try.prog 23).agg = false := by rw [ti23]
@[simp] theorem ti23_offs : (ti Try.prog 23).offs = [] := by rw [ti23]
@[simp] theorem ti23_isS : (ti Try.prog 23).isS = false := by rw [ti23]; rfl
@[simp] theorem ti23_isP : (ti Try.prog 23).isP = true := by rw [ti23]; rfl
@[simp] theorem ti23_zs : (ti Try.prog 23).zs = [.nil] := by rw [ti23]; rfl
@[simp] theorem ti23_hasz : (ti Try.prog 23).hasz = true := by rw [ti23]; rfl
theorem ti25 : ti Try.prog 25 = { ok := true, kd := (.slc 3), eqg := false, size := 1, bytes := 24, agg := false, elem := (some 3), offs := [], flds := none, zero := (some [.nils]) } := by kernel_rfl
@[simp] theorem ti25_ok : (ti Try.prog 25).ok = true := by rw [ti25]
@[simp] theorem ti25_kd : (ti Try.prog 25).kd = (.slc 3) := by rw [ti25]
@[simp] theorem ti25_eqg : (ti Try.prog 25).eqg = false := by rw [ti25]
@[simp] theorem ti25_size : (ti Try.prog 25).size = 1 := by rw [ti25]
@[simp] theorem ti25_bytes : (ti Try.prog 25).bytes = 24 := by rw [ti25]
@[simp] theorem ti25_agg : (ti Try.prog 25).agg = false := by rw [ti25]
@[simp] theorem ti25_offs : (ti Try.prog 25).offs = [] := by rw [ti25]
@[simp] theorem ti25_isS : (ti Try.prog 25).isS = true := by rw [ti25]; rfl
@[simp] theorem ti25_isP : (ti Try.prog 25).isP = false := by rw [ti25]; rfl
@[simp] theorem ti25_el : (ti Try.prog 25).el = 3 := by rw [ti25]; rfl
@[simp] theorem ti25_zs : (ti Try.prog 25).zs = [.nils] := by rw [ti25]; rfl
@[simp] theorem ti25_hasz : (ti Try.prog 25).hasz = true := by rw [ti25]; rfl
theorem ti27 : ti Try.prog 27 = { ok := true, kd := .struct, eqg := false, size := 4, bytes := 48, agg := true, elem := none, offs := [some 0, some 1, some 2, some 3], flds := (some [(0, 1), (1, 1), (2, 1), (3, 1)]), zero := (some [.int .i64 0, .int .i64 0, .int .i64 0, .nils]) } := by kernel_rfl
@[simp] theorem ti27_ok : (ti Try.prog 27).ok = true := by rw [ti27]
@[simp] theorem ti27_kd : (ti Try.prog 27).kd = .struct := by rw [ti27]
@[simp] theorem ti27_eqg : (ti Try.prog 27).eqg = false := by rw [ti27]
@[simp] theorem ti27_size : (ti Try.prog 27).size = 4 := by rw [ti27]
@[simp] theorem ti27_bytes : (ti Try.prog 27).bytes = 48 := by rw [ti27]
@[simp] theorem ti27_agg : (ti Try.prog 27).agg = true := by rw [ti27]
@[simp] theorem ti27_offs : (ti Try.prog 27).offs = [some 0, some 1, some 2, some 3] := by rw [ti27]
@[simp] theorem ti27_isS : (ti Try.prog 27).isS = false := by rw [ti27]; rfl
@[simp] theorem ti27_isP : (ti Try.prog 27).isP = false := by rw [ti27]; rfl
@[simp] theorem ti27_zs : (ti Try.prog 27).zs = [.int .i64 0, .int .i64 0, .int .i64 0, .nils] := by rw [ti27]; rfl
@[simp] theorem ti27_hasz : (ti Try.prog 27).hasz = true := by rw [ti27]; rfl
@[simp] theorem ti27_fl : (ti Try.prog 27).fl = [(0, 1), (1, 1), (2, 1), (3, 1)] := by rw [ti27]; rfl
@[simp] theorem ti27_hasf : (ti Try.prog 27).hasf = true := by rw [ti27]; rfl
theorem ti39 : ti Try.prog 39 = { ok := true, kd := .struct, eqg := false, size := 6, bytes := 64, agg := true, elem := none, offs := [some 0, some 1, some 2, some 3, some 4, some 5], flds := (some [(0, 1), (1, 1), (2, 1), (3, 1), (4, 1), (5, 1)]), zero := (some [.nils, .int .i64 0, .int .i64 0, .int .i64 0, .int .i64 0, .int .i64 0]) } := by kernel_rfl
@[simp] theorem ti39_ok : (ti Try.prog 39).ok = true := by rw [ti39]
@[simp] theorem ti39_kd : (ti Try.prog 39).kd = .struct := by rw [ti39]
@[simp] theorem ti39_eqg : (ti Try.prog 39).eqg = false := by rw [ti39]
@[simp] theorem ti39_size : (ti Try.prog 39).size = 6 := by rw [ti39]
@[simp] theorem ti39_bytes : (ti Try.prog 39).bytes = 64 := by rw [ti39]
@[simp] theorem ti39_agg : (ti Try.prog 39).agg = true := by rw [ti39]
@[simp] theorem ti39_offs : (ti Try.prog 39).offs = [some 0, some 1, some 2, some 3, some 4, some 5] := by rw [ti39]
@[simp] theorem ti39_isS : (ti Try.prog 39).isS = false := by rw [ti39]; rfl
@[simp] theorem ti39_isP : (ti Try.prog 39).isP = false := by rw [ti39]; rfl
@[simp] theorem ti39_zs : (ti Try.prog 39).zs = [.nils, .int .i64 0, .int .i64 0, .int .i64 0, .int .i64 0, .int .i64 0] := by rw [ti39]; rfl
@[simp] theorem ti39_hasz : (ti Try.prog 39).hasz = true := by rw [ti39]; rfl
@[simp] theorem ti39_fl : (ti Try.prog 39).fl = [(0, 1), (1, 1), (2, 1), (3, 1), (4, 1), (5, 1)] := by rw [ti39]; rfl
@[simp] theorem ti39_hasf : (ti Try.prog 39).hasf = true := by rw [ti39]; rfl
theorem ti45 : ti Try.prog 45 = { ok := true, kd := (.ptr 55), eqg := false, size := 1, bytes := 8, agg := false, elem := none, offs := [], flds := none, zero := (some [.nil]) } := by kernel_rfl
@[simp] theorem ti45_ok : (ti Try.prog 45).ok = true := by rw [ti45]
@[simp] theorem ti45_kd : (ti Try.prog 45).kd = (.ptr 55) := by rw [ti45]
@[simp] theorem ti45_eqg : (ti Try.prog 45).eqg = false := by rw [ti45]
@[simp] theorem ti45_size : (ti Try.prog 45).size = 1 := by rw [ti45]
@[simp] theorem ti45_bytes : (ti Try.prog 45).bytes = 8 := by rw [ti45]
@[simp] theorem ti45_agg : (ti Try.prog 45).agg = false := by rw [ti45]
@[simp] theorem ti45_offs : (ti Try.prog 45).offs = [] := by rw [ti45]
@[simp] theorem ti45_isS : (ti Try.prog 45).isS = false := by rw [ti45]; rfl
@[simp] theorem ti45_isP : (ti Try.prog 45).isP = true := by rw [ti45]; rfl
@[simp] theorem ti45_zs : (ti Try.prog 45).zs = [.nil] := by rw [ti45]; rfl
@[simp] theorem ti45_hasz : (ti Try.prog 45).hasz = true := by rw [ti45]; rfl
theorem ti48 : ti Try.prog 48 = { ok := true, kd := .struct, eqg := false, size := 1, bytes := 8, agg := true, elem := none, offs := [some 0], flds := (some [(0, 1)]), zero := (some [.nil]) } := by kernel_rfl
@[simp] theorem ti48_ok : (ti Try.prog 48).ok = true := by rw [ti48]
@[simp] theorem ti48_kd : (ti Try.prog 48).kd = .struct := by rw [ti48]
@[simp] theorem ti48_eqg : (ti Try.prog 48).eqg = false := by rw [ti48]
@[simp] theorem ti48_size : (ti Try.prog 48).size = 1 := by rw [ti48]
@[simp] theorem ti48_bytes : (ti Try.prog 48).bytes = 8 := by rw [ti48]
@[simp] theorem ti48_agg : (ti Try.prog 48).agg = true := by rw [ti48]
@[simp] theorem ti48_offs : (ti Try.prog 48).offs = [some 0] := by rw [ti48]
@[simp] theorem ti48_isS : (ti Try.prog 48).isS = false := by rw [ti48]; rfl
@[simp] theorem ti48_isP : (ti Try.prog 48).isP = false := by rw [ti48]; rfl
@[simp] theorem ti48_zs : (ti Try.prog 48).zs = [.nil] := by rw [ti48]; rfl
@[simp] theorem ti48_hasz : (ti Try.prog 48).hasz = true := by rw [ti48]; rfl
@[simp] theorem ti48_fl : (ti Try.prog 48).fl = [(0, 1)] := by rw [ti48]; rfl
@[simp] theorem ti48_hasf : (ti Try.prog 48).hasf = true := by rw [ti48]; rfl
theorem ti50 : ti Try.prog 50 = { ok := true, kd := .struct, eqg := false, size := 5, bytes := 40, agg := true, elem := none, offs := [some 0, some 1, some 2, some 3, some 4], flds := (some [(0, 1), (1, 1), (2, 1), (3, 1), (4, 1)]), zero := (some [.nil, .int .i64 0, .int .i64 0, .int .i64 0, .int .i64 0]) } := by kernel_rfl
@[simp] theorem ti50_ok : (ti Try.prog 50).ok = true := by rw [ti50]
@[simp] theorem ti50_kd : (ti Try.prog 50).kd = .struct := by rw [ti50]
@[simp] theorem ti50_eqg : (ti Try.prog 50).eqg = false := by rw [ti50]
@[simp] theorem ti50_size : (ti Try.prog 50).size = 5 := by rw [ti50]
@[simp] theorem ti50_bytes : (ti Try.prog 50).bytes = 40 := by rw [ti50]
@[simp] theorem ti50_agg : (ti Try.prog 50).agg = true := by rw [ti50]
@[simp] theorem ti50_offs : (ti Try.prog 50).offs = [some 0, some 1, some 2, some 3, some 4] := by rw [ti50]
@[simp] theorem ti50_isS : (ti Try.prog 50).isS = false := by rw [ti50]; rfl
@[simp] theorem ti50_isP : (ti Try.prog 50).isP = false := by rw [ti50]; rfl
@[simp] theorem ti50_zs : (ti Try.prog 50).zs = [.nil, .int .i64 0, .int .i64 0, .int .i64 0, .int .i64 0] := by rw [ti50]; rfl
@[simp] theorem ti50_hasz : (ti Try.prog 50).hasz = true := by rw [ti50]; rfl
@[simp] theorem ti50_fl : (ti Try.prog 50).fl = [(0, 1), (1, 1), (2, 1), (3, 1), (4, 1)] := by rw [ti50]; rfl
@[simp] theorem ti50_hasf : (ti Try.prog 50).hasf = true := by rw [ti50]; rfl
theorem ti55 : ti Try.prog 55 = { ok := true, kd := .struct, eqg := false, size := 2, bytes := 32, agg := true, elem := none, offs := [some 0, some 1], flds := (some [(0, 1), (1, 1)]), zero := (some [.nils, .int .i64 0]) } := by kernel_rfl
@[simp] theorem ti55_ok : (ti Try.prog 55).ok = true := by rw [ti55]
@[simp] theorem ti55_kd : (ti Try.prog 55).kd = .struct := by rw [ti55]
@[simp] theorem ti55_eqg : (ti Try.prog 55).eqg = false := by rw [ti55]
@[simp] theorem ti55_size : (ti Try.prog 55).size = 2 := by rw [ti55]
@[simp] theorem ti55_bytes : (ti Try.prog 55).bytes = 32 := by rw [ti55]
@[simp] theorem ti55_agg : (ti Try.prog 55).agg = true := by rw [ti55]
@[simp] theorem ti55_offs : (ti Try.prog 55).offs = [some 0, some 1] := by rw [ti55]
@[simp] theorem ti55_isS : (ti Try.prog 55).isS = false := by rw [ti55]; rfl
@[simp] theorem ti55_isP : (ti Try.prog 55).isP = false := by rw [ti55]; rfl
@[simp] theorem ti55_zs : (ti Try.prog 55).zs = [.nils, .int .i64 0] := by rw [ti55]; rfl
@[simp] theorem ti55_hasz : (ti Try.prog 55).hasz = true := by rw [ti55]; rfl
@[simp] theorem ti55_fl : (ti Try.prog 55).fl = [(0, 1), (1, 1)] := by rw [ti55]; rfl
@[simp] theorem ti55_hasf : (ti Try.prog 55).hasf = true := by rw [ti55]; rfl
@[simp] theorem ca3 : callable Try.prog 3 = true := by kernel_rfl
@[simp] theorem ca4 : callable Try.prog 4 = true := by kernel_rfl
@[simp] theorem ca5 : callable Try.prog 5 = true := by kernel_rfl
@[simp] theorem ca6 : callable Try.prog 6 = true := by kernel_rfl
@[simp] theorem ca7 : callable Try.prog 7 = true := by kernel_rfl
@[simp] theorem ca8 : callable Try.prog 8 = true := by kernel_rfl
@[simp] theorem ca9 : callable Try.prog 9 = true := by kernel_rfl
@[simp] theorem ca10 : callable Try.prog 10 = true := by kernel_rfl
@[simp] theorem ca11 : callable Try.prog 11 = true := by kernel_rfl
@[simp] theorem ca12 : callable Try.prog 12 = true := by kernel_rfl
@[simp] theorem ca13 : callable Try.prog 13 = true := by kernel_rfl
@[simp] theorem ca14 : callable Try.prog 14 = true := by kernel_rfl
@[simp] theorem ca15 : callable Try.prog 15 = true := by kernel_rfl
@[simp] theorem ca16 : callable Try.prog 16 = true := by kernel_rfl
@[simp] theorem ca17 : callable Try.prog 17 = true := by kernel_rfl
@[simp] theorem ca18 : callable Try.prog 18 = true := by kernel_rfl
@[simp] theorem ca19 : callable Try.prog 19 = true := by kernel_rfl
@[simp] theorem ca20 : callable Try.prog 20 = true := by kernel_rfl
@[simp] theorem ca21 : callable Try.prog 21 = true := by kernel_rfl
@[simp] theorem ca22 : callable Try.prog 22 = true := by kernel_rfl
@[simp] theorem ca23 : callable Try.prog 23 = true := by kernel_rfl
@[simp] theorem ca24 : callable Try.prog 24 = true := by kernel_rfl
@[simp] theorem ca25 : callable Try.prog 25 = true := by kernel_rfl
@[simp] theorem ca26 : callable Try.prog 26 = true := by kernel_rfl
@[simp] theorem ca27 : callable Try.prog 27 = true := by kernel_rfl
@[simp] theorem ca28 : callable Try.prog 28 = true := by kernel_rfl
@[simp] theorem ca29 : callable Try.prog 29 = true := by kernel_rfl
@[simp] theorem ca30 : callable Try.prog 30 = true := by kernel_rfl
@[simp] theorem ca31 : callable Try.prog 31 = true := by kernel_rfl
@[simp] theorem ca32 : callable Try.prog 32 = true := by kernel_rfl
end Go.Proofs.Ytfllkpdhkeiofaa
