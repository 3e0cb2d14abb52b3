import Derived.Test.YtbmlapcigkgdlaaAl2
import Derived.Test.YtbmlapcigkgdlaaC0K
set_option linter.unusedVariables false
namespace Go.Proofs.Ytbmlapcigkgdlaa
open Go Go.Al Go.Shelf
set_option maxRecDepth 20000

def ren72 : Ren := ⟨fun n => match n with | 22 => 38 | 24 => 37 | 29 => 39 | 30 => 40 | _ => 0, fun n => match n with | 0 => 0 | 3 => 3 | 4 => 4 | 9 => 81 | 24 => 72 | _ => 0, fun _ => 0⟩
theorem slT72 : SlT Try.prog ren72 5 40 (.agg #[.int .i64 0, .int .i64 0, .int .i64 0, .int .i64 0, .int .i64 0]) := SlT.of (by kernel_rfl) (by kernel_rfl) (by kernel_rfl) (by kernel_rfl) (by kernel_rfl) (by kernel_rfl) (by kernel_rfl) (by kernel_rfl) (by kernel_rfl) (by kernel_rfl) (by kernel_rfl) (by kernel_rfl)
theorem slK72 : SlK Try.prog ren72 5 40 (.agg #[.int .i64 0, .int .i64 0, .int .i64 0, .int .i64 0, .int .i64 0]) := { slT72 with s24 := ti72_ok, k24 := ti72_kd, s9 := ti81_ok, zz := ⟨[.int .i64 0, .int .i64 0, .int .i64 0, .int .i64 0, .int .i64 0], by show (ti Try.prog 81).zero = _; rw [ti81], by show _ = (ti Try.prog 81).size; rw [ti81_size]; rfl⟩, sz9 := ti81_size, by9 := ti81_bytes }
theorem del37_f : Try.prog.funcs[37]? = some { Body2.n24 ren72 with name := "slices.Delete[[]ostiary/shelf.slot[int, ostiary/cable.End],ostiary/shelf.slot[int, ostiary/cable.End]]" } := by kernel_rfl
theorem ins38_f : Try.prog.funcs[38]? = some { Body2.n22 ren72 with name := "slices.Insert[[]ostiary/shelf.slot[int, ostiary/cable.End],ostiary/shelf.slot[int, ostiary/cable.End]]" } := by kernel_rfl
theorem ovl38_f : Ovl Try.prog ren72 := ⟨{ Body2.n29 ren72 with name := "slices.overlaps[ostiary/shelf.slot[int, ostiary/cable.End]]" }, by kernel_rfl, by kernel_rfl, by kernel_rfl, by kernel_rfl, by kernel_rfl⟩
end Go.Proofs.Ytbmlapcigkgdlaa
