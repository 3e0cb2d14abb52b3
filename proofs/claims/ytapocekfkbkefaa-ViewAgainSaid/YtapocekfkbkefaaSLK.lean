import Derived.Test.YtapocekfkbkefaaAl2
import Derived.Test.YtapocekfkbkefaaC0K
set_option linter.unusedVariables false
namespace Go.Proofs.Ytapocekfkbkefaa
open Go Go.Al Go.Shelf
set_option maxRecDepth 20000

def ren79 : Ren := ⟨fun n => match n with | 22 => 50 | 24 => 0 | 29 => 57 | 30 => 58 | _ => 0, fun n => match n with | 0 => 0 | 3 => 3 | 4 => 4 | 9 => 87 | 24 => 79 | _ => 0, fun _ => 0⟩
theorem slT79 : SlT Try.prog ren79 6 48 (.agg #[.int .i64 0, .int .i64 0, .int .i64 0, .int .i64 0, .int .i64 0, .int .i64 0]) := SlT.of (by kernel_rfl) (by kernel_rfl) (by kernel_rfl) (by kernel_rfl) (by kernel_rfl) (by kernel_rfl) (by kernel_rfl) (by kernel_rfl) (by kernel_rfl) (by kernel_rfl) (by kernel_rfl) (by kernel_rfl)
theorem slK79 : SlK Try.prog ren79 6 48 (.agg #[.int .i64 0, .int .i64 0, .int .i64 0, .int .i64 0, .int .i64 0, .int .i64 0]) := { slT79 with s24 := ti79_ok, k24 := ti79_kd, s9 := ti87_ok, zz := ⟨[.int .i64 0, .int .i64 0, .int .i64 0, .int .i64 0, .int .i64 0, .int .i64 0], by show (ti Try.prog 87).zero = _; rw [ti87], by show _ = (ti Try.prog 87).size; rw [ti87_size]; rfl⟩, sz9 := ti87_size, by9 := ti87_bytes }
theorem ins50_f : Try.prog.funcs[50]? = some { Body2.n22 ren79 with name := "slices.Insert[[]ostiary/shelf.slot[int, ostiary/view.seen],ostiary/shelf.slot[int, ostiary/view.seen]]" } := by kernel_rfl
theorem ovl50_f : Ovl Try.prog ren79 := ⟨{ Body2.n29 ren79 with name := "slices.overlaps[ostiary/shelf.slot[int, ostiary/view.seen]]" }, by kernel_rfl, by kernel_rfl, by kernel_rfl, by kernel_rfl, by kernel_rfl⟩
def ren76 : Ren := ⟨fun n => match n with | 22 => 54 | 24 => 55 | 29 => 59 | 30 => 60 | _ => 0, fun n => match n with | 0 => 0 | 3 => 3 | 4 => 4 | 9 => 89 | 24 => 76 | _ => 0, fun _ => 0⟩
theorem slT76 : SlT Try.prog ren76 2 16 (.agg #[.int .i64 0, .int .i64 0]) := SlT.of (by kernel_rfl) (by kernel_rfl) (by kernel_rfl) (by kernel_rfl) (by kernel_rfl) (by kernel_rfl) (by kernel_rfl) (by kernel_rfl) (by kernel_rfl) (by kernel_rfl) (by kernel_rfl) (by kernel_rfl)
theorem slK76 : SlK Try.prog ren76 2 16 (.agg #[.int .i64 0, .int .i64 0]) := { slT76 with s24 := ti76_ok, k24 := ti76_kd, s9 := ti89_ok, zz := ⟨[.int .i64 0, .int .i64 0], by show (ti Try.prog 89).zero = _; rw [ti89], by show _ = (ti Try.prog 89).size; rw [ti89_size]; rfl⟩, sz9 := ti89_size, by9 := ti89_bytes }
theorem ins54_f : Try.prog.funcs[54]? = some { Body2.n22 ren76 with name := "slices.Insert[[]ostiary/shelf.slot[int, int],ostiary/shelf.slot[int, int]]" } := by kernel_rfl
theorem ovl54_f : Ovl Try.prog ren76 := ⟨{ Body2.n29 ren76 with name := "slices.overlaps[ostiary/shelf.slot[int, int]]" }, by kernel_rfl, by kernel_rfl, by kernel_rfl, by kernel_rfl, by kernel_rfl⟩
theorem del55_f : Try.prog.funcs[55]? = some { Body2.n24 ren76 with name := "slices.Delete[[]ostiary/shelf.slot[int, int],ostiary/shelf.slot[int, int]]" } := by kernel_rfl
end Go.Proofs.Ytapocekfkbkefaa
