import Derived.Test.YtfllkpdhkeiofaaAl2
import Derived.Test.YtfllkpdhkeiofaaC0K
set_option linter.unusedVariables false
namespace Go.Proofs.Ytfllkpdhkeiofaa
open Go Go.Al Go.Shelf
set_option maxRecDepth 20000

def ren25 : Ren := ⟨fun n => match n with | 22 => 0 | 24 => 30 | 29 => 0 | 30 => 0 | _ => 0, fun n => match n with | 0 => 0 | 3 => 3 | 4 => 4 | 9 => 3 | 24 => 25 | _ => 0, fun _ => 0⟩
theorem slT25 : SlT Try.prog ren25 1 8 (.int .i64 0) := SlT.of (by kernel_rfl) (by kernel_rfl) (by kernel_rfl) (by kernel_rfl) (by kernel_rfl) (by kernel_rfl) (by kernel_rfl) (by kernel_rfl) (by kernel_rfl) (by kernel_rfl) (by kernel_rfl) (by kernel_rfl)
theorem slK25 : SlK Try.prog ren25 1 8 (.int .i64 0) := { slT25 with s24 := ti25_ok, k24 := ti25_kd, s9 := ti3_ok, zz := ⟨[.int .i64 0], by show (ti Try.prog 3).zero = _; rw [ti3], by show _ = (ti Try.prog 3).size; rw [ti3_size]; rfl⟩, sz9 := ti3_size, by9 := ti3_bytes }
theorem del30_f : Try.prog.funcs[30]? = some { Body2.n24 ren25 with name := "slices.Delete[[]int,int]" } := by kernel_rfl
end Go.Proofs.Ytfllkpdhkeiofaa
