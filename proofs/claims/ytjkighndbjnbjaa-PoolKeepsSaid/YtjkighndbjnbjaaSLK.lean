import Derived.Test.YtjkighndbjnbjaaAl2
import Derived.Test.YtjkighndbjnbjaaC0K
set_option linter.unusedVariables false
namespace Go.Proofs.Ytjkighndbjnbjaa
open Go Go.Al Go.Shelf
set_option maxRecDepth 20000

def ren79 : Ren := ⟨fun n => match n with | 22 => 39 | 24 => 40 | 29 => 41 | 30 => 42 | _ => 0, fun n => match n with | 0 => 0 | 3 => 3 | 4 => 4 | 9 => 86 | 24 => 79 | _ => 0, fun _ => 0⟩
theorem slT79 : SlT Try.prog ren79 4 32 (.agg #[.int .u32 0, .int .u64 0, .int .u32 0, .int .i64 0]) := SlT.of (by kernel_rfl) (by kernel_rfl) (by kernel_rfl) (by kernel_rfl) (by kernel_rfl) (by kernel_rfl) (by kernel_rfl) (by kernel_rfl) (by kernel_rfl) (by kernel_rfl) (by kernel_rfl) (by kernel_rfl)
theorem slK79 : SlK Try.prog ren79 4 32 (.agg #[.int .u32 0, .int .u64 0, .int .u32 0, .int .i64 0]) := { slT79 with s24 := ti79_ok, k24 := ti79_kd, s9 := ti86_ok, zz := ⟨[.int .u32 0, .int .u64 0, .int .u32 0, .int .i64 0], by show (ti Try.prog 86).zero = _; rw [ti86], by show _ = (ti Try.prog 86).size; rw [ti86_size]; rfl⟩, sz9 := ti86_size, by9 := ti86_bytes }
theorem ins39_f : Try.prog.funcs[39]? = some { Body2.n22 ren79 with name := "slices.Insert[[]ostiary/shelf.slot[ostiary/api.Ip, ostiary/pool.Lease],ostiary/shelf.slot[ostiary/api.Ip, ostiary/pool.Lease]]" } := by kernel_rfl
theorem ovl39_f : Ovl Try.prog ren79 := ⟨{ Body2.n29 ren79 with name := "slices.overlaps[ostiary/shelf.slot[ostiary/api.Ip, ostiary/pool.Lease]]" }, by kernel_rfl, by kernel_rfl, by kernel_rfl, by kernel_rfl, by kernel_rfl⟩
theorem del40_f : Try.prog.funcs[40]? = some { Body2.n24 ren79 with name := "slices.Delete[[]ostiary/shelf.slot[ostiary/api.Ip, ostiary/pool.Lease],ostiary/shelf.slot[ostiary/api.Ip, ostiary/pool.Lease]]" } := by kernel_rfl
end Go.Proofs.Ytjkighndbjnbjaa
