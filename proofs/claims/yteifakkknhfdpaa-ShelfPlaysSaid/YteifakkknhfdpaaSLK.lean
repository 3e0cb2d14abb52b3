import Derived.Test.YteifakkknhfdpaaAl2
import Derived.Test.YteifakkknhfdpaaC0K
set_option linter.unusedVariables false
namespace Go.Proofs.Yteifakkknhfdpaa
open Go Go.Al Go.Shelf
set_option maxRecDepth 20000

def ren59 : Ren := ⟨fun n => match n with | 22 => 35 | 24 => 43 | 29 => 53 | 30 => 54 | _ => 0, fun n => match n with | 0 => 0 | 3 => 3 | 4 => 4 | 9 => 63 | 24 => 59 | _ => 0, fun _ => 0⟩
theorem slT59 : SlT Try.prog ren59 2 16 (.agg #[.int .i64 0, .int .i64 0]) := SlT.of (by kernel_rfl) (by kernel_rfl) (by kernel_rfl) (by kernel_rfl) (by kernel_rfl) (by kernel_rfl) (by kernel_rfl) (by kernel_rfl) (by kernel_rfl) (by kernel_rfl) (by kernel_rfl) (by kernel_rfl)
theorem slK59 : SlK Try.prog ren59 2 16 (.agg #[.int .i64 0, .int .i64 0]) := { slT59 with s24 := ti59_ok, k24 := ti59_kd, s9 := ti63_ok, zz := ⟨[.int .i64 0, .int .i64 0], by show (ti Try.prog 63).zero = _; rw [ti63], by show _ = (ti Try.prog 63).size; rw [ti63_size]; rfl⟩, sz9 := ti63_size, by9 := ti63_bytes }
theorem ins35_f : Try.prog.funcs[35]? = some { Body2.n22 ren59 with name := "slices.Insert[[]ostiary/shelf.slot[int, int],ostiary/shelf.slot[int, int]]" } := by kernel_rfl
theorem ovl35_f : Ovl Try.prog ren59 := ⟨{ Body2.n29 ren59 with name := "slices.overlaps[ostiary/shelf.slot[int, int]]" }, by kernel_rfl, by kernel_rfl, by kernel_rfl, by kernel_rfl, by kernel_rfl⟩
def ren22 : Ren := ⟨fun n => match n with | 22 => 0 | 24 => 42 | 29 => 0 | 30 => 0 | _ => 0, fun n => match n with | 0 => 0 | 3 => 3 | 4 => 4 | 9 => 3 | 24 => 22 | _ => 0, fun _ => 0⟩
theorem slT22 : SlT Try.prog ren22 1 8 (.int .i64 0) := SlT.of (by kernel_rfl) (by kernel_rfl) (by kernel_rfl) (by kernel_rfl) (by kernel_rfl) (by kernel_rfl) (by kernel_rfl) (by kernel_rfl) (by kernel_rfl) (by kernel_rfl) (by kernel_rfl) (by kernel_rfl)
theorem slK22 : SlK Try.prog ren22 1 8 (.int .i64 0) := { slT22 with s24 := ti22_ok, k24 := ti22_kd, s9 := ti3_ok, zz := ⟨[.int .i64 0], by show (ti Try.prog 3).zero = _; rw [ti3], by show _ = (ti Try.prog 3).size; rw [ti3_size]; rfl⟩, sz9 := ti3_size, by9 := ti3_bytes }
theorem del42_f : Try.prog.funcs[42]? = some { Body2.n24 ren22 with name := "slices.Delete[[]int,int]" } := by kernel_rfl
theorem del43_f : Try.prog.funcs[43]? = some { Body2.n24 ren59 with name := "slices.Delete[[]ostiary/shelf.slot[int, int],ostiary/shelf.slot[int, int]]" } := by kernel_rfl
def ren93 : Ren := ⟨fun n => match n with | 22 => 56 | 24 => 0 | 29 => 62 | 30 => 63 | _ => 0, fun n => match n with | 0 => 0 | 3 => 3 | 4 => 4 | 9 => 97 | 24 => 93 | _ => 0, fun _ => 0⟩
theorem slT93 : SlT Try.prog ren93 2 24 (.agg #[.int .i64 0, .string ⟨#[]⟩]) := SlT.of (by kernel_rfl) (by kernel_rfl) (by kernel_rfl) (by kernel_rfl) (by kernel_rfl) (by kernel_rfl) (by kernel_rfl) (by kernel_rfl) (by kernel_rfl) (by kernel_rfl) (by kernel_rfl) (by kernel_rfl)
theorem slK93 : SlK Try.prog ren93 2 24 (.agg #[.int .i64 0, .string ⟨#[]⟩]) := { slT93 with s24 := ti93_ok, k24 := ti93_kd, s9 := ti97_ok, zz := ⟨[.int .i64 0, .str ByteArray.empty], by show (ti Try.prog 97).zero = _; rw [ti97], by show _ = (ti Try.prog 97).size; rw [ti97_size]; rfl⟩, sz9 := ti97_size, by9 := ti97_bytes }
theorem ins56_f : Try.prog.funcs[56]? = some { Body2.n22 ren93 with name := "slices.Insert[[]ostiary/shelf.slot[int, string],ostiary/shelf.slot[int, string]]" } := by kernel_rfl
theorem ovl56_f : Ovl Try.prog ren93 := ⟨{ Body2.n29 ren93 with name := "slices.overlaps[ostiary/shelf.slot[int, string]]" }, by kernel_rfl, by kernel_rfl, by kernel_rfl, by kernel_rfl, by kernel_rfl⟩
def ren76 : Ren := ⟨fun n => match n with | 22 => 59 | 24 => 60 | 29 => 64 | 30 => 65 | _ => 0, fun n => match n with | 0 => 0 | 3 => 3 | 4 => 4 | 9 => 90 | 24 => 76 | _ => 0, fun _ => 0⟩
theorem slT76 : SlT Try.prog ren76 2 24 (.agg #[.string ⟨#[]⟩, .int .i64 0]) := SlT.of (by kernel_rfl) (by kernel_rfl) (by kernel_rfl) (by kernel_rfl) (by kernel_rfl) (by kernel_rfl) (by kernel_rfl) (by kernel_rfl) (by kernel_rfl) (by kernel_rfl) (by kernel_rfl) (by kernel_rfl)
theorem slK76 : SlK Try.prog ren76 2 24 (.agg #[.string ⟨#[]⟩, .int .i64 0]) := { slT76 with s24 := ti76_ok, k24 := ti76_kd, s9 := ti90_ok, zz := ⟨[.str ByteArray.empty, .int .i64 0], by show (ti Try.prog 90).zero = _; rw [ti90], by show _ = (ti Try.prog 90).size; rw [ti90_size]; rfl⟩, sz9 := ti90_size, by9 := ti90_bytes }
theorem ins59_f : Try.prog.funcs[59]? = some { Body2.n22 ren76 with name := "slices.Insert[[]ostiary/shelf.slot[string, int],ostiary/shelf.slot[string, int]]" } := by kernel_rfl
theorem ovl59_f : Ovl Try.prog ren76 := ⟨{ Body2.n29 ren76 with name := "slices.overlaps[ostiary/shelf.slot[string, int]]" }, by kernel_rfl, by kernel_rfl, by kernel_rfl, by kernel_rfl, by kernel_rfl⟩
theorem del60_f : Try.prog.funcs[60]? = some { Body2.n24 ren76 with name := "slices.Delete[[]ostiary/shelf.slot[string, int],ostiary/shelf.slot[string, int]]" } := by kernel_rfl
end Go.Proofs.Yteifakkknhfdpaa
