import Derived.Test.YtmomphnkngbgjaaAl2
import Derived.Test.YtmomphnkngbgjaaC0K
set_option linter.unusedVariables false
namespace Go.Proofs.Ytmomphnkngbgjaa
open Go Go.Al Go.Shelf
set_option maxRecDepth 20000

def ren91 : Ren := ⟨fun n => match n with | 22 => 58 | 24 => 0 | 29 => 61 | 30 => 62 | _ => 0, fun n => match n with | 0 => 0 | 3 => 3 | 4 => 4 | 9 => 96 | 24 => 91 | _ => 0, fun _ => 0⟩
theorem slT91 : SlT Try.prog ren91 8 80 (.agg #[.int .u64 0, .int .u64 0, .int .u32 0, .int .i64 0, .int .i64 0, .string ⟨#[]⟩, .string ⟨#[]⟩, .int .i64 0]) := SlT.of (by kernel_rfl) (by kernel_rfl) (by kernel_rfl) (by kernel_rfl) (by kernel_rfl) (by kernel_rfl) (by kernel_rfl) (by kernel_rfl) (by kernel_rfl) (by kernel_rfl) (by kernel_rfl) (by kernel_rfl)
theorem slK91 : SlK Try.prog ren91 8 80 (.agg #[.int .u64 0, .int .u64 0, .int .u32 0, .int .i64 0, .int .i64 0, .string ⟨#[]⟩, .string ⟨#[]⟩, .int .i64 0]) := { slT91 with s24 := ti91_ok, k24 := ti91_kd, s9 := ti96_ok, zz := ⟨[.int .u64 0, .int .u64 0, .int .u32 0, .int .i64 0, .int .i64 0, .str ByteArray.empty, .str ByteArray.empty, .int .i64 0], by show (ti Try.prog 96).zero = _; rw [ti96], by show _ = (ti Try.prog 96).size; rw [ti96_size]; rfl⟩, sz9 := ti96_size, by9 := ti96_bytes }
theorem ins58_f : Try.prog.funcs[58]? = some { Body2.n22 ren91 with name := "slices.Insert[[]ostiary/shelf.slot[ostiary/api.Mac, ostiary/bind.Binding],ostiary/shelf.slot[ostiary/api.Mac, ostiary/bind.Binding]]" } := by kernel_rfl
theorem ovl58_f : Ovl Try.prog ren91 := ⟨{ Body2.n29 ren91 with name := "slices.overlaps[ostiary/shelf.slot[ostiary/api.Mac, ostiary/bind.Binding]]" }, by kernel_rfl, by kernel_rfl, by kernel_rfl, by kernel_rfl, by kernel_rfl⟩
end Go.Proofs.Ytmomphnkngbgjaa
