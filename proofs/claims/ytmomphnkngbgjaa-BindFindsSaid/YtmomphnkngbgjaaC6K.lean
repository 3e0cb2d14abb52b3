import Derived.Test.YtmomphnkngbgjaaC0K
set_option linter.unusedVariables false
set_option linter.unusedSimpArgs false
set_option maxRecDepth 100000
namespace Go.Proofs.Ytmomphnkngbgjaa
open Go Go.Al

/- 64 slices.Reverse[[]ostiary/shelf.slot[ostiary/api.Mac, ostiary/bind.Binding],ostiary/shelf.slot[ostiary/api.Mac, ostiary/bind.Binding]] -/
@[simp] noncomputable def F64_r0 : CC := .reg [⟨some 4, none, (.move (.tmp 0))⟩,
  ⟨some 5, none, (.call { callee := (.builtin .len), args := #[(.tmp 4)], argTypes := #[91] })⟩,
  ⟨some 6, none, (.binOp .sub 3 (.tmp 5) (.const (.int .i64 1)) 3)⟩,
  ⟨some 2, none, (.assign (.const (.int .i64 0)))⟩,
  ⟨some 3, none, (.assign (.tmp 6))⟩] [0, 2, 3]
@[simp] noncomputable def F64_r1 : CC := .reg [⟨some 7, none, (.move (.tmp 2))⟩,
  ⟨some 8, none, (.move (.tmp 3))⟩,
  ⟨some 9, none, (.binOp .lss 3 (.tmp 7) (.tmp 8) 3)⟩] [0, 2, 3, 9]
@[simp] noncomputable def F64_r3 : CC := .drw [⟨0, ⟨some 14, none, (.move (.tmp 0))⟩, [], []⟩,
  ⟨1, ⟨some 15, none, (.move (.tmp 2))⟩, [], []⟩,
  ⟨2, ⟨some 16, none, (.move (.tmp 0))⟩, [], []⟩,
  ⟨3, ⟨some 17, none, (.move (.tmp 3))⟩, [], []⟩,
  ⟨4, ⟨some 18, none, (.move (.tmp 0))⟩, [], []⟩,
  ⟨5, ⟨some 19, none, (.move (.tmp 3))⟩, [], []⟩,
  ⟨6, ⟨some 20, none, (.indexAddr 91 (.tmp 18) (.tmp 19))⟩, [], []⟩,
  ⟨7, ⟨some 21, none, (.load 96 (.tmp 20))⟩, [], []⟩,
  ⟨8, ⟨some 22, none, (.move (.tmp 0))⟩, [], []⟩,
  ⟨9, ⟨some 23, none, (.move (.tmp 2))⟩, [], []⟩,
  ⟨10, ⟨some 24, none, (.indexAddr 91 (.tmp 22) (.tmp 23))⟩, [], []⟩,
  ⟨11, ⟨some 25, none, (.load 96 (.tmp 24))⟩, [], []⟩,
  ⟨12, ⟨some 26, none, (.indexAddr 91 (.tmp 14) (.tmp 15))⟩, [], []⟩,
  ⟨13, ⟨none, none, (.store 96 (.tmp 26) (.tmp 21))⟩, [], []⟩,
  ⟨14, ⟨some 27, none, (.indexAddr 91 (.tmp 16) (.tmp 17))⟩, [], []⟩,
  ⟨15, ⟨none, none, (.store 96 (.tmp 27) (.tmp 25))⟩, [], []⟩] [14, 15, 16, 17, 18, 19, 20, 21, 22, 23, 24, 25, 26, 27] [0, 2, 3]
@[simp] noncomputable def F64_r2 : CC := .reg [⟨some 10, none, (.move (.tmp 2))⟩,
  ⟨some 11, none, (.binOp .add 3 (.tmp 10) (.const (.int .i64 1)) 3)⟩,
  ⟨some 12, none, (.move (.tmp 3))⟩,
  ⟨some 13, none, (.binOp .sub 3 (.tmp 12) (.const (.int .i64 1)) 3)⟩,
  ⟨some 2, none, (.assign (.tmp 11))⟩,
  ⟨some 3, none, (.assign (.tmp 13))⟩] [0, 2, 3]
noncomputable def F64_l0 : CC := (.seq (.seq F64_r1 (.cond (.tmp 9) .skip (.exit 0))) (.seq (.block 1 F64_r3) F64_r2))
noncomputable def F64 : CC := (.seq F64_r0 (.block 0 (.loop F64_l0)))
noncomputable def F64_inf : Nat → RI
  | 0 => ⟨[0, 2, 3], [], []⟩
  | 1 => ⟨[0, 2, 3, 9], [], []⟩
  | 3 => ⟨[0, 2, 3], [0, 0, 0, 0, 0, 0, 48, 112, 0, 0, 768, 1792, 4083, 8179, 16383, 32767], [(0, []), (1, []), (2, []), (3, []), (4, []), (5, []), (6, []), (7, []), (8, []), (9, []), (10, []), (11, []), (12, []), (13, []), (14, []), (15, [])]⟩
  | 2 => ⟨[0, 2, 3], [], []⟩
  | _ => ⟨[], [], []⟩
noncomputable def F64_c : Code := Try.f64.body.getD .skip
theorem F64_b : Try.f64.body = some F64_c := by kernel_rfl
theorem F64_rs : Try.f64.results.toList = ([] : List ResultVar) := by kernel_rfl
theorem F64_n : Try.f64.ntmps = 28 := by kernel_rfl
theorem F64_ok : toCC [] 28 F64_inf F64_c = some F64 := by kernel_rfl
theorem F64_in {args : List AV} {G : Hp} {post : AV → Hp → Prop} (ha : args.all AV.plain = true) (hn : args.length ≤ 28) (h : BDs args → awp Try.prog [] F64 (AEnds Try.prog [] post) (initT args) G) : ACalls Try.prog 64 args G post :=
  acalls_cc Try.func64 F64_b F64_rs F64_n F64_ok mixed ha hn h
end Go.Proofs.Ytmomphnkngbgjaa
