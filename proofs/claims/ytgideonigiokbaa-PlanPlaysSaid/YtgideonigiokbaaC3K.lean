import Derived.Test.YtgideonigiokbaaC0K
set_option linter.unusedVariables false
set_option linter.unusedSimpArgs false
set_option maxRecDepth 100000
namespace Go.Proofs.Ytgideonigiokbaa
open Go Go.Al

/- 27 ostiary/ostiarylaw27.key -/
@[simp] noncomputable def F27_r0 : CC := .reg [⟨some 0, none, (.alloc 27)⟩] [0]
@[simp] noncomputable def F27_r1 : CC := .reg [⟨some 1, none, (.build 27 #[(0, (.const (.int .u64 1))), (1, (.const (.int .u64 2))), (2, (.const (.int .u32 3))), (3, (.const (.int .u32 4))), (4, (.const (.int .i64 6))), (5, (.const (.int .i64 5))), (6, (.const (.int .i64 80)))])⟩,
  ⟨none, none, (.store 27 (.tmp 0) (.tmp 1))⟩] [0]
noncomputable def F27 : CC := (.seq F27_r0 (.seq F27_r1 .ret))
noncomputable def F27_inf : Nat → RI
  | 0 => ⟨[0], [], []⟩
  | 1 => ⟨[0], [], []⟩
  | _ => ⟨[], [], []⟩
noncomputable def F27_c : Code := Try.f27.body.getD .skip
theorem F27_b : Try.f27.body = some F27_c := by kernel_rfl
theorem F27_rs : Try.f27.results.toList = ([.cell 0 27] : List ResultVar) := by kernel_rfl
theorem F27_n : Try.f27.ntmps = 2 := by kernel_rfl
theorem F27_ok : toCC [] 2 F27_inf F27_c = some F27 := by kernel_rfl
theorem F27_in {args : List AV} {G : Hp} {post : AV → Hp → Prop} (ha : args.all AV.plain = true) (hn : args.length ≤ 2) (h : BDs args → awp Try.prog [] F27 (AEnds Try.prog [.cell 0 27] post) (initT args) G) : ACalls Try.prog 27 args G post :=
  acalls_cc Try.func27 F27_b F27_rs F27_n F27_ok mixed ha hn h

/- 28 (ostiary/plan.one).msg -/
@[simp] noncomputable def F28_r0 : CC := .reg [⟨some 2, none, (.box 72 (.tmp 0))⟩,
  ⟨some 4, none, (.alloc 54)⟩] [1, 2, 4]
@[simp] noncomputable def F28_r1 : CC := .reg [⟨some 7, none, (.fieldAddr 72 (.tmp 2) 0)⟩,
  ⟨some 8, none, (.fieldAddr 44 (.tmp 7) 9)⟩,
  ⟨some 9, none, (.load 32 (.tmp 8))⟩,
  ⟨some 10, none, (.move (.tmp 1))⟩,
  ⟨some 11, none, (.indexAddr 32 (.tmp 9) (.tmp 10))⟩,
  ⟨some 12, none, (.load 56 (.tmp 11))⟩,
  ⟨some 5, none, (.alloc 56)⟩,
  ⟨none, none, (.store 56 (.tmp 5) (.tmp 12))⟩] [1, 2, 4, 5]
@[simp] noncomputable def F28_r2 : CC := .reg [⟨some 6, none, (.assign (.const (.int .u32 0)))⟩] [1, 2, 4, 5, 6]
@[simp] noncomputable def F28_r3 : CC := .reg [⟨some 13, none, (.fieldAddr 56 (.tmp 5) 0)⟩,
  ⟨some 14, none, (.load 3 (.tmp 13))⟩,
  ⟨some 15, none, (.binOp .geq 3 (.tmp 14) (.const (.int .i64 1)) 3)⟩,
  ⟨some 16, none, (.move (.tmp 15))⟩,
  ⟨some 17, some (16, true), (.fieldAddr 56 (.tmp 5) 0)⟩,
  ⟨some 18, some (16, true), (.load 3 (.tmp 17))⟩,
  ⟨some 19, some (16, true), (.binOp .leq 3 (.tmp 18) (.const (.int .i64 8)) 3)⟩,
  ⟨some 20, none, (.pick (.tmp 16) (.tmp 19) (.const (.bool false)))⟩] [1, 2, 4, 5, 6, 20]
@[simp] noncomputable def F28_r4 : CC := .reg [⟨some 21, none, (.fieldAddr 56 (.tmp 5) 0)⟩,
  ⟨some 22, none, (.load 3 (.tmp 21))⟩,
  ⟨some 23, none, (.fieldAddr 72 (.tmp 2) 1)⟩,
  ⟨some 24, none, (.indexAddr 46 (.tmp 23) (.tmp 22))⟩,
  ⟨some 25, none, (.load 22 (.tmp 24))⟩,
  ⟨some 6, none, (.assign (.tmp 25))⟩] [1, 2, 4, 5, 6]
@[simp] noncomputable def F28_r5 : CC := .reg [⟨some 26, none, (.fieldAddr 56 (.tmp 5) 0)⟩,
  ⟨some 27, none, (.load 3 (.tmp 26))⟩,
  ⟨some 28, none, (.move (.tmp 6))⟩,
  ⟨some 29, none, (.fieldAddr 72 (.tmp 2) 0)⟩,
  ⟨some 30, none, (.fieldAddr 44 (.tmp 29) 1)⟩,
  ⟨some 31, none, (.load 22 (.tmp 30))⟩,
  ⟨some 32, none, (.fieldAddr 72 (.tmp 2) 5)⟩,
  ⟨some 33, none, (.load 22 (.tmp 32))⟩,
  ⟨some 34, none, (.fieldAddr 56 (.tmp 5) 1)⟩,
  ⟨some 35, none, (.load 3 (.tmp 34))⟩,
  ⟨some 36, none, (.fieldAddr 56 (.tmp 5) 2)⟩,
  ⟨some 37, none, (.load 3 (.tmp 36))⟩,
  ⟨some 38, none, (.move (.tmp 1))⟩,
  ⟨some 39, none, (.binOp .eql 3 (.tmp 38) (.const (.int .i64 0)) 3)⟩,
  ⟨some 40, none, (.move (.tmp 1))⟩,
  ⟨some 41, none, (.fieldAddr 72 (.tmp 2) 0)⟩,
  ⟨some 42, none, (.fieldAddr 44 (.tmp 41) 9)⟩,
  ⟨some 43, none, (.load 32 (.tmp 42))⟩,
  ⟨some 44, none, (.call { callee := (.builtin .len), args := #[(.tmp 43)], argTypes := #[32] })⟩,
  ⟨some 45, none, (.binOp .sub 3 (.tmp 44) (.const (.int .i64 1)) 3)⟩,
  ⟨some 46, none, (.binOp .eql 3 (.tmp 40) (.tmp 45) 3)⟩,
  ⟨some 47, none, (.fieldAddr 72 (.tmp 2) 2)⟩,
  ⟨some 48, none, (.load 3 (.tmp 47))⟩,
  ⟨some 49, none, (.fieldAddr 72 (.tmp 2) 3)⟩,
  ⟨some 50, none, (.load 3 (.tmp 49))⟩,
  ⟨some 51, none, (.fieldAddr 72 (.tmp 2) 0)⟩,
  ⟨some 52, none, (.fieldAddr 44 (.tmp 51) 2)⟩,
  ⟨some 53, none, (.load 27 (.tmp 52))⟩,
  ⟨some 54, none, (.build 54 #[(0, (.const (.int .i64 9))), (1, (.tmp 27)), (2, (.tmp 28)), (3, (.tmp 31)), (4, (.tmp 33)), (5, (.tmp 35)), (6, (.tmp 37)), (8, (.tmp 39)), (9, (.tmp 46)), (10, (.tmp 48)), (11, (.tmp 50)), (14, (.tmp 53))])⟩,
  ⟨none, none, (.store 54 (.tmp 4) (.tmp 54))⟩] [4]
noncomputable def F28 : CC := (.seq F28_r0 (.seq F28_r1 (.seq F28_r2 (.seq (.seq F28_r3 (.cond (.tmp 20) F28_r4 .skip)) (.seq F28_r5 .ret)))))
noncomputable def F28_inf : Nat → RI
  | 0 => ⟨[1, 2, 4], [], []⟩
  | 1 => ⟨[1, 2, 4, 5], [], []⟩
  | 2 => ⟨[1, 2, 4, 5, 6], [], []⟩
  | 3 => ⟨[1, 2, 4, 5, 6, 20], [], []⟩
  | 4 => ⟨[1, 2, 4, 5, 6], [], []⟩
  | 5 => ⟨[4], [], []⟩
  | _ => ⟨[], [], []⟩
noncomputable def F28_c : Code := Try.f28.body.getD .skip
theorem F28_b : Try.f28.body = some F28_c := by kernel_rfl
theorem F28_rs : Try.f28.results.toList = ([.cell 4 54] : List ResultVar) := by kernel_rfl
theorem F28_n : Try.f28.ntmps = 55 := by kernel_rfl
theorem F28_ok : toCC [] 55 F28_inf F28_c = some F28 := by kernel_rfl
theorem F28_in {args : List AV} {G : Hp} {post : AV → Hp → Prop} (ha : args.all AV.plain = true) (hn : args.length ≤ 55) (h : BDs args → awp Try.prog [] F28 (AEnds Try.prog [.cell 4 54] post) (initT args) G) : ACalls Try.prog 28 args G post :=
  acalls_cc Try.func28 F28_b F28_rs F28_n F28_ok mixed ha hn h

/- 29 (*ostiary/shelf.Shelf[uint32, ostiary/plan.one]).Del -/
@[simp] noncomputable def F29_r0 : CC := .reg [⟨some 4, none, (.assign (.const (.int .i64 0)))⟩] [0, 1]
@[simp] noncomputable def F29_r1 : CC := .reg [⟨some 5, none, (.assign (.const (.int .i64 0)))⟩] [0, 1, 5]
@[simp] noncomputable def F29_r2 : CC := .reg [⟨some 10, none, (.move (.tmp 1))⟩,
  ⟨some 11, none, (.call { callee := (.builtin .len), args := #[(.tmp 10)], argTypes := #[47] })⟩,
  ⟨some 12, none, (.move (.const (.int .i64 0)))⟩] [0, 5, 10, 11, 12]
@[simp] noncomputable def F29_r3 : CC := .reg [⟨some 13, none, (.binOp .lss 3 (.tmp 12) (.tmp 11) 3)⟩] [0, 5, 10, 11, 12, 13]
@[simp] noncomputable def F29_r4 : CC := .reg [⟨some 14, none, (.indexAddr 47 (.tmp 10) (.tmp 12))⟩,
  ⟨some 15, none, (.load 22 (.tmp 14))⟩,
  ⟨some 7, none, (.assign (.tmp 15))⟩] [0, 5, 7, 10, 11, 12]
@[simp] noncomputable def F29_r5 : CC := .reg [⟨some 16, none, (.move (.tmp 0))⟩,
  ⟨some 17, none, (.binOp .eql 69 (.tmp 16) (.const (.pointer none)) 69)⟩] [0, 5, 7, 10, 11, 12, 17]
@[simp] noncomputable def F29_r6 : CC := .reg [⟨some 19, none, (.move (.tmp 0))⟩,
  ⟨some 20, none, (.move (.tmp 7))⟩,
  ⟨some 21, none, (.call { callee := (.value (.func 36)), args := #[(.tmp 19), (.tmp 20)], argTypes := #[69, 22] })⟩,
  ⟨some 18, none, (.move (.tmp 21))⟩,
  ⟨some 22, none, (.extract (.tmp 18) 0)⟩,
  ⟨some 23, none, (.extract (.tmp 18) 1)⟩,
  ⟨some 8, none, (.assign (.tmp 22))⟩,
  ⟨some 9, none, (.assign (.tmp 23))⟩] [0, 5, 8, 9, 10, 11, 12]
@[simp] noncomputable def F29_r7 : CC := .reg [⟨some 24, none, (.move (.tmp 9))⟩] [0, 5, 8, 10, 11, 12, 24]
@[simp] noncomputable def F29_r8 : CC := .reg [⟨some 25, none, (.move (.tmp 0))⟩,
  ⟨some 26, none, (.move (.tmp 0))⟩,
  ⟨some 27, none, (.nilCheck (.tmp 26))⟩,
  ⟨some 28, none, (.fieldAddr 97 (.tmp 27) 0)⟩,
  ⟨some 29, none, (.load 95 (.tmp 28))⟩,
  ⟨some 30, none, (.move (.tmp 8))⟩,
  ⟨some 31, none, (.move (.tmp 8))⟩,
  ⟨some 32, none, (.binOp .add 3 (.tmp 31) (.const (.int .i64 1)) 3)⟩,
  ⟨some 33, none, (.call { callee := (.value (.func 39)), args := #[(.tmp 29), (.tmp 30), (.tmp 32)], argTypes := #[95, 3, 3] })⟩,
  ⟨some 34, none, (.nilCheck (.tmp 25))⟩,
  ⟨some 35, none, (.fieldAddr 97 (.tmp 34) 0)⟩,
  ⟨none, none, (.store 95 (.tmp 35) (.tmp 33))⟩] [0, 5, 10, 11, 12]
@[simp] noncomputable def F29_r9 : CC := .reg [⟨some 36, none, (.move (.tmp 5))⟩,
  ⟨some 37, none, (.binOp .add 3 (.tmp 36) (.const (.int .i64 1)) 3)⟩,
  ⟨some 5, none, (.assign (.tmp 37))⟩] [0, 5, 10, 11, 12]
@[simp] noncomputable def F29_r10 : CC := .reg [⟨some 38, none, (.binOp .add 3 (.tmp 12) (.const (.int .i64 1)) 3)⟩,
  ⟨some 12, none, (.move (.tmp 38))⟩] [0, 5, 10, 11, 12]
noncomputable def F29_l0 : CC := (.seq F29_r3 (.seq (.cond (.tmp 13) .skip (.exit 0)) (.seq (.block 1 (.seq F29_r4 (.seq (.seq F29_r5 (.cond (.tmp 17) (.exit 0) .skip)) (.seq F29_r6 (.seq F29_r7 (.cond (.tmp 24) (.seq F29_r8 F29_r9) .skip)))))) F29_r10)))
@[simp] noncomputable def F29_r11 : CC := .reg [⟨some 39, none, (.move (.tmp 5))⟩,
  ⟨some 4, none, (.assign (.tmp 39))⟩] [4]
noncomputable def F29 : CC := (.seq F29_r0 (.seq F29_r1 (.seq (.seq F29_r2 (.block 0 (.loop F29_l0))) (.seq F29_r11 .ret))))
noncomputable def F29_inf : Nat → RI
  | 0 => ⟨[0, 1], [], []⟩
  | 1 => ⟨[0, 1, 5], [], []⟩
  | 2 => ⟨[0, 5, 10, 11, 12], [], []⟩
  | 3 => ⟨[0, 5, 10, 11, 12, 13], [], []⟩
  | 4 => ⟨[0, 5, 7, 10, 11, 12], [], []⟩
  | 5 => ⟨[0, 5, 7, 10, 11, 12, 17], [], []⟩
  | 6 => ⟨[0, 5, 8, 9, 10, 11, 12], [], []⟩
  | 7 => ⟨[0, 5, 8, 10, 11, 12, 24], [], []⟩
  | 8 => ⟨[0, 5, 10, 11, 12], [], []⟩
  | 9 => ⟨[0, 5, 10, 11, 12], [], []⟩
  | 10 => ⟨[0, 5, 10, 11, 12], [], []⟩
  | 11 => ⟨[4], [], []⟩
  | _ => ⟨[], [], []⟩
noncomputable def F29_c : Code := Try.f29.body.getD .skip
theorem F29_b : Try.f29.body = some F29_c := by kernel_rfl
theorem F29_rs : Try.f29.results.toList = ([.tmp 4] : List ResultVar) := by kernel_rfl
theorem F29_n : Try.f29.ntmps = 40 := by kernel_rfl
theorem F29_ok : toCC [] 40 F29_inf F29_c = some F29 := by kernel_rfl
theorem F29_in {args : List AV} {G : Hp} {post : AV → Hp → Prop} (ha : args.all AV.plain = true) (hn : args.length ≤ 40) (h : BDs args → awp Try.prog [] F29 (AEnds Try.prog [.tmp 4] post) (initT args) G) : ACalls Try.prog 29 args G post :=
  acalls_cc Try.func29 F29_b F29_rs F29_n F29_ok mixed ha hn h

/- 30 (*ostiary/ostiaryref27.Plans).Start -/
@[simp] noncomputable def F30_r0 : CC := .reg [⟨some 6, none, (.box 34 (.tmp 1))⟩,
  ⟨some 7, none, (.box 35 (.tmp 2))⟩,
  ⟨some 10, none, (.assign (.const (.int .i64 0)))⟩] [0, 3, 4, 6, 7]
@[simp] noncomputable def F30_r1 : CC := .drw [⟨0, ⟨some 17, none, (.load 34 (.tmp 6))⟩, [], []⟩,
  ⟨1, ⟨some 18, none, (.load 35 (.tmp 7))⟩, [], []⟩,
  ⟨2, ⟨some 19, none, (.move (.tmp 3))⟩, [], []⟩,
  ⟨3, ⟨some 20, none, (.move (.tmp 4))⟩, [], []⟩,
  ⟨4, ⟨some 21, none, (.fieldAddr 34 (.tmp 6) 9)⟩, [], []⟩,
  ⟨5, ⟨some 22, none, (.load 32 (.tmp 21))⟩, [], []⟩,
  ⟨6, ⟨some 23, none, (.call { callee := (.builtin .len), args := #[(.tmp 22)], argTypes := #[32] })⟩, [], []⟩,
  ⟨7, ⟨some 24, none, (.binOp .sub 3 (.tmp 23) (.const (.int .i64 1)) 3)⟩, [], []⟩,
  ⟨8, ⟨some 25, none, (.move (.tmp 0))⟩, [], []⟩,
  ⟨9, ⟨some 26, none, (.nilCheck (.tmp 25))⟩, [], []⟩,
  ⟨10, ⟨some 27, none, (.fieldAddr 85 (.tmp 26) 2)⟩, [], []⟩,
  ⟨11, ⟨some 28, none, (.load 22 (.tmp 27))⟩, [], []⟩,
  ⟨12, ⟨some 29, none, (.binOp .add 22 (.tmp 28) (.const (.int .u32 1)) 22)⟩, [], []⟩,
  ⟨13, ⟨some 30, none, (.build 94 #[(0, (.tmp 17)), (1, (.tmp 18)), (2, (.tmp 19)), (3, (.tmp 20)), (4, (.tmp 24)), (5, (.tmp 29))])⟩, [], []⟩,
  ⟨14, ⟨some 11, none, (.alloc 94)⟩, [], []⟩,
  ⟨15, ⟨none, none, (.store 94 (.tmp 11) (.tmp 30))⟩, [], []⟩] [17, 18, 19, 20, 21, 22, 23, 24, 25, 26, 27, 28, 29, 30, 11] [0, 6, 11]
@[simp] noncomputable def F30_r2 : CC := .reg [⟨some 12, none, (.assign (.const (.int .i64 0)))⟩] [0, 6, 11, 12]
@[simp] noncomputable def F30_r3 : CC := .reg [⟨some 31, none, (.move (.tmp 0))⟩,
  ⟨some 32, none, (.nilCheck (.tmp 31))⟩,
  ⟨some 33, none, (.fieldAddr 85 (.tmp 32) 0)⟩,
  ⟨some 34, none, (.load 83 (.tmp 33))⟩,
  ⟨some 35, none, (.call { callee := (.builtin .len), args := #[(.tmp 34)], argTypes := #[83] })⟩,
  ⟨some 36, none, (.move (.const (.int .i64 0)))⟩] [0, 6, 11, 12, 34, 35, 36]
@[simp] noncomputable def F30_r4 : CC := .reg [⟨some 37, none, (.binOp .lss 3 (.tmp 36) (.tmp 35) 3)⟩] [0, 6, 11, 12, 34, 35, 36, 37]
@[simp] noncomputable def F30_r5 : CC := .reg [⟨some 38, none, (.indexAddr 83 (.tmp 34) (.tmp 36))⟩,
  ⟨some 39, none, (.load 94 (.tmp 38))⟩,
  ⟨some 14, none, (.alloc 94)⟩,
  ⟨none, none, (.store 94 (.tmp 14) (.tmp 39))⟩] [0, 6, 11, 12, 14, 34, 35, 36]
@[simp] noncomputable def F30_r6 : CC := .reg [⟨some 40, none, (.fieldAddr 94 (.tmp 14) 0)⟩,
  ⟨some 41, none, (.fieldAddr 34 (.tmp 40) 0)⟩,
  ⟨some 42, none, (.load 22 (.tmp 41))⟩,
  ⟨some 43, none, (.fieldAddr 34 (.tmp 6) 0)⟩,
  ⟨some 44, none, (.load 22 (.tmp 43))⟩,
  ⟨some 45, none, (.binOp .eql 22 (.tmp 42) (.tmp 44) 22)⟩] [0, 6, 11, 12, 14, 34, 35, 36, 45]
@[simp] noncomputable def F30_r7 : CC := .reg [⟨some 10, none, (.assign (.const (.int .i64 3)))⟩] [10]
@[simp] noncomputable def F30_r8 : CC := .reg [⟨some 46, none, (.fieldAddr 94 (.tmp 14) 0)⟩,
  ⟨some 47, none, (.fieldAddr 34 (.tmp 46) 0)⟩,
  ⟨some 48, none, (.load 22 (.tmp 47))⟩,
  ⟨some 49, none, (.fieldAddr 34 (.tmp 6) 0)⟩,
  ⟨some 50, none, (.load 22 (.tmp 49))⟩,
  ⟨some 51, none, (.binOp .lss 22 (.tmp 48) (.tmp 50) 22)⟩] [0, 6, 11, 12, 34, 35, 36, 51]
@[simp] noncomputable def F30_r9 : CC := .reg [⟨some 52, none, (.move (.tmp 12))⟩,
  ⟨some 53, none, (.binOp .add 3 (.tmp 52) (.const (.int .i64 1)) 3)⟩,
  ⟨some 12, none, (.assign (.tmp 53))⟩] [0, 6, 11, 12, 34, 35, 36]
@[simp] noncomputable def F30_r10 : CC := .reg [⟨some 54, none, (.binOp .add 3 (.tmp 36) (.const (.int .i64 1)) 3)⟩,
  ⟨some 36, none, (.move (.tmp 54))⟩] [0, 6, 11, 12, 34, 35, 36]
noncomputable def F30_l0 : CC := (.seq F30_r4 (.seq (.cond (.tmp 37) .skip (.exit 0)) (.seq (.block 1 (.seq F30_r5 (.seq (.seq F30_r6 (.cond (.tmp 45) (.seq F30_r7 .ret) .skip)) (.seq F30_r8 (.cond (.tmp 51) F30_r9 .skip))))) F30_r10)))
@[simp] noncomputable def F30_r11 : CC := .reg [⟨some 55, none, (.move (.tmp 0))⟩,
  ⟨some 56, none, (.nilCheck (.tmp 55))⟩,
  ⟨some 57, none, (.fieldAddr 85 (.tmp 56) 0)⟩,
  ⟨some 58, none, (.load 83 (.tmp 57))⟩,
  ⟨some 59, none, (.call { callee := (.builtin .len), args := #[(.tmp 58)], argTypes := #[83] })⟩,
  ⟨some 60, none, (.binOp .geq 3 (.tmp 59) (.const (.int .i64 1024)) 3)⟩] [0, 6, 11, 12, 60]
@[simp] noncomputable def F30_r12 : CC := .reg [⟨some 10, none, (.assign (.const (.int .i64 4)))⟩] [10]
@[simp] noncomputable def F30_r13 : CC := .reg [⟨some 61, none, (.fieldAddr 34 (.tmp 6) 9)⟩,
  ⟨some 62, none, (.load 32 (.tmp 61))⟩,
  ⟨some 63, none, (.call { callee := (.builtin .len), args := #[(.tmp 62)], argTypes := #[32] })⟩,
  ⟨some 64, none, (.binOp .eql 3 (.tmp 63) (.const (.int .i64 0)) 3)⟩] [0, 6, 11, 12, 64]
@[simp] noncomputable def F30_r14 : CC := .reg [⟨some 10, none, (.assign (.const (.int .i64 1)))⟩] [10]
@[simp] noncomputable def F30_r15 : CC := .reg [⟨some 65, none, (.fieldAddr 34 (.tmp 6) 9)⟩,
  ⟨some 66, none, (.load 32 (.tmp 65))⟩,
  ⟨some 67, none, (.call { callee := (.builtin .len), args := #[(.tmp 66)], argTypes := #[32] })⟩,
  ⟨some 68, none, (.move (.const (.int .i64 0)))⟩] [0, 11, 12, 67, 68]
@[simp] noncomputable def F30_r16 : CC := .reg [⟨some 69, none, (.binOp .lss 3 (.tmp 68) (.tmp 67) 3)⟩] [0, 11, 12, 67, 68, 69]
@[simp] noncomputable def F30_r17 : CC := .reg [⟨some 70, none, (.move (.tmp 68))⟩,
  ⟨some 15, none, (.assign (.tmp 70))⟩] [0, 11, 12, 15, 67, 68]
@[simp] noncomputable def F30_r18 : CC := .reg [⟨some 71, none, (.load 94 (.tmp 11))⟩,
  ⟨some 72, none, (.move (.tmp 15))⟩,
  ⟨some 73, none, (.call { callee := (.value (.func 41)), args := #[(.tmp 71), (.tmp 72)], argTypes := #[94, 3] })⟩,
  ⟨some 74, none, (.call { callee := (.value (.func 40)), args := #[(.tmp 73)], argTypes := #[106] })⟩,
  ⟨some 75, none, (.unOp .not 4 (.tmp 74))⟩] [0, 11, 12, 67, 68, 75]
@[simp] noncomputable def F30_r19 : CC := .reg [⟨some 10, none, (.assign (.const (.int .i64 1)))⟩] [10]
@[simp] noncomputable def F30_r20 : CC := .reg [⟨some 76, none, (.binOp .add 3 (.tmp 68) (.const (.int .i64 1)) 3)⟩,
  ⟨some 68, none, (.move (.tmp 76))⟩] [0, 11, 12, 67, 68]
noncomputable def F30_l1 : CC := (.seq F30_r16 (.seq (.cond (.tmp 69) .skip (.exit 2)) (.seq (.block 3 (.seq F30_r17 (.seq F30_r18 (.cond (.tmp 75) (.seq F30_r19 .ret) .skip)))) F30_r20)))
@[simp] noncomputable def F30_r21 : CC := .reg [⟨some 77, none, (.move (.tmp 0))⟩,
  ⟨some 78, none, (.nilCheck (.tmp 77))⟩,
  ⟨some 79, none, (.fieldAddr 85 (.tmp 78) 2)⟩,
  ⟨some 80, none, (.load 22 (.tmp 79))⟩,
  ⟨some 81, none, (.binOp .add 22 (.tmp 80) (.const (.int .u32 1)) 22)⟩,
  ⟨some 82, none, (.nilCheck (.tmp 77))⟩,
  ⟨some 83, none, (.fieldAddr 85 (.tmp 82) 2)⟩,
  ⟨none, none, (.store 22 (.tmp 83) (.tmp 81))⟩] [0, 11, 12]
@[simp] noncomputable def F30_r22 : CC := .reg [⟨some 84, none, (.buildSlice 83 0 #[])⟩,
  ⟨some 85, none, (.move (.tmp 0))⟩,
  ⟨some 86, none, (.nilCheck (.tmp 85))⟩,
  ⟨some 87, none, (.fieldAddr 85 (.tmp 86) 0)⟩,
  ⟨some 88, none, (.load 83 (.tmp 87))⟩,
  ⟨some 89, none, (.move (.tmp 12))⟩,
  ⟨some 90, none, (.slice 83 (.tmp 88) none (some (.tmp 89)) none)⟩,
  ⟨some 91, none, (.call { callee := (.builtin .append), args := #[(.tmp 84), (.tmp 90)], argTypes := #[83, 83] })⟩,
  ⟨some 16, none, (.assign (.tmp 91))⟩] [0, 11, 12, 16]
@[simp] noncomputable def F30_r23 : CC := .reg [⟨some 92, none, (.move (.tmp 16))⟩,
  ⟨some 93, none, (.load 94 (.tmp 11))⟩,
  ⟨some 94, none, (.buildSlice 83 1 #[(0, (.tmp 93))])⟩,
  ⟨some 95, none, (.call { callee := (.builtin .append), args := #[(.tmp 92), (.tmp 94)], argTypes := #[83, 83] })⟩,
  ⟨some 16, none, (.assign (.tmp 95))⟩] [0, 12, 16]
@[simp] noncomputable def F30_r24 : CC := .reg [⟨some 96, none, (.move (.tmp 0))⟩,
  ⟨some 97, none, (.move (.tmp 16))⟩,
  ⟨some 98, none, (.move (.tmp 0))⟩,
  ⟨some 99, none, (.nilCheck (.tmp 98))⟩,
  ⟨some 100, none, (.fieldAddr 85 (.tmp 99) 0)⟩,
  ⟨some 101, none, (.load 83 (.tmp 100))⟩,
  ⟨some 102, none, (.move (.tmp 12))⟩,
  ⟨some 103, none, (.slice 83 (.tmp 101) (some (.tmp 102)) none none)⟩,
  ⟨some 104, none, (.call { callee := (.builtin .append), args := #[(.tmp 97), (.tmp 103)], argTypes := #[83, 83] })⟩,
  ⟨some 105, none, (.nilCheck (.tmp 96))⟩,
  ⟨some 106, none, (.fieldAddr 85 (.tmp 105) 0)⟩,
  ⟨none, none, (.store 83 (.tmp 106) (.tmp 104))⟩] []
@[simp] noncomputable def F30_r25 : CC := .reg [⟨some 10, none, (.assign (.const (.int .i64 0)))⟩] [10]
noncomputable def F30 : CC := (.seq F30_r0 (.seq F30_r1 (.seq F30_r2 (.seq (.seq F30_r3 (.block 0 (.loop F30_l0))) (.seq (.seq F30_r11 (.cond (.tmp 60) (.seq F30_r12 .ret) .skip)) (.seq (.seq F30_r13 (.cond (.tmp 64) (.seq F30_r14 .ret) .skip)) (.seq (.seq F30_r15 (.block 2 (.loop F30_l1))) (.seq F30_r21 (.seq F30_r22 (.seq F30_r23 (.seq F30_r24 (.seq F30_r25 .ret))))))))))))
noncomputable def F30_inf : Nat → RI
  | 0 => ⟨[0, 3, 4, 6, 7], [], []⟩
  | 1 => ⟨[0, 6, 11], [0, 0, 0, 0, 0, 16, 48, 112, 0, 256, 768, 1792, 3840, 8191, 0, 32767], [(0, []), (1, []), (2, []), (3, []), (4, []), (5, []), (6, []), (7, []), (8, []), (9, []), (10, []), (11, []), (12, []), (13, []), (14, []), (15, [])]⟩
  | 2 => ⟨[0, 6, 11, 12], [], []⟩
  | 3 => ⟨[0, 6, 11, 12, 34, 35, 36], [], []⟩
  | 4 => ⟨[0, 6, 11, 12, 34, 35, 36, 37], [], []⟩
  | 5 => ⟨[0, 6, 11, 12, 14, 34, 35, 36], [], []⟩
  | 6 => ⟨[0, 6, 11, 12, 14, 34, 35, 36, 45], [], []⟩
  | 7 => ⟨[10], [], []⟩
  | 8 => ⟨[0, 6, 11, 12, 34, 35, 36, 51], [], []⟩
  | 9 => ⟨[0, 6, 11, 12, 34, 35, 36], [], []⟩
  | 10 => ⟨[0, 6, 11, 12, 34, 35, 36], [], []⟩
  | 11 => ⟨[0, 6, 11, 12, 60], [], []⟩
  | 12 => ⟨[10], [], []⟩
  | 13 => ⟨[0, 6, 11, 12, 64], [], []⟩
  | 14 => ⟨[10], [], []⟩
  | 15 => ⟨[0, 11, 12, 67, 68], [], []⟩
  | 16 => ⟨[0, 11, 12, 67, 68, 69], [], []⟩
  | 17 => ⟨[0, 11, 12, 15, 67, 68], [], []⟩
  | 18 => ⟨[0, 11, 12, 67, 68, 75], [], []⟩
  | 19 => ⟨[10], [], []⟩
  | 20 => ⟨[0, 11, 12, 67, 68], [], []⟩
  | 21 => ⟨[0, 11, 12], [], []⟩
  | 22 => ⟨[0, 11, 12, 16], [], []⟩
  | 23 => ⟨[0, 12, 16], [], []⟩
  | 24 => ⟨[], [], []⟩
  | 25 => ⟨[10], [], []⟩
  | _ => ⟨[], [], []⟩
noncomputable def F30_c : Code := Try.f30.body.getD .skip
theorem F30_b : Try.f30.body = some F30_c := by kernel_rfl
theorem F30_rs : Try.f30.results.toList = ([.tmp 10] : List ResultVar) := by kernel_rfl
theorem F30_n : Try.f30.ntmps = 107 := by kernel_rfl
theorem F30_ok : toCC [] 107 F30_inf F30_c = some F30 := by kernel_rfl
theorem F30_in {args : List AV} {G : Hp} {post : AV → Hp → Prop} (ha : args.all AV.plain = true) (hn : args.length ≤ 107) (h : BDs args → awp Try.prog [] F30 (AEnds Try.prog [.tmp 10] post) (initT args) G) : ACalls Try.prog 30 args G post :=
  acalls_cc Try.func30 F30_b F30_rs F30_n F30_ok mixed ha hn h

/- 31 ostiary/ostiarylaw27.Same -/
@[simp] noncomputable def F31_r0 : CC := .reg [⟨some 4, none, (.assign (.const (.bool false)))⟩] [0, 1]
@[simp] noncomputable def F31_r1 : CC := .reg [⟨some 6, none, (.move (.tmp 0))⟩,
  ⟨some 7, none, (.call { callee := (.builtin .len), args := #[(.tmp 6)], argTypes := #[88] })⟩,
  ⟨some 8, none, (.move (.tmp 1))⟩,
  ⟨some 9, none, (.call { callee := (.builtin .len), args := #[(.tmp 8)], argTypes := #[88] })⟩,
  ⟨some 10, none, (.binOp .neq 3 (.tmp 7) (.tmp 9) 3)⟩] [0, 1, 10]
@[simp] noncomputable def F31_r2 : CC := .reg [⟨some 4, none, (.assign (.const (.bool false)))⟩] [4]
@[simp] noncomputable def F31_r3 : CC := .reg [⟨some 11, none, (.move (.tmp 0))⟩,
  ⟨some 12, none, (.call { callee := (.builtin .len), args := #[(.tmp 11)], argTypes := #[88] })⟩,
  ⟨some 13, none, (.move (.const (.int .i64 0)))⟩] [0, 1, 12, 13]
@[simp] noncomputable def F31_r4 : CC := .reg [⟨some 14, none, (.binOp .lss 3 (.tmp 13) (.tmp 12) 3)⟩] [0, 1, 12, 13, 14]
@[simp] noncomputable def F31_r5 : CC := .reg [⟨some 15, none, (.move (.tmp 13))⟩,
  ⟨some 5, none, (.assign (.tmp 15))⟩] [0, 1, 5, 12, 13]
@[simp] noncomputable def F31_r6 : CC := .drw [⟨0, ⟨some 16, none, (.move (.tmp 0))⟩, [], []⟩,
  ⟨1, ⟨some 17, none, (.move (.tmp 5))⟩, [], []⟩,
  ⟨2, ⟨some 18, none, (.indexAddr 88 (.tmp 16) (.tmp 17))⟩, [], []⟩,
  ⟨3, ⟨some 19, none, (.load 106 (.tmp 18))⟩, [], []⟩,
  ⟨4, ⟨some 20, none, (.move (.tmp 1))⟩, [], []⟩,
  ⟨5, ⟨some 21, none, (.move (.tmp 5))⟩, [], []⟩,
  ⟨6, ⟨some 22, none, (.indexAddr 88 (.tmp 20) (.tmp 21))⟩, [], []⟩,
  ⟨7, ⟨some 23, none, (.load 106 (.tmp 22))⟩, [], []⟩,
  ⟨8, ⟨some 24, none, (.call { callee := (.value (.func 42)), args := #[(.tmp 19), (.tmp 23)], argTypes := #[106, 106] })⟩, [], []⟩,
  ⟨9, ⟨some 25, none, (.unOp .not 4 (.tmp 24))⟩, [], []⟩] [16, 17, 18, 19, 20, 21, 22, 23, 24, 25] [0, 1, 12, 13, 25]
@[simp] noncomputable def F31_r7 : CC := .reg [⟨some 4, none, (.assign (.const (.bool false)))⟩] [4]
@[simp] noncomputable def F31_r8 : CC := .reg [⟨some 26, none, (.binOp .add 3 (.tmp 13) (.const (.int .i64 1)) 3)⟩,
  ⟨some 13, none, (.move (.tmp 26))⟩] [0, 1, 12, 13]
noncomputable def F31_l0 : CC := (.seq F31_r4 (.seq (.cond (.tmp 14) .skip (.exit 0)) (.seq (.block 1 (.seq F31_r5 (.seq F31_r6 (.cond (.tmp 25) (.seq F31_r7 .ret) .skip)))) F31_r8)))
@[simp] noncomputable def F31_r9 : CC := .reg [⟨some 4, none, (.assign (.const (.bool true)))⟩] [4]
noncomputable def F31 : CC := (.seq F31_r0 (.seq (.seq F31_r1 (.cond (.tmp 10) (.seq F31_r2 .ret) .skip)) (.seq (.seq F31_r3 (.block 0 (.loop F31_l0))) (.seq F31_r9 .ret))))
noncomputable def F31_inf : Nat → RI
  | 0 => ⟨[0, 1], [], []⟩
  | 1 => ⟨[0, 1, 10], [], []⟩
  | 2 => ⟨[4], [], []⟩
  | 3 => ⟨[0, 1, 12, 13], [], []⟩
  | 4 => ⟨[0, 1, 12, 13, 14], [], []⟩
  | 5 => ⟨[0, 1, 5, 12, 13], [], []⟩
  | 6 => ⟨[0, 1, 12, 13, 25], [0, 0, 3, 7, 0, 0, 48, 112, 255, 511], [(0, []), (1, []), (2, []), (3, []), (4, []), (5, []), (6, []), (7, []), (8, []), (9, [])]⟩
  | 7 => ⟨[4], [], []⟩
  | 8 => ⟨[0, 1, 12, 13], [], []⟩
  | 9 => ⟨[4], [], []⟩
  | _ => ⟨[], [], []⟩
noncomputable def F31_c : Code := Try.f31.body.getD .skip
theorem F31_b : Try.f31.body = some F31_c := by kernel_rfl
theorem F31_rs : Try.f31.results.toList = ([.tmp 4] : List ResultVar) := by kernel_rfl
theorem F31_n : Try.f31.ntmps = 27 := by kernel_rfl
theorem F31_ok : toCC [] 27 F31_inf F31_c = some F31 := by kernel_rfl
theorem F31_in {args : List AV} {G : Hp} {post : AV → Hp → Prop} (ha : args.all AV.plain = true) (hn : args.length ≤ 27) (h : BDs args → awp Try.prog [] F31 (AEnds Try.prog [.tmp 4] post) (initT args) G) : ACalls Try.prog 31 args G post :=
  acalls_cc Try.func31 F31_b F31_rs F31_n F31_ok mixed ha hn h

/- 32 ostiary/ostiarylaw27.plain -/
@[simp] noncomputable def F32_r0 : CC := .reg [⟨some 2, none, (.assign (.const (.slice none 0 0)))⟩] [0]
@[simp] noncomputable def F32_r1 : CC := .reg [⟨some 3, none, (.assign (.const (.slice none 0 0)))⟩] [0, 3]
@[simp] noncomputable def F32_r2 : CC := .reg [⟨some 6, none, (.move (.tmp 0))⟩,
  ⟨some 7, none, (.call { callee := (.builtin .len), args := #[(.tmp 6)], argTypes := #[50] })⟩,
  ⟨some 8, none, (.move (.const (.int .i64 0)))⟩] [3, 6, 7, 8]
@[simp] noncomputable def F32_r3 : CC := .reg [⟨some 9, none, (.binOp .lss 3 (.tmp 8) (.tmp 7) 3)⟩] [3, 6, 7, 8, 9]
@[simp] noncomputable def F32_r4 : CC := .reg [⟨some 10, none, (.indexAddr 50 (.tmp 6) (.tmp 8))⟩,
  ⟨some 11, none, (.load 54 (.tmp 10))⟩,
  ⟨some 5, none, (.alloc 54)⟩,
  ⟨none, none, (.store 54 (.tmp 5) (.tmp 11))⟩] [3, 5, 6, 7, 8]
@[simp] noncomputable def F32_r5 : CC := .reg [⟨some 12, none, (.move (.tmp 3))⟩,
  ⟨some 13, none, (.load 54 (.tmp 5))⟩,
  ⟨some 14, none, (.call { callee := (.value (.func 43)), args := #[(.tmp 13)], argTypes := #[54] })⟩,
  ⟨some 15, none, (.buildSlice 88 1 #[(0, (.tmp 14))])⟩,
  ⟨some 16, none, (.call { callee := (.builtin .append), args := #[(.tmp 12), (.tmp 15)], argTypes := #[88, 88] })⟩,
  ⟨some 3, none, (.assign (.tmp 16))⟩] [3, 6, 7, 8]
@[simp] noncomputable def F32_r6 : CC := .reg [⟨some 17, none, (.binOp .add 3 (.tmp 8) (.const (.int .i64 1)) 3)⟩,
  ⟨some 8, none, (.move (.tmp 17))⟩] [3, 6, 7, 8]
noncomputable def F32_l0 : CC := (.seq F32_r3 (.seq (.cond (.tmp 9) .skip (.exit 0)) (.seq (.block 1 (.seq F32_r4 F32_r5)) F32_r6)))
@[simp] noncomputable def F32_r7 : CC := .reg [⟨some 18, none, (.move (.tmp 3))⟩,
  ⟨some 2, none, (.assign (.tmp 18))⟩] [2]
noncomputable def F32 : CC := (.seq F32_r0 (.seq F32_r1 (.seq (.seq F32_r2 (.block 0 (.loop F32_l0))) (.seq F32_r7 .ret))))
noncomputable def F32_inf : Nat → RI
  | 0 => ⟨[0], [], []⟩
  | 1 => ⟨[0, 3], [], []⟩
  | 2 => ⟨[3, 6, 7, 8], [], []⟩
  | 3 => ⟨[3, 6, 7, 8, 9], [], []⟩
  | 4 => ⟨[3, 5, 6, 7, 8], [], []⟩
  | 5 => ⟨[3, 6, 7, 8], [], []⟩
  | 6 => ⟨[3, 6, 7, 8], [], []⟩
  | 7 => ⟨[2], [], []⟩
  | _ => ⟨[], [], []⟩
noncomputable def F32_c : Code := Try.f32.body.getD .skip
theorem F32_b : Try.f32.body = some F32_c := by kernel_rfl
theorem F32_rs : Try.f32.results.toList = ([.tmp 2] : List ResultVar) := by kernel_rfl
theorem F32_n : Try.f32.ntmps = 19 := by kernel_rfl
theorem F32_ok : toCC [] 19 F32_inf F32_c = some F32 := by kernel_rfl
theorem F32_in {args : List AV} {G : Hp} {post : AV → Hp → Prop} (ha : args.all AV.plain = true) (hn : args.length ≤ 19) (h : BDs args → awp Try.prog [] F32 (AEnds Try.prog [.tmp 2] post) (initT args) G) : ACalls Try.prog 32 args G post :=
  acalls_cc Try.func32 F32_b F32_rs F32_n F32_ok mixed ha hn h

/- 33 (*ostiary/ostiaryref27.Plans).Next -/
@[simp] noncomputable def F33_r0 : CC := .reg [⟨some 4, none, (.assign (.const (.slice none 0 0)))⟩] [0, 1]
@[simp] noncomputable def F33_r1 : CC := .reg [⟨some 5, none, (.assign (.const (.slice none 0 0)))⟩] [0, 1, 5]
@[simp] noncomputable def F33_r2 : CC := .reg [⟨some 8, none, (.move (.tmp 0))⟩,
  ⟨some 9, none, (.nilCheck (.tmp 8))⟩,
  ⟨some 10, none, (.fieldAddr 85 (.tmp 9) 0)⟩,
  ⟨some 11, none, (.load 83 (.tmp 10))⟩,
  ⟨some 12, none, (.call { callee := (.builtin .len), args := #[(.tmp 11)], argTypes := #[83] })⟩,
  ⟨some 13, none, (.move (.const (.int .i64 0)))⟩] [0, 1, 5, 11, 12, 13]
@[simp] noncomputable def F33_r3 : CC := .reg [⟨some 14, none, (.binOp .lss 3 (.tmp 13) (.tmp 12) 3)⟩] [0, 1, 5, 11, 12, 13, 14]
@[simp] noncomputable def F33_r4 : CC := .reg [⟨some 15, none, (.move (.tmp 13))⟩,
  ⟨some 16, none, (.indexAddr 83 (.tmp 11) (.tmp 13))⟩,
  ⟨some 17, none, (.load 94 (.tmp 16))⟩,
  ⟨some 7, none, (.alloc 94)⟩,
  ⟨some 6, none, (.assign (.tmp 15))⟩,
  ⟨none, none, (.store 94 (.tmp 7) (.tmp 17))⟩] [0, 1, 5, 6, 7, 11, 12, 13]
@[simp] noncomputable def F33_r5 : CC := .drw [⟨0, ⟨some 18, none, (.fieldAddr 94 (.tmp 7) 6)⟩, [], []⟩,
  ⟨1, ⟨some 19, none, (.load 4 (.tmp 18))⟩, [], []⟩,
  ⟨2, ⟨some 20, none, (.move (.tmp 19))⟩, [], []⟩,
  ⟨3, ⟨some 21, some (20, true), (.move (.tmp 1))⟩, [], []⟩,
  ⟨4, ⟨some 22, some (20, true), (.fieldAddr 94 (.tmp 7) 7)⟩, [], []⟩,
  ⟨5, ⟨some 23, some (20, true), (.load 2 (.tmp 22))⟩, [], []⟩,
  ⟨6, ⟨some 24, some (20, true), (.binOp .sub 2 (.tmp 21) (.tmp 23) 2)⟩, [], []⟩,
  ⟨7, ⟨some 25, some (20, true), (.move (.tmp 0))⟩, [], []⟩,
  ⟨8, ⟨some 26, some (20, true), (.nilCheck (.tmp 25))⟩, [], []⟩,
  ⟨9, ⟨some 27, some (20, true), (.fieldAddr 85 (.tmp 26) 1)⟩, [], []⟩,
  ⟨10, ⟨some 28, some (20, true), (.load 2 (.tmp 27))⟩, [], []⟩,
  ⟨11, ⟨some 29, some (20, true), (.binOp .lss 2 (.tmp 24) (.tmp 28) 2)⟩, [], []⟩,
  ⟨12, ⟨some 30, none, (.pick (.tmp 20) (.tmp 29) (.const (.bool false)))⟩, [], []⟩] [18, 19, 20, 21, 22, 23, 24, 25, 26, 27, 28, 29, 30] [0, 1, 5, 6, 7, 11, 12, 13, 30]
@[simp] noncomputable def F33_r6 : CC := .reg [⟨some 31, none, (.fieldAddr 94 (.tmp 7) 6)⟩,
  ⟨none, none, (.store 4 (.tmp 31) (.const (.bool true)))⟩] [0, 1, 5, 6, 7, 11, 12, 13]
@[simp] noncomputable def F33_r7 : CC := .reg [⟨some 32, none, (.move (.tmp 1))⟩,
  ⟨some 33, none, (.fieldAddr 94 (.tmp 7) 7)⟩,
  ⟨none, none, (.store 2 (.tmp 33) (.tmp 32))⟩] [0, 1, 5, 6, 7, 11, 12, 13]
@[simp] noncomputable def F33_r8 : CC := .drw [⟨0, ⟨some 34, none, (.move (.tmp 0))⟩, [], []⟩,
  ⟨1, ⟨some 35, none, (.nilCheck (.tmp 34))⟩, [], []⟩,
  ⟨2, ⟨some 36, none, (.fieldAddr 85 (.tmp 35) 0)⟩, [], []⟩,
  ⟨3, ⟨some 37, none, (.load 83 (.tmp 36))⟩, [], []⟩,
  ⟨4, ⟨some 38, none, (.move (.tmp 6))⟩, [], []⟩,
  ⟨5, ⟨some 39, none, (.load 94 (.tmp 7))⟩, [], []⟩,
  ⟨6, ⟨some 40, none, (.indexAddr 83 (.tmp 37) (.tmp 38))⟩, [], []⟩,
  ⟨7, ⟨none, none, (.store 94 (.tmp 40) (.tmp 39))⟩, [], []⟩] [34, 35, 36, 37, 38, 39, 40] [0, 1, 5, 7, 11, 12, 13]
@[simp] noncomputable def F33_r9 : CC := .reg [⟨some 41, none, (.move (.tmp 5))⟩,
  ⟨some 42, none, (.load 94 (.tmp 7))⟩,
  ⟨some 43, none, (.fieldAddr 94 (.tmp 7) 4)⟩,
  ⟨some 44, none, (.load 3 (.tmp 43))⟩,
  ⟨some 45, none, (.call { callee := (.value (.func 41)), args := #[(.tmp 42), (.tmp 44)], argTypes := #[94, 3] })⟩,
  ⟨some 46, none, (.buildSlice 88 1 #[(0, (.tmp 45))])⟩,
  ⟨some 47, none, (.call { callee := (.builtin .append), args := #[(.tmp 41), (.tmp 46)], argTypes := #[88, 88] })⟩,
  ⟨some 5, none, (.assign (.tmp 47))⟩] [0, 1, 5, 11, 12, 13]
@[simp] noncomputable def F33_r10 : CC := .reg [⟨some 48, none, (.binOp .add 3 (.tmp 13) (.const (.int .i64 1)) 3)⟩,
  ⟨some 13, none, (.move (.tmp 48))⟩] [0, 1, 5, 11, 12, 13]
noncomputable def F33_l0 : CC := (.seq F33_r3 (.seq (.cond (.tmp 14) .skip (.exit 0)) (.seq (.block 1 (.seq F33_r4 (.seq (.seq F33_r5 (.cond (.tmp 30) (.exit 1) .skip)) (.seq F33_r6 (.seq F33_r7 (.seq F33_r8 F33_r9)))))) F33_r10)))
@[simp] noncomputable def F33_r11 : CC := .reg [⟨some 49, none, (.move (.tmp 5))⟩,
  ⟨some 4, none, (.assign (.tmp 49))⟩] [4]
noncomputable def F33 : CC := (.seq F33_r0 (.seq F33_r1 (.seq (.seq F33_r2 (.block 0 (.loop F33_l0))) (.seq F33_r11 .ret))))
noncomputable def F33_inf : Nat → RI
  | 0 => ⟨[0, 1], [], []⟩
  | 1 => ⟨[0, 1, 5], [], []⟩
  | 2 => ⟨[0, 1, 5, 11, 12, 13], [], []⟩
  | 3 => ⟨[0, 1, 5, 11, 12, 13, 14], [], []⟩
  | 4 => ⟨[0, 1, 5, 6, 7, 11, 12, 13], [], []⟩
  | 5 => ⟨[0, 1, 5, 6, 7, 11, 12, 13, 30], [0, 1, 3, 7, 7, 23, 63, 7, 135, 391, 903, 2047, 4095], [(0, []), (1, []), (2, []), (3, []), (4, []), (5, []), (6, []), (7, []), (8, []), (9, []), (10, []), (11, []), (12, [])]⟩
  | 6 => ⟨[0, 1, 5, 6, 7, 11, 12, 13], [], []⟩
  | 7 => ⟨[0, 1, 5, 6, 7, 11, 12, 13], [], []⟩
  | 8 => ⟨[0, 1, 5, 7, 11, 12, 13], [0, 1, 3, 7, 0, 0, 63, 127], [(0, []), (1, []), (2, []), (3, []), (4, []), (5, []), (6, []), (7, [])]⟩
  | 9 => ⟨[0, 1, 5, 11, 12, 13], [], []⟩
  | 10 => ⟨[0, 1, 5, 11, 12, 13], [], []⟩
  | 11 => ⟨[4], [], []⟩
  | _ => ⟨[], [], []⟩
noncomputable def F33_c : Code := Try.f33.body.getD .skip
theorem F33_b : Try.f33.body = some F33_c := by kernel_rfl
theorem F33_rs : Try.f33.results.toList = ([.tmp 4] : List ResultVar) := by kernel_rfl
theorem F33_n : Try.f33.ntmps = 50 := by kernel_rfl
theorem F33_ok : toCC [] 50 F33_inf F33_c = some F33 := by kernel_rfl
theorem F33_in {args : List AV} {G : Hp} {post : AV → Hp → Prop} (ha : args.all AV.plain = true) (hn : args.length ≤ 50) (h : BDs args → awp Try.prog [] F33 (AEnds Try.prog [.tmp 4] post) (initT args) G) : ACalls Try.prog 33 args G post :=
  acalls_cc Try.func33 F33_b F33_rs F33_n F33_ok mixed ha hn h

/- 34 ostiary/ostiarylaw27.done -/
@[simp] noncomputable def F34_r0 : CC := .reg [⟨some 3, none, (.box 64 (.tmp 1))⟩,
  ⟨some 4, none, (.assign (.const (.int .i64 0)))⟩,
  ⟨some 5, none, (.assign (.const (.int .u32 0)))⟩,
  ⟨some 6, none, (.assign (.const (.int .u32 0)))⟩,
  ⟨some 7, none, (.assign (.const (.int .u32 0)))⟩] [0, 3]
@[simp] noncomputable def F34_r1 : CC := .drw [⟨0, ⟨some 10, none, (.fieldAddr 64 (.tmp 3) 0)⟩, [], []⟩,
  ⟨1, ⟨some 11, none, (.load 3 (.tmp 10))⟩, [], []⟩,
  ⟨2, ⟨some 12, none, (.binOp .eql 3 (.tmp 11) (.const (.int .i64 4)) 3)⟩, [], []⟩,
  ⟨3, ⟨some 13, none, (.move (.tmp 12))⟩, [], []⟩,
  ⟨4, ⟨some 14, some (13, false), (.fieldAddr 64 (.tmp 3) 9)⟩, [], []⟩,
  ⟨5, ⟨some 15, some (13, false), (.load 3 (.tmp 14))⟩, [], []⟩,
  ⟨6, ⟨some 16, some (13, false), (.binOp .lss 3 (.tmp 15) (.const (.int .i64 0)) 3)⟩, [], []⟩,
  ⟨7, ⟨some 17, none, (.pick (.tmp 13) (.const (.bool true)) (.tmp 16))⟩, [], []⟩,
  ⟨8, ⟨some 18, none, (.move (.tmp 17))⟩, [], []⟩,
  ⟨9, ⟨some 19, some (18, false), (.fieldAddr 64 (.tmp 3) 9)⟩, [], []⟩,
  ⟨10, ⟨some 20, some (18, false), (.load 3 (.tmp 19))⟩, [], []⟩,
  ⟨11, ⟨some 21, some (18, false), (.move (.tmp 0))⟩, [], []⟩,
  ⟨12, ⟨some 22, some (18, false), (.nilCheck (.tmp 21))⟩, [], []⟩,
  ⟨13, ⟨some 23, some (18, false), (.fieldAddr 85 (.tmp 22) 0)⟩, [], []⟩,
  ⟨14, ⟨some 24, some (18, false), (.load 83 (.tmp 23))⟩, [], []⟩,
  ⟨15, ⟨some 25, some (18, false), (.call { callee := (.builtin .len), args := #[(.tmp 24)], argTypes := #[83] })⟩, [], []⟩,
  ⟨16, ⟨some 26, some (18, false), (.binOp .geq 3 (.tmp 20) (.tmp 25) 3)⟩, [], []⟩,
  ⟨17, ⟨some 27, none, (.pick (.tmp 18) (.const (.bool true)) (.tmp 26))⟩, [], []⟩] [10, 11, 12, 13, 14, 15, 16, 17, 18, 19, 20, 21, 22, 23, 24, 25, 26, 27] [0, 3, 27]
@[simp] noncomputable def F34_r2 : CC := .drw [⟨0, ⟨some 28, none, (.fieldAddr 64 (.tmp 3) 5)⟩, [], []⟩,
  ⟨1, ⟨some 29, none, (.load 3 (.tmp 28))⟩, [], []⟩,
  ⟨2, ⟨some 30, none, (.fieldAddr 64 (.tmp 3) 6)⟩, [], []⟩,
  ⟨3, ⟨some 31, none, (.load 22 (.tmp 30))⟩, [], []⟩,
  ⟨4, ⟨some 32, none, (.fieldAddr 64 (.tmp 3) 7)⟩, [], []⟩,
  ⟨5, ⟨some 33, none, (.load 22 (.tmp 32))⟩, [], []⟩,
  ⟨6, ⟨some 34, none, (.fieldAddr 64 (.tmp 3) 8)⟩, [], []⟩,
  ⟨7, ⟨some 35, none, (.load 22 (.tmp 34))⟩, [], []⟩,
  ⟨8, ⟨some 4, none, (.assign (.tmp 29))⟩, [], []⟩,
  ⟨9, ⟨some 5, none, (.assign (.tmp 31))⟩, [], []⟩,
  ⟨10, ⟨some 6, none, (.assign (.tmp 33))⟩, [], []⟩,
  ⟨11, ⟨some 7, none, (.assign (.tmp 35))⟩, [], []⟩] [28, 29, 30, 31, 32, 33, 34, 35, 4, 5, 6, 7] [4, 5, 6, 7]
@[simp] noncomputable def F34_r3 : CC := .drw [⟨0, ⟨some 36, none, (.move (.tmp 0))⟩, [], []⟩,
  ⟨1, ⟨some 37, none, (.nilCheck (.tmp 36))⟩, [], []⟩,
  ⟨2, ⟨some 38, none, (.fieldAddr 85 (.tmp 37) 0)⟩, [], []⟩,
  ⟨3, ⟨some 39, none, (.load 83 (.tmp 38))⟩, [], []⟩,
  ⟨4, ⟨some 40, none, (.fieldAddr 64 (.tmp 3) 9)⟩, [], []⟩,
  ⟨5, ⟨some 41, none, (.load 3 (.tmp 40))⟩, [], []⟩,
  ⟨6, ⟨some 42, none, (.indexAddr 83 (.tmp 39) (.tmp 41))⟩, [], []⟩,
  ⟨7, ⟨some 43, none, (.load 94 (.tmp 42))⟩, [], []⟩,
  ⟨8, ⟨some 8, none, (.alloc 94)⟩, [], []⟩,
  ⟨9, ⟨none, none, (.store 94 (.tmp 8) (.tmp 43))⟩, [], []⟩] [36, 37, 38, 39, 40, 41, 42, 43, 8] [8]
@[simp] noncomputable def F34_r4 : CC := .reg [⟨some 44, none, (.load 94 (.tmp 8))⟩,
  ⟨some 45, none, (.fieldAddr 94 (.tmp 8) 4)⟩,
  ⟨some 46, none, (.load 3 (.tmp 45))⟩,
  ⟨some 47, none, (.call { callee := (.value (.func 41)), args := #[(.tmp 44), (.tmp 46)], argTypes := #[94, 3] })⟩,
  ⟨some 9, none, (.alloc 106)⟩,
  ⟨none, none, (.store 106 (.tmp 9) (.tmp 47))⟩] [9]
@[simp] noncomputable def F34_r5 : CC := .drw [⟨0, ⟨some 48, none, (.fieldAddr 106 (.tmp 9) 1)⟩, [], []⟩,
  ⟨1, ⟨some 49, none, (.load 3 (.tmp 48))⟩, [], []⟩,
  ⟨2, ⟨some 50, none, (.fieldAddr 106 (.tmp 9) 2)⟩, [], []⟩,
  ⟨3, ⟨some 51, none, (.load 22 (.tmp 50))⟩, [], []⟩,
  ⟨4, ⟨some 52, none, (.fieldAddr 106 (.tmp 9) 3)⟩, [], []⟩,
  ⟨5, ⟨some 53, none, (.load 22 (.tmp 52))⟩, [], []⟩,
  ⟨6, ⟨some 54, none, (.fieldAddr 106 (.tmp 9) 4)⟩, [], []⟩,
  ⟨7, ⟨some 55, none, (.load 22 (.tmp 54))⟩, [], []⟩,
  ⟨8, ⟨some 4, none, (.assign (.tmp 49))⟩, [], []⟩,
  ⟨9, ⟨some 5, none, (.assign (.tmp 51))⟩, [], []⟩,
  ⟨10, ⟨some 6, none, (.assign (.tmp 53))⟩, [], []⟩,
  ⟨11, ⟨some 7, none, (.assign (.tmp 55))⟩, [], []⟩] [48, 49, 50, 51, 52, 53, 54, 55, 4, 5, 6, 7] [4, 5, 6, 7]
noncomputable def F34 : CC := (.seq F34_r0 (.seq (.seq F34_r1 (.cond (.tmp 27) (.seq F34_r2 .ret) .skip)) (.seq F34_r3 (.seq F34_r4 (.seq F34_r5 .ret)))))
noncomputable def F34_inf : Nat → RI
  | 0 => ⟨[0, 3], [], []⟩
  | 1 => ⟨[0, 3, 27], [0, 1, 3, 7, 15, 31, 63, 127, 255, 511, 1023, 511, 2559, 6655, 14847, 31231, 65535, 131071], [(0, []), (1, []), (2, []), (3, []), (4, []), (5, []), (6, []), (7, []), (8, []), (9, []), (10, []), (11, []), (12, []), (13, []), (14, []), (15, []), (16, []), (17, [])]⟩
  | 2 => ⟨[4, 5, 6, 7], [0, 1, 0, 4, 0, 16, 0, 64, 3, 271, 831, 2047], [(0, []), (1, []), (2, []), (3, []), (4, []), (5, []), (6, []), (7, []), (8, []), (9, []), (10, []), (11, [])]⟩
  | 3 => ⟨[8], [0, 1, 3, 7, 0, 16, 63, 127, 0, 511], [(0, []), (1, []), (2, []), (3, []), (4, []), (5, []), (6, []), (7, []), (8, []), (9, [])]⟩
  | 4 => ⟨[9], [], []⟩
  | 5 => ⟨[4, 5, 6, 7], [0, 1, 0, 4, 0, 16, 0, 64, 3, 271, 831, 2047], [(0, []), (1, []), (2, []), (3, []), (4, []), (5, []), (6, []), (7, []), (8, []), (9, []), (10, []), (11, [])]⟩
  | _ => ⟨[], [], []⟩
noncomputable def F34_c : Code := Try.f34.body.getD .skip
theorem F34_b : Try.f34.body = some F34_c := by kernel_rfl
theorem F34_rs : Try.f34.results.toList = ([.tmp 4, .tmp 5, .tmp 6, .tmp 7] : List ResultVar) := by kernel_rfl
theorem F34_n : Try.f34.ntmps = 56 := by kernel_rfl
theorem F34_ok : toCC [] 56 F34_inf F34_c = some F34 := by kernel_rfl
theorem F34_in {args : List AV} {G : Hp} {post : AV → Hp → Prop} (ha : args.all AV.plain = true) (hn : args.length ≤ 56) (h : BDs args → awp Try.prog [] F34 (AEnds Try.prog [.tmp 4, .tmp 5, .tmp 6, .tmp 7] post) (initT args) G) : ACalls Try.prog 34 args G post :=
  acalls_cc Try.func34 F34_b F34_rs F34_n F34_ok mixed ha hn h

/- 35 (*ostiary/ostiaryref27.Plans).Done -/
@[simp] noncomputable def F35_r0 : CC := .reg [⟨some 10, none, (.assign (.const (.int .u32 0)))⟩,
  ⟨some 11, none, (.assign (.const (.bool false)))⟩] [0, 1, 2, 3, 4]
@[simp] noncomputable def F35_r1 : CC := .reg [⟨some 15, none, (.move (.tmp 0))⟩,
  ⟨some 16, none, (.nilCheck (.tmp 15))⟩,
  ⟨some 17, none, (.fieldAddr 85 (.tmp 16) 0)⟩,
  ⟨some 18, none, (.load 83 (.tmp 17))⟩,
  ⟨some 19, none, (.call { callee := (.builtin .len), args := #[(.tmp 18)], argTypes := #[83] })⟩,
  ⟨some 20, none, (.move (.const (.int .i64 0)))⟩] [0, 1, 2, 3, 4, 18, 19, 20]
@[simp] noncomputable def F35_r2 : CC := .reg [⟨some 21, none, (.binOp .lss 3 (.tmp 20) (.tmp 19) 3)⟩] [0, 1, 2, 3, 4, 18, 19, 20, 21]
@[simp] noncomputable def F35_r3 : CC := .reg [⟨some 22, none, (.move (.tmp 20))⟩,
  ⟨some 23, none, (.indexAddr 83 (.tmp 18) (.tmp 20))⟩,
  ⟨some 24, none, (.load 94 (.tmp 23))⟩,
  ⟨some 13, none, (.alloc 94)⟩,
  ⟨some 12, none, (.assign (.tmp 22))⟩,
  ⟨none, none, (.store 94 (.tmp 13) (.tmp 24))⟩] [0, 1, 2, 3, 4, 12, 13, 18, 19, 20]
@[simp] noncomputable def F35_r4 : CC := .reg [⟨some 25, none, (.load 94 (.tmp 13))⟩,
  ⟨some 26, none, (.fieldAddr 94 (.tmp 13) 4)⟩,
  ⟨some 27, none, (.load 3 (.tmp 26))⟩,
  ⟨some 28, none, (.call { callee := (.value (.func 41)), args := #[(.tmp 25), (.tmp 27)], argTypes := #[94, 3] })⟩,
  ⟨some 14, none, (.alloc 106)⟩,
  ⟨none, none, (.store 106 (.tmp 14) (.tmp 28))⟩] [0, 1, 2, 3, 4, 12, 13, 14, 18, 19, 20]
@[simp] noncomputable def F35_r5 : CC := .reg [⟨some 29, none, (.fieldAddr 94 (.tmp 13) 6)⟩,
  ⟨some 30, none, (.load 4 (.tmp 29))⟩,
  ⟨some 31, none, (.unOp .not 4 (.tmp 30))⟩,
  ⟨some 32, none, (.move (.tmp 31))⟩,
  ⟨some 33, some (32, false), (.fieldAddr 106 (.tmp 14) 1)⟩,
  ⟨some 34, some (32, false), (.load 3 (.tmp 33))⟩,
  ⟨some 35, some (32, false), (.move (.tmp 1))⟩,
  ⟨some 36, some (32, false), (.binOp .neq 3 (.tmp 34) (.tmp 35) 3)⟩,
  ⟨some 37, none, (.pick (.tmp 32) (.const (.bool true)) (.tmp 36))⟩,
  ⟨some 38, none, (.move (.tmp 37))⟩,
  ⟨some 39, some (38, false), (.fieldAddr 106 (.tmp 14) 2)⟩,
  ⟨some 40, some (38, false), (.load 22 (.tmp 39))⟩,
  ⟨some 41, some (38, false), (.move (.tmp 2))⟩,
  ⟨some 42, some (38, false), (.binOp .neq 22 (.tmp 40) (.tmp 41) 22)⟩,
  ⟨some 43, none, (.pick (.tmp 38) (.const (.bool true)) (.tmp 42))⟩,
  ⟨some 44, none, (.move (.tmp 43))⟩,
  ⟨some 45, some (44, false), (.fieldAddr 106 (.tmp 14) 3)⟩,
  ⟨some 46, some (44, false), (.load 22 (.tmp 45))⟩,
  ⟨some 47, some (44, false), (.move (.tmp 3))⟩,
  ⟨some 48, some (44, false), (.binOp .neq 22 (.tmp 46) (.tmp 47) 22)⟩,
  ⟨some 49, none, (.pick (.tmp 44) (.const (.bool true)) (.tmp 48))⟩,
  ⟨some 50, none, (.move (.tmp 49))⟩,
  ⟨some 51, some (50, false), (.fieldAddr 106 (.tmp 14) 4)⟩,
  ⟨some 52, some (50, false), (.load 22 (.tmp 51))⟩,
  ⟨some 53, some (50, false), (.move (.tmp 4))⟩,
  ⟨some 54, some (50, false), (.binOp .neq 22 (.tmp 52) (.tmp 53) 22)⟩,
  ⟨some 55, none, (.pick (.tmp 50) (.const (.bool true)) (.tmp 54))⟩] [0, 1, 2, 3, 4, 12, 13, 18, 19, 20, 55]
@[simp] noncomputable def F35_r6 : CC := .reg [⟨some 56, none, (.fieldAddr 94 (.tmp 13) 4)⟩,
  ⟨some 57, none, (.load 3 (.tmp 56))⟩,
  ⟨some 58, none, (.binOp .eql 3 (.tmp 57) (.const (.int .i64 0)) 3)⟩] [0, 12, 13, 58]
@[simp] noncomputable def F35_r7 : CC := .drw [⟨0, ⟨some 59, none, (.move (.tmp 0))⟩, [], []⟩,
  ⟨2, ⟨some 61, none, (.move (.tmp 0))⟩, [], []⟩,
  ⟨3, ⟨some 62, none, (.nilCheck (.tmp 61))⟩, [], []⟩,
  ⟨4, ⟨some 63, none, (.fieldAddr 85 (.tmp 62) 0)⟩, [], []⟩,
  ⟨5, ⟨some 64, none, (.load 83 (.tmp 63))⟩, [], []⟩,
  ⟨6, ⟨some 65, none, (.move (.tmp 12))⟩, [], []⟩,
  ⟨7, ⟨some 66, none, (.slice 83 (.tmp 64) none (some (.tmp 65)) none)⟩, [], []⟩,
  ⟨9, ⟨some 68, none, (.move (.tmp 0))⟩, [], []⟩,
  ⟨10, ⟨some 69, none, (.nilCheck (.tmp 68))⟩, [], []⟩,
  ⟨11, ⟨some 70, none, (.fieldAddr 85 (.tmp 69) 0)⟩, [], []⟩,
  ⟨12, ⟨some 71, none, (.load 83 (.tmp 70))⟩, [], []⟩,
  ⟨13, ⟨some 72, none, (.move (.tmp 12))⟩, [], []⟩,
  ⟨14, ⟨some 73, none, (.binOp .add 3 (.tmp 72) (.const (.int .i64 1)) 3)⟩, [], []⟩,
  ⟨15, ⟨some 74, none, (.slice 83 (.tmp 71) (some (.tmp 73)) none none)⟩, [], []⟩,
  ⟨1, ⟨some 60, none, (.buildSlice 83 0 #[])⟩, [5, 12], [⟨some 64, none, (.load 83 (.tmp 63))⟩, ⟨some 71, none, (.load 83 (.tmp 70))⟩]⟩,
  ⟨8, ⟨some 67, none, (.call { callee := (.builtin .append), args := #[(.tmp 60), (.tmp 66)], argTypes := #[83, 83] })⟩, [12], [⟨some 71, none, (.load 83 (.tmp 70))⟩]⟩,
  ⟨16, ⟨some 75, none, (.call { callee := (.builtin .append), args := #[(.tmp 67), (.tmp 74)], argTypes := #[83, 83] })⟩, [], []⟩,
  ⟨17, ⟨some 76, none, (.nilCheck (.tmp 59))⟩, [], []⟩,
  ⟨18, ⟨some 77, none, (.fieldAddr 85 (.tmp 76) 0)⟩, [], []⟩,
  ⟨19, ⟨none, none, (.store 83 (.tmp 77) (.tmp 75))⟩, [], []⟩] [59, 61, 62, 63, 64, 65, 66, 68, 69, 70, 71, 72, 73, 74, 60, 67, 75, 76, 77] [13]
@[simp] noncomputable def F35_r8 : CC := .reg [⟨some 78, none, (.fieldAddr 94 (.tmp 13) 0)⟩,
  ⟨some 79, none, (.fieldAddr 34 (.tmp 78) 0)⟩,
  ⟨some 80, none, (.load 22 (.tmp 79))⟩,
  ⟨some 10, none, (.assign (.tmp 80))⟩,
  ⟨some 11, none, (.assign (.const (.bool true)))⟩] [10, 11]
@[simp] noncomputable def F35_r9 : CC := .reg [⟨some 81, none, (.move (.tmp 0))⟩,
  ⟨some 82, none, (.nilCheck (.tmp 81))⟩,
  ⟨some 83, none, (.fieldAddr 85 (.tmp 82) 2)⟩,
  ⟨some 84, none, (.load 22 (.tmp 83))⟩,
  ⟨some 85, none, (.binOp .add 22 (.tmp 84) (.const (.int .u32 1)) 22)⟩,
  ⟨some 86, none, (.nilCheck (.tmp 81))⟩,
  ⟨some 87, none, (.fieldAddr 85 (.tmp 86) 2)⟩,
  ⟨none, none, (.store 22 (.tmp 87) (.tmp 85))⟩] [0, 12, 13]
@[simp] noncomputable def F35_r10 : CC := .reg [⟨some 88, none, (.fieldAddr 94 (.tmp 13) 4)⟩,
  ⟨some 89, none, (.load 3 (.tmp 88))⟩,
  ⟨some 90, none, (.binOp .sub 3 (.tmp 89) (.const (.int .i64 1)) 3)⟩,
  ⟨some 91, none, (.fieldAddr 94 (.tmp 13) 4)⟩,
  ⟨none, none, (.store 3 (.tmp 91) (.tmp 90))⟩] [0, 12, 13]
@[simp] noncomputable def F35_r11 : CC := .reg [⟨some 92, none, (.move (.tmp 0))⟩,
  ⟨some 93, none, (.nilCheck (.tmp 92))⟩,
  ⟨some 94, none, (.fieldAddr 85 (.tmp 93) 2)⟩,
  ⟨some 95, none, (.load 22 (.tmp 94))⟩,
  ⟨some 96, none, (.fieldAddr 94 (.tmp 13) 5)⟩,
  ⟨none, none, (.store 22 (.tmp 96) (.tmp 95))⟩] [0, 12, 13]
@[simp] noncomputable def F35_r12 : CC := .reg [⟨some 97, none, (.fieldAddr 94 (.tmp 13) 6)⟩,
  ⟨none, none, (.store 4 (.tmp 97) (.const (.bool false)))⟩] [0, 12, 13]
@[simp] noncomputable def F35_r13 : CC := .drw [⟨0, ⟨some 98, none, (.move (.tmp 0))⟩, [], []⟩,
  ⟨1, ⟨some 99, none, (.nilCheck (.tmp 98))⟩, [], []⟩,
  ⟨2, ⟨some 100, none, (.fieldAddr 85 (.tmp 99) 0)⟩, [], []⟩,
  ⟨3, ⟨some 101, none, (.load 83 (.tmp 100))⟩, [], []⟩,
  ⟨4, ⟨some 102, none, (.move (.tmp 12))⟩, [], []⟩,
  ⟨5, ⟨some 103, none, (.load 94 (.tmp 13))⟩, [], []⟩,
  ⟨6, ⟨some 104, none, (.indexAddr 83 (.tmp 101) (.tmp 102))⟩, [], []⟩,
  ⟨7, ⟨none, none, (.store 94 (.tmp 104) (.tmp 103))⟩, [], []⟩] [98, 99, 100, 101, 102, 103, 104] [13]
@[simp] noncomputable def F35_r14 : CC := .reg [⟨some 105, none, (.fieldAddr 94 (.tmp 13) 0)⟩,
  ⟨some 106, none, (.fieldAddr 34 (.tmp 105) 0)⟩,
  ⟨some 107, none, (.load 22 (.tmp 106))⟩,
  ⟨some 10, none, (.assign (.tmp 107))⟩,
  ⟨some 11, none, (.assign (.const (.bool false)))⟩] [10, 11]
@[simp] noncomputable def F35_r15 : CC := .reg [⟨some 108, none, (.binOp .add 3 (.tmp 20) (.const (.int .i64 1)) 3)⟩,
  ⟨some 20, none, (.move (.tmp 108))⟩] [0, 1, 2, 3, 4, 18, 19, 20]
noncomputable def F35_l0 : CC := (.seq F35_r2 (.seq (.cond (.tmp 21) .skip (.exit 0)) (.seq (.block 1 (.seq F35_r3 (.seq F35_r4 (.seq (.seq F35_r5 (.cond (.tmp 55) (.exit 1) .skip)) (.seq (.seq F35_r6 (.cond (.tmp 58) (.seq F35_r7 (.seq F35_r8 .ret)) .skip)) (.seq F35_r9 (.seq F35_r10 (.seq F35_r11 (.seq F35_r12 (.seq F35_r13 (.seq F35_r14 .ret))))))))))) F35_r15)))
@[simp] noncomputable def F35_r16 : CC := .reg [⟨some 10, none, (.assign (.const (.int .u32 0)))⟩,
  ⟨some 11, none, (.assign (.const (.bool false)))⟩] [10, 11]
noncomputable def F35 : CC := (.seq F35_r0 (.seq (.seq F35_r1 (.block 0 (.loop F35_l0))) (.seq F35_r16 .ret)))
noncomputable def F35_inf : Nat → RI
  | 0 => ⟨[0, 1, 2, 3, 4], [], []⟩
  | 1 => ⟨[0, 1, 2, 3, 4, 18, 19, 20], [], []⟩
  | 2 => ⟨[0, 1, 2, 3, 4, 18, 19, 20, 21], [], []⟩
  | 3 => ⟨[0, 1, 2, 3, 4, 12, 13, 18, 19, 20], [], []⟩
  | 4 => ⟨[0, 1, 2, 3, 4, 12, 13, 14, 18, 19, 20], [], []⟩
  | 5 => ⟨[0, 1, 2, 3, 4, 12, 13, 18, 19, 20, 55], [], []⟩
  | 6 => ⟨[0, 12, 13, 58], [], []⟩
  | 7 => ⟨[13], [0, 0, 0, 4, 12, 28, 0, 124, 254, 0, 512, 1536, 3584, 0, 8192, 32256, 65534, 131071, 262143, 524287], [(0, []), (2, []), (3, []), (4, []), (5, []), (6, []), (7, []), (9, []), (10, []), (11, []), (12, []), (13, []), (14, []), (15, []), (1, [5, 12]), (8, [12]), (16, []), (17, []), (18, []), (19, [])]⟩
  | 8 => ⟨[10, 11], [], []⟩
  | 9 => ⟨[0, 12, 13], [], []⟩
  | 10 => ⟨[0, 12, 13], [], []⟩
  | 11 => ⟨[0, 12, 13], [], []⟩
  | 12 => ⟨[0, 12, 13], [], []⟩
  | 13 => ⟨[13], [0, 1, 3, 7, 0, 0, 63, 127], [(0, []), (1, []), (2, []), (3, []), (4, []), (5, []), (6, []), (7, [])]⟩
  | 14 => ⟨[10, 11], [], []⟩
  | 15 => ⟨[0, 1, 2, 3, 4, 18, 19, 20], [], []⟩
  | 16 => ⟨[10, 11], [], []⟩
  | _ => ⟨[], [], []⟩
noncomputable def F35_c : Code := Try.f35.body.getD .skip
theorem F35_b : Try.f35.body = some F35_c := by kernel_rfl
theorem F35_rs : Try.f35.results.toList = ([.tmp 10, .tmp 11] : List ResultVar) := by kernel_rfl
theorem F35_n : Try.f35.ntmps = 109 := by kernel_rfl
theorem F35_ok : toCC [] 109 F35_inf F35_c = some F35 := by kernel_rfl
theorem F35_in {args : List AV} {G : Hp} {post : AV → Hp → Prop} (ha : args.all AV.plain = true) (hn : args.length ≤ 109) (h : BDs args → awp Try.prog [] F35 (AEnds Try.prog [.tmp 10, .tmp 11] post) (initT args) G) : ACalls Try.prog 35 args G post :=
  acalls_cc Try.func35 F35_b F35_rs F35_n F35_ok mixed ha hn h

/- 36 (*ostiary/shelf.Shelf[uint32, ostiary/plan.one]).find -/
@[simp] noncomputable def F36_r0 : CC := .reg [⟨some 4, none, (.assign (.const (.int .i64 0)))⟩,
  ⟨some 5, none, (.assign (.const (.bool false)))⟩] [0, 1]
@[simp] noncomputable def F36_r1 : CC := .drw [⟨0, ⟨some 9, none, (.move (.tmp 0))⟩, [], []⟩,
  ⟨1, ⟨some 10, none, (.nilCheck (.tmp 9))⟩, [], []⟩,
  ⟨2, ⟨some 11, none, (.fieldAddr 97 (.tmp 10) 0)⟩, [], []⟩,
  ⟨3, ⟨some 12, none, (.load 95 (.tmp 11))⟩, [], []⟩,
  ⟨4, ⟨some 13, none, (.call { callee := (.builtin .len), args := #[(.tmp 12)], argTypes := #[95] })⟩, [], []⟩,
  ⟨5, ⟨some 6, none, (.assign (.const (.int .i64 0)))⟩, [], []⟩,
  ⟨6, ⟨some 7, none, (.assign (.tmp 13))⟩, [], []⟩] [9, 10, 11, 12, 13, 6, 7] [0, 1, 6, 7]
@[simp] noncomputable def F36_r2 : CC := .reg [⟨some 14, none, (.move (.tmp 6))⟩,
  ⟨some 15, none, (.move (.tmp 7))⟩,
  ⟨some 16, none, (.binOp .lss 3 (.tmp 14) (.tmp 15) 3)⟩] [0, 1, 6, 7, 16]
@[simp] noncomputable def F36_r3 : CC := .reg [⟨some 17, none, (.move (.tmp 6))⟩,
  ⟨some 18, none, (.move (.tmp 7))⟩,
  ⟨some 19, none, (.move (.tmp 6))⟩,
  ⟨some 20, none, (.binOp .sub 3 (.tmp 18) (.tmp 19) 3)⟩,
  ⟨some 21, none, (.binOp .quo 3 (.tmp 20) (.const (.int .i64 2)) 3)⟩,
  ⟨some 22, none, (.binOp .add 3 (.tmp 17) (.tmp 21) 3)⟩,
  ⟨some 8, none, (.assign (.tmp 22))⟩] [0, 1, 6, 7, 8]
@[simp] noncomputable def F36_r4 : CC := .reg [⟨some 23, none, (.move (.tmp 0))⟩,
  ⟨some 24, none, (.nilCheck (.tmp 23))⟩,
  ⟨some 25, none, (.fieldAddr 97 (.tmp 24) 0)⟩,
  ⟨some 26, none, (.load 95 (.tmp 25))⟩,
  ⟨some 27, none, (.move (.tmp 8))⟩,
  ⟨some 28, none, (.indexAddr 95 (.tmp 26) (.tmp 27))⟩,
  ⟨some 29, none, (.fieldAddr 101 (.tmp 28) 0)⟩,
  ⟨some 30, none, (.load 22 (.tmp 29))⟩,
  ⟨some 31, none, (.move (.tmp 1))⟩,
  ⟨some 32, none, (.binOp .lss 22 (.tmp 30) (.tmp 31) 22)⟩] [0, 1, 6, 7, 8, 32]
@[simp] noncomputable def F36_r5 : CC := .reg [⟨some 33, none, (.move (.tmp 8))⟩,
  ⟨some 34, none, (.binOp .add 3 (.tmp 33) (.const (.int .i64 1)) 3)⟩,
  ⟨some 6, none, (.assign (.tmp 34))⟩] [0, 1, 6, 7]
@[simp] noncomputable def F36_r6 : CC := .reg [⟨some 35, none, (.move (.tmp 8))⟩,
  ⟨some 7, none, (.assign (.tmp 35))⟩] [0, 1, 6, 7]
noncomputable def F36_l0 : CC := (.seq (.seq F36_r2 (.cond (.tmp 16) .skip (.exit 0))) (.block 1 (.seq F36_r3 (.seq F36_r4 (.cond (.tmp 32) F36_r5 F36_r6)))))
@[simp] noncomputable def F36_r7 : CC := .drw [⟨0, ⟨some 36, none, (.move (.tmp 6))⟩, [], []⟩,
  ⟨1, ⟨some 37, none, (.move (.tmp 6))⟩, [], []⟩,
  ⟨2, ⟨some 38, none, (.move (.tmp 0))⟩, [], []⟩,
  ⟨3, ⟨some 39, none, (.nilCheck (.tmp 38))⟩, [], []⟩,
  ⟨4, ⟨some 40, none, (.fieldAddr 97 (.tmp 39) 0)⟩, [], []⟩,
  ⟨5, ⟨some 41, none, (.load 95 (.tmp 40))⟩, [], []⟩,
  ⟨6, ⟨some 42, none, (.call { callee := (.builtin .len), args := #[(.tmp 41)], argTypes := #[95] })⟩, [], []⟩,
  ⟨7, ⟨some 43, none, (.binOp .lss 3 (.tmp 37) (.tmp 42) 3)⟩, [], []⟩,
  ⟨8, ⟨some 44, none, (.move (.tmp 43))⟩, [], []⟩,
  ⟨9, ⟨some 45, some (44, true), (.move (.tmp 0))⟩, [], []⟩,
  ⟨10, ⟨some 46, some (44, true), (.nilCheck (.tmp 45))⟩, [], []⟩,
  ⟨11, ⟨some 47, some (44, true), (.fieldAddr 97 (.tmp 46) 0)⟩, [], []⟩,
  ⟨12, ⟨some 48, some (44, true), (.load 95 (.tmp 47))⟩, [], []⟩,
  ⟨13, ⟨some 49, some (44, true), (.move (.tmp 6))⟩, [], []⟩,
  ⟨14, ⟨some 50, some (44, true), (.indexAddr 95 (.tmp 48) (.tmp 49))⟩, [], []⟩,
  ⟨15, ⟨some 51, some (44, true), (.fieldAddr 101 (.tmp 50) 0)⟩, [], []⟩,
  ⟨16, ⟨some 52, some (44, true), (.load 22 (.tmp 51))⟩, [], []⟩,
  ⟨17, ⟨some 53, some (44, true), (.move (.tmp 1))⟩, [], []⟩,
  ⟨18, ⟨some 54, some (44, true), (.binOp .eql 22 (.tmp 52) (.tmp 53) 22)⟩, [], []⟩,
  ⟨19, ⟨some 55, none, (.pick (.tmp 44) (.tmp 54) (.const (.bool false)))⟩, [], []⟩,
  ⟨20, ⟨some 4, none, (.assign (.tmp 36))⟩, [], []⟩,
  ⟨21, ⟨some 5, none, (.assign (.tmp 55))⟩, [], []⟩] [36, 37, 38, 39, 40, 41, 42, 43, 44, 45, 46, 47, 48, 49, 50, 51, 52, 53, 54, 55, 4, 5] [4, 5]
noncomputable def F36 : CC := (.seq F36_r0 (.seq F36_r1 (.seq (.block 0 (.loop F36_l0)) (.seq F36_r7 .ret))))
noncomputable def F36_inf : Nat → RI
  | 0 => ⟨[0, 1], [], []⟩
  | 1 => ⟨[0, 1, 6, 7], [0, 1, 3, 7, 15, 0, 63], [(0, []), (1, []), (2, []), (3, []), (4, []), (5, []), (6, [])]⟩
  | 2 => ⟨[0, 1, 6, 7, 16], [], []⟩
  | 3 => ⟨[0, 1, 6, 7, 8], [], []⟩
  | 4 => ⟨[0, 1, 6, 7, 8, 32], [], []⟩
  | 5 => ⟨[0, 1, 6, 7], [], []⟩
  | 6 => ⟨[0, 1, 6, 7], [], []⟩
  | 7 => ⟨[4, 5], [0, 0, 0, 4, 12, 28, 60, 126, 254, 510, 1022, 2046, 4094, 510, 16382, 32766, 65534, 510, 262142, 524286, 511, 2097151], [(0, []), (1, []), (2, []), (3, []), (4, []), (5, []), (6, []), (7, []), (8, []), (9, []), (10, []), (11, []), (12, []), (13, []), (14, []), (15, []), (16, []), (17, []), (18, []), (19, []), (20, []), (21, [])]⟩
  | _ => ⟨[], [], []⟩
noncomputable def F36_c : Code := Try.f36.body.getD .skip
theorem F36_b : Try.f36.body = some F36_c := by kernel_rfl
theorem F36_rs : Try.f36.results.toList = ([.tmp 4, .tmp 5] : List ResultVar) := by kernel_rfl
theorem F36_n : Try.f36.ntmps = 56 := by kernel_rfl
theorem F36_ok : toCC [] 56 F36_inf F36_c = some F36 := by kernel_rfl
theorem F36_in {args : List AV} {G : Hp} {post : AV → Hp → Prop} (ha : args.all AV.plain = true) (hn : args.length ≤ 56) (h : BDs args → awp Try.prog [] F36 (AEnds Try.prog [.tmp 4, .tmp 5] post) (initT args) G) : ACalls Try.prog 36 args G post :=
  acalls_cc Try.func36 F36_b F36_rs F36_n F36_ok mixed ha hn h

/- 37 ostiary/ctl.May -/
@[simp] noncomputable def F37_r0 : CC := .reg [⟨some 1, none, (.box 54 (.tmp 0))⟩,
  ⟨some 2, none, (.assign (.const (.bool false)))⟩] [1]
@[simp] noncomputable def F37_r1 : CC := .drw [⟨0, ⟨some 4, none, (.fieldAddr 54 (.tmp 1) 0)⟩, [], []⟩,
  ⟨1, ⟨some 5, none, (.load 3 (.tmp 4))⟩, [], []⟩,
  ⟨2, ⟨some 6, none, (.call { callee := (.value (.func 44)), args := #[(.tmp 5), (.const (.int .i64 1)), (.const (.int .i64 13))], argTypes := #[3, 3, 3] })⟩, [], []⟩,
  ⟨3, ⟨some 7, none, (.unOp .not 4 (.tmp 6))⟩, [], []⟩,
  ⟨4, ⟨some 8, none, (.move (.tmp 7))⟩, [], []⟩,
  ⟨5, ⟨some 9, some (8, false), (.fieldAddr 54 (.tmp 1) 1)⟩, [], []⟩,
  ⟨6, ⟨some 10, some (8, false), (.load 3 (.tmp 9))⟩, [], []⟩,
  ⟨7, ⟨some 11, some (8, false), (.call { callee := (.value (.func 44)), args := #[(.tmp 10), (.const (.int .i64 1)), (.const (.int .i64 8))], argTypes := #[3, 3, 3] })⟩, [], []⟩,
  ⟨8, ⟨some 12, some (8, false), (.unOp .not 4 (.tmp 11))⟩, [], []⟩,
  ⟨9, ⟨some 13, none, (.pick (.tmp 8) (.const (.bool true)) (.tmp 12))⟩, [], []⟩,
  ⟨10, ⟨some 14, none, (.move (.tmp 13))⟩, [], []⟩,
  ⟨11, ⟨some 15, some (14, false), (.load 54 (.tmp 1))⟩, [], []⟩,
  ⟨12, ⟨some 16, some (14, false), (.load 54 (.tmp 1))⟩, [], []⟩,
  ⟨13, ⟨some 17, some (14, false), (.call { callee := (.value (.func 46)), args := #[(.tmp 16)], argTypes := #[54] })⟩, [11], [⟨some 15, some (14, false), (.load 54 (.tmp 1))⟩]⟩,
  ⟨14, ⟨some 18, some (14, false), (.call { callee := (.value (.func 45)), args := #[(.tmp 15), (.tmp 17)], argTypes := #[54, 54] })⟩, [], []⟩,
  ⟨15, ⟨some 19, some (14, false), (.unOp .not 4 (.tmp 18))⟩, [], []⟩,
  ⟨16, ⟨some 20, none, (.pick (.tmp 14) (.const (.bool true)) (.tmp 19))⟩, [], []⟩] [4, 5, 6, 7, 8, 9, 10, 11, 12, 13, 14, 15, 16, 17, 18, 19, 20] [1, 20]
@[simp] noncomputable def F37_r2 : CC := .reg [⟨some 2, none, (.assign (.const (.bool false)))⟩] [2]
@[simp] noncomputable def F37_r3 : CC := .reg [⟨some 21, none, (.fieldAddr 54 (.tmp 1) 0)⟩,
  ⟨some 22, none, (.load 3 (.tmp 21))⟩,
  ⟨some 23, none, (.call { callee := (.value (.func 47)), args := #[(.tmp 22)], argTypes := #[3] })⟩,
  ⟨some 3, none, (.assign (.tmp 23))⟩] [1, 3]
@[simp] noncomputable def F37_r4 : CC := .reg [⟨some 25, none, (.move (.tmp 3))⟩,
  ⟨some 26, none, (.binOp .and 3 (.tmp 25) (.const (.int .i64 4)) 3)⟩,
  ⟨some 27, none, (.binOp .neq 3 (.tmp 26) (.const (.int .i64 0)) 3)⟩,
  ⟨some 28, none, (.move (.tmp 27))⟩,
  ⟨some 29, some (28, true), (.fieldAddr 54 (.tmp 1) 5)⟩,
  ⟨some 30, some (28, true), (.load 3 (.tmp 29))⟩,
  ⟨some 31, some (28, true), (.call { callee := (.value (.func 44)), args := #[(.tmp 30), (.const (.int .i64 1)), (.const (.int .i64 8))], argTypes := #[3, 3, 3] })⟩,
  ⟨some 32, some (28, true), (.unOp .not 4 (.tmp 31))⟩,
  ⟨some 33, none, (.pick (.tmp 28) (.tmp 32) (.const (.bool false)))⟩,
  ⟨some 24, none, (.assign (.tmp 33))⟩] [1, 3, 24]
@[simp] noncomputable def F37_r5 : CC := .reg [⟨some 34, none, (.move (.tmp 3))⟩,
  ⟨some 35, none, (.binOp .and 3 (.tmp 34) (.const (.int .i64 8)) 3)⟩,
  ⟨some 36, none, (.binOp .neq 3 (.tmp 35) (.const (.int .i64 0)) 3)⟩,
  ⟨some 37, none, (.move (.tmp 36))⟩,
  ⟨some 38, some (37, true), (.fieldAddr 54 (.tmp 1) 6)⟩,
  ⟨some 39, some (37, true), (.load 3 (.tmp 38))⟩,
  ⟨some 40, some (37, true), (.call { callee := (.value (.func 44)), args := #[(.tmp 39), (.const (.int .i64 1)), (.const (.int .i64 8))], argTypes := #[3, 3, 3] })⟩,
  ⟨some 41, some (37, true), (.unOp .not 4 (.tmp 40))⟩,
  ⟨some 42, none, (.pick (.tmp 37) (.tmp 41) (.const (.bool false)))⟩,
  ⟨some 24, none, (.assign (.tmp 42))⟩] [1, 3, 24]
@[simp] noncomputable def F37_r6 : CC := .reg [⟨some 2, none, (.assign (.const (.bool false)))⟩] [2]
@[simp] noncomputable def F37_r7 : CC := .reg [⟨some 44, none, (.move (.tmp 3))⟩,
  ⟨some 45, none, (.binOp .and 3 (.tmp 44) (.const (.int .i64 128)) 3)⟩,
  ⟨some 46, none, (.binOp .neq 3 (.tmp 45) (.const (.int .i64 0)) 3)⟩,
  ⟨some 47, none, (.move (.tmp 46))⟩,
  ⟨some 48, some (47, true), (.fieldAddr 54 (.tmp 1) 13)⟩,
  ⟨some 49, some (47, true), (.fieldAddr 29 (.tmp 48) 0)⟩,
  ⟨some 50, some (47, true), (.load 3 (.tmp 49))⟩,
  ⟨some 51, some (47, true), (.call { callee := (.value (.func 44)), args := #[(.tmp 50), (.const (.int .i64 1)), (.const (.int .i64 8))], argTypes := #[3, 3, 3] })⟩,
  ⟨some 52, some (47, true), (.unOp .not 4 (.tmp 51))⟩,
  ⟨some 53, some (47, true), (.move (.tmp 52))⟩,
  ⟨some 54, some (53, false), (.fieldAddr 54 (.tmp 1) 13)⟩,
  ⟨some 55, some (53, false), (.fieldAddr 29 (.tmp 54) 1)⟩,
  ⟨some 56, some (53, false), (.load 3 (.tmp 55))⟩,
  ⟨some 57, some (53, false), (.call { callee := (.value (.func 44)), args := #[(.tmp 56), (.const (.int .i64 1)), (.const (.int .i64 8))], argTypes := #[3, 3, 3] })⟩,
  ⟨some 58, some (53, false), (.unOp .not 4 (.tmp 57))⟩,
  ⟨some 59, some (47, true), (.pick (.tmp 53) (.const (.bool true)) (.tmp 58))⟩,
  ⟨some 60, none, (.pick (.tmp 47) (.tmp 59) (.const (.bool false)))⟩,
  ⟨some 43, none, (.assign (.tmp 60))⟩] [1, 3, 43]
@[simp] noncomputable def F37_r8 : CC := .reg [⟨some 2, none, (.assign (.const (.bool false)))⟩] [2]
@[simp] noncomputable def F37_r9 : CC := .reg [⟨some 62, none, (.move (.tmp 3))⟩,
  ⟨some 63, none, (.binOp .and 3 (.tmp 62) (.const (.int .i64 256)) 3)⟩,
  ⟨some 64, none, (.binOp .neq 3 (.tmp 63) (.const (.int .i64 0)) 3)⟩,
  ⟨some 65, none, (.move (.tmp 64))⟩,
  ⟨some 66, some (65, true), (.fieldAddr 54 (.tmp 1) 14)⟩,
  ⟨some 67, some (65, true), (.load 27 (.tmp 66))⟩,
  ⟨some 68, some (65, true), (.call { callee := (.value (.func 48)), args := #[(.tmp 67)], argTypes := #[27] })⟩,
  ⟨some 69, some (65, true), (.unOp .not 4 (.tmp 68))⟩,
  ⟨some 70, none, (.pick (.tmp 65) (.tmp 69) (.const (.bool false)))⟩,
  ⟨some 61, none, (.assign (.tmp 70))⟩] [1, 3, 61]
@[simp] noncomputable def F37_r10 : CC := .reg [⟨some 71, none, (.move (.tmp 3))⟩,
  ⟨some 72, none, (.binOp .and 3 (.tmp 71) (.const (.int .i64 512)) 3)⟩,
  ⟨some 73, none, (.binOp .neq 3 (.tmp 72) (.const (.int .i64 0)) 3)⟩,
  ⟨some 74, none, (.move (.tmp 73))⟩,
  ⟨some 75, some (74, true), (.fieldAddr 54 (.tmp 1) 15)⟩,
  ⟨some 76, some (74, true), (.load 52 (.tmp 75))⟩,
  ⟨some 77, some (74, true), (.call { callee := (.builtin .len), args := #[(.tmp 76)], argTypes := #[52] })⟩,
  ⟨some 78, some (74, true), (.call { callee := (.value (.func 44)), args := #[(.tmp 77), (.const (.int .i64 1)), (.const (.int .i64 512))], argTypes := #[3, 3, 3] })⟩,
  ⟨some 79, some (74, true), (.unOp .not 4 (.tmp 78))⟩,
  ⟨some 80, none, (.pick (.tmp 74) (.tmp 79) (.const (.bool false)))⟩,
  ⟨some 61, none, (.assign (.tmp 80))⟩] [1, 61]
@[simp] noncomputable def F37_r11 : CC := .reg [⟨some 2, none, (.assign (.const (.bool false)))⟩] [2]
@[simp] noncomputable def F37_r12 : CC := .reg [⟨some 81, none, (.fieldAddr 54 (.tmp 1) 7)⟩,
  ⟨some 82, none, (.load 3 (.tmp 81))⟩,
  ⟨some 83, none, (.call { callee := (.value (.func 44)), args := #[(.tmp 82), (.const (.int .i64 0)), (.const (.int .i64 255))], argTypes := #[3, 3, 3] })⟩,
  ⟨some 84, none, (.move (.tmp 83))⟩,
  ⟨some 85, some (84, true), (.fieldAddr 54 (.tmp 1) 10)⟩,
  ⟨some 86, some (84, true), (.load 3 (.tmp 85))⟩,
  ⟨some 87, some (84, true), (.call { callee := (.value (.func 44)), args := #[(.tmp 86), (.const (.int .i64 0)), (.const (.int .i64 65535))], argTypes := #[3, 3, 3] })⟩,
  ⟨some 88, none, (.pick (.tmp 84) (.tmp 87) (.const (.bool false)))⟩,
  ⟨some 89, none, (.move (.tmp 88))⟩,
  ⟨some 90, some (89, true), (.fieldAddr 54 (.tmp 1) 11)⟩,
  ⟨some 91, some (89, true), (.load 3 (.tmp 90))⟩,
  ⟨some 92, some (89, true), (.call { callee := (.value (.func 44)), args := #[(.tmp 91), (.const (.int .i64 0)), (.const (.int .i64 65535))], argTypes := #[3, 3, 3] })⟩,
  ⟨some 93, none, (.pick (.tmp 89) (.tmp 92) (.const (.bool false)))⟩,
  ⟨some 94, none, (.move (.tmp 93))⟩,
  ⟨some 95, some (94, true), (.fieldAddr 54 (.tmp 1) 12)⟩,
  ⟨some 96, some (94, true), (.load 3 (.tmp 95))⟩,
  ⟨some 97, some (94, true), (.call { callee := (.value (.func 44)), args := #[(.tmp 96), (.const (.int .i64 0)), (.const (.int .i64 255))], argTypes := #[3, 3, 3] })⟩,
  ⟨some 98, none, (.pick (.tmp 94) (.tmp 97) (.const (.bool false)))⟩,
  ⟨some 2, none, (.assign (.tmp 98))⟩] [2]
noncomputable def F37 : CC := (.seq F37_r0 (.seq (.seq F37_r1 (.cond (.tmp 20) (.seq F37_r2 .ret) .skip)) (.seq F37_r3 (.seq (.block 0 (.seq (.seq F37_r4 (.cond (.tmp 24) .skip F37_r5)) (.cond (.tmp 24) (.seq F37_r6 .ret) (.seq F37_r7 (.cond (.tmp 43) (.seq F37_r8 .ret) (.seq (.seq F37_r9 (.cond (.tmp 61) .skip F37_r10)) (.cond (.tmp 61) (.seq F37_r11 .ret) .skip))))))) (.seq F37_r12 .ret)))))
noncomputable def F37_inf : Nat → RI
  | 0 => ⟨[1], [], []⟩
  | 1 => ⟨[1, 20], [0, 1, 3, 7, 15, 31, 63, 127, 255, 511, 1023, 2047, 2047, 6143, 16383, 32767, 65535], [(0, []), (1, []), (2, []), (3, []), (4, []), (5, []), (6, []), (7, []), (8, []), (9, []), (10, []), (11, []), (12, []), (13, [11]), (14, []), (15, []), (16, [])]⟩
  | 2 => ⟨[2], [], []⟩
  | 3 => ⟨[1, 3], [], []⟩
  | 4 => ⟨[1, 3, 24], [], []⟩
  | 5 => ⟨[1, 3, 24], [], []⟩
  | 6 => ⟨[2], [], []⟩
  | 7 => ⟨[1, 3, 43], [], []⟩
  | 8 => ⟨[2], [], []⟩
  | 9 => ⟨[1, 3, 61], [], []⟩
  | 10 => ⟨[1, 61], [], []⟩
  | 11 => ⟨[2], [], []⟩
  | 12 => ⟨[2], [], []⟩
  | _ => ⟨[], [], []⟩
noncomputable def F37_c : Code := Try.f37.body.getD .skip
theorem F37_b : Try.f37.body = some F37_c := by kernel_rfl
theorem F37_rs : Try.f37.results.toList = ([.tmp 2] : List ResultVar) := by kernel_rfl
theorem F37_n : Try.f37.ntmps = 99 := by kernel_rfl
theorem F37_ok : toCC [] 99 F37_inf F37_c = some F37 := by kernel_rfl
theorem F37_in {args : List AV} {G : Hp} {post : AV → Hp → Prop} (ha : args.all AV.plain = true) (hn : args.length ≤ 99) (h : BDs args → awp Try.prog [] F37 (AEnds Try.prog [.tmp 2] post) (initT args) G) : ACalls Try.prog 37 args G post :=
  acalls_cc Try.func37 F37_b F37_rs F37_n F37_ok mixed ha hn h

/- 38 slices.Insert[[]ostiary/shelf.slot[uint32, ostiary/plan.one],ostiary/shelf.slot[uint32, ostiary/plan.one]] -/
@[simp] noncomputable def F38_r0 : CC := .reg [⟨some 6, none, (.assign (.const (.slice none 0 0)))⟩] [0, 1, 2]
@[simp] noncomputable def F38_r1 : CC := .reg [⟨some 10, none, (.move (.tmp 0))⟩,
  ⟨some 11, none, (.move (.tmp 1))⟩,
  ⟨some 12, none, (.slice 95 (.tmp 10) (some (.tmp 11)) none none)⟩] [0, 1, 2]
@[simp] noncomputable def F38_r2 : CC := .reg [⟨some 13, none, (.move (.tmp 2))⟩,
  ⟨some 14, none, (.call { callee := (.builtin .len), args := #[(.tmp 13)], argTypes := #[95] })⟩,
  ⟨some 7, none, (.assign (.tmp 14))⟩] [0, 1, 2, 7]
@[simp] noncomputable def F38_r3 : CC := .reg [⟨some 15, none, (.move (.tmp 7))⟩,
  ⟨some 16, none, (.binOp .eql 3 (.tmp 15) (.const (.int .i64 0)) 3)⟩] [0, 1, 2, 7, 16]
@[simp] noncomputable def F38_r4 : CC := .reg [⟨some 17, none, (.move (.tmp 0))⟩,
  ⟨some 6, none, (.assign (.tmp 17))⟩] [6]
@[simp] noncomputable def F38_r5 : CC := .reg [⟨some 18, none, (.move (.tmp 0))⟩,
  ⟨some 19, none, (.call { callee := (.builtin .len), args := #[(.tmp 18)], argTypes := #[95] })⟩,
  ⟨some 8, none, (.assign (.tmp 19))⟩] [0, 1, 2, 7, 8]
@[simp] noncomputable def F38_r6 : CC := .reg [⟨some 20, none, (.move (.tmp 1))⟩,
  ⟨some 21, none, (.move (.tmp 8))⟩,
  ⟨some 22, none, (.binOp .eql 3 (.tmp 20) (.tmp 21) 3)⟩] [0, 1, 2, 7, 8, 22]
@[simp] noncomputable def F38_r7 : CC := .reg [⟨some 23, none, (.move (.tmp 0))⟩,
  ⟨some 24, none, (.move (.tmp 2))⟩,
  ⟨some 25, none, (.call { callee := (.builtin .append), args := #[(.tmp 23), (.tmp 24)], argTypes := #[95, 95] })⟩,
  ⟨some 6, none, (.assign (.tmp 25))⟩] [6]
@[simp] noncomputable def F38_r8 : CC := .reg [⟨some 26, none, (.move (.tmp 8))⟩,
  ⟨some 27, none, (.move (.tmp 7))⟩,
  ⟨some 28, none, (.binOp .add 3 (.tmp 26) (.tmp 27) 3)⟩,
  ⟨some 29, none, (.move (.tmp 0))⟩,
  ⟨some 30, none, (.call { callee := (.builtin .cap), args := #[(.tmp 29)], argTypes := #[95] })⟩,
  ⟨some 31, none, (.binOp .gtr 3 (.tmp 28) (.tmp 30) 3)⟩] [0, 1, 2, 7, 8, 31]
@[simp] noncomputable def F38_r9 : CC := .reg [⟨some 32, none, (.move (.tmp 0))⟩,
  ⟨some 33, none, (.move (.tmp 1))⟩,
  ⟨some 34, none, (.slice 95 (.tmp 32) none (some (.tmp 33)) none)⟩,
  ⟨some 35, none, (.move (.tmp 8))⟩,
  ⟨some 36, none, (.move (.tmp 7))⟩,
  ⟨some 37, none, (.binOp .add 3 (.tmp 35) (.tmp 36) 3)⟩,
  ⟨some 38, none, (.move (.tmp 1))⟩,
  ⟨some 39, none, (.binOp .sub 3 (.tmp 37) (.tmp 38) 3)⟩,
  ⟨some 40, none, (.call { callee := (.builtin .append), args := #[(.tmp 34), (.tmp 39)], argTypes := #[95, 3] })⟩,
  ⟨some 9, none, (.assign (.tmp 40))⟩] [0, 1, 2, 7, 9]
@[simp] noncomputable def F38_r10 : CC := .reg [⟨some 41, none, (.move (.tmp 9))⟩,
  ⟨some 42, none, (.move (.tmp 1))⟩,
  ⟨some 43, none, (.slice 95 (.tmp 41) (some (.tmp 42)) none none)⟩,
  ⟨some 44, none, (.move (.tmp 2))⟩,
  ⟨some 45, none, (.call { callee := (.builtin .copy), args := #[(.tmp 43), (.tmp 44)], argTypes := #[95, 95] })⟩] [0, 1, 7, 9]
@[simp] noncomputable def F38_r11 : CC := .drw [⟨0, ⟨some 46, none, (.move (.tmp 9))⟩, [], []⟩,
  ⟨1, ⟨some 47, none, (.move (.tmp 1))⟩, [], []⟩,
  ⟨2, ⟨some 48, none, (.move (.tmp 7))⟩, [], []⟩,
  ⟨3, ⟨some 49, none, (.binOp .add 3 (.tmp 47) (.tmp 48) 3)⟩, [], []⟩,
  ⟨4, ⟨some 50, none, (.slice 95 (.tmp 46) (some (.tmp 49)) none none)⟩, [], []⟩,
  ⟨5, ⟨some 51, none, (.move (.tmp 0))⟩, [], []⟩,
  ⟨6, ⟨some 52, none, (.move (.tmp 1))⟩, [], []⟩,
  ⟨7, ⟨some 53, none, (.slice 95 (.tmp 51) (some (.tmp 52)) none none)⟩, [], []⟩,
  ⟨8, ⟨some 54, none, (.call { callee := (.builtin .copy), args := #[(.tmp 50), (.tmp 53)], argTypes := #[95, 95] })⟩, [], []⟩] [46, 47, 48, 49, 50, 51, 52, 53, 54] [9]
@[simp] noncomputable def F38_r12 : CC := .reg [⟨some 55, none, (.move (.tmp 9))⟩,
  ⟨some 6, none, (.assign (.tmp 55))⟩] [6]
@[simp] noncomputable def F38_r13 : CC := .reg [⟨some 56, none, (.move (.tmp 0))⟩,
  ⟨some 57, none, (.move (.tmp 8))⟩,
  ⟨some 58, none, (.move (.tmp 7))⟩,
  ⟨some 59, none, (.binOp .add 3 (.tmp 57) (.tmp 58) 3)⟩,
  ⟨some 60, none, (.slice 95 (.tmp 56) none (some (.tmp 59)) none)⟩,
  ⟨some 0, none, (.assign (.tmp 60))⟩] [0, 1, 2, 7, 8]
@[simp] noncomputable def F38_r14 : CC := .reg [⟨some 61, none, (.move (.tmp 2))⟩,
  ⟨some 62, none, (.move (.tmp 0))⟩,
  ⟨some 63, none, (.move (.tmp 1))⟩,
  ⟨some 64, none, (.move (.tmp 7))⟩,
  ⟨some 65, none, (.binOp .add 3 (.tmp 63) (.tmp 64) 3)⟩,
  ⟨some 66, none, (.slice 95 (.tmp 62) (some (.tmp 65)) none none)⟩,
  ⟨some 67, none, (.call { callee := (.value (.func 49)), args := #[(.tmp 61), (.tmp 66)], argTypes := #[95, 95] })⟩,
  ⟨some 68, none, (.unOp .not 4 (.tmp 67))⟩] [0, 1, 2, 7, 8, 68]
@[simp] noncomputable def F38_r15 : CC := .drw [⟨0, ⟨some 69, none, (.move (.tmp 0))⟩, [], []⟩,
  ⟨1, ⟨some 70, none, (.move (.tmp 1))⟩, [], []⟩,
  ⟨2, ⟨some 71, none, (.move (.tmp 7))⟩, [], []⟩,
  ⟨3, ⟨some 72, none, (.binOp .add 3 (.tmp 70) (.tmp 71) 3)⟩, [], []⟩,
  ⟨4, ⟨some 73, none, (.slice 95 (.tmp 69) (some (.tmp 72)) none none)⟩, [], []⟩,
  ⟨5, ⟨some 74, none, (.move (.tmp 0))⟩, [], []⟩,
  ⟨6, ⟨some 75, none, (.move (.tmp 1))⟩, [], []⟩,
  ⟨7, ⟨some 76, none, (.slice 95 (.tmp 74) (some (.tmp 75)) none none)⟩, [], []⟩,
  ⟨8, ⟨some 77, none, (.call { callee := (.builtin .copy), args := #[(.tmp 73), (.tmp 76)], argTypes := #[95, 95] })⟩, [], []⟩] [69, 70, 71, 72, 73, 74, 75, 76, 77] [0, 1, 2]
@[simp] noncomputable def F38_r16 : CC := .reg [⟨some 78, none, (.move (.tmp 0))⟩,
  ⟨some 79, none, (.move (.tmp 1))⟩,
  ⟨some 80, none, (.slice 95 (.tmp 78) (some (.tmp 79)) none none)⟩,
  ⟨some 81, none, (.move (.tmp 2))⟩,
  ⟨some 82, none, (.call { callee := (.builtin .copy), args := #[(.tmp 80), (.tmp 81)], argTypes := #[95, 95] })⟩] [0]
@[simp] noncomputable def F38_r17 : CC := .reg [⟨some 83, none, (.move (.tmp 0))⟩,
  ⟨some 6, none, (.assign (.tmp 83))⟩] [6]
@[simp] noncomputable def F38_r18 : CC := .reg [⟨some 84, none, (.move (.tmp 0))⟩,
  ⟨some 85, none, (.move (.tmp 8))⟩,
  ⟨some 86, none, (.slice 95 (.tmp 84) (some (.tmp 85)) none none)⟩,
  ⟨some 87, none, (.move (.tmp 2))⟩,
  ⟨some 88, none, (.call { callee := (.builtin .copy), args := #[(.tmp 86), (.tmp 87)], argTypes := #[95, 95] })⟩] [0, 1, 7]
@[simp] noncomputable def F38_r19 : CC := .reg [⟨some 89, none, (.move (.tmp 0))⟩,
  ⟨some 90, none, (.move (.tmp 1))⟩,
  ⟨some 91, none, (.slice 95 (.tmp 89) (some (.tmp 90)) none none)⟩,
  ⟨some 92, none, (.move (.tmp 7))⟩,
  ⟨some 93, none, (.call { callee := (.value (.func 50)), args := #[(.tmp 91), (.tmp 92)], argTypes := #[95, 3] })⟩] [0]
@[simp] noncomputable def F38_r20 : CC := .reg [⟨some 94, none, (.move (.tmp 0))⟩,
  ⟨some 6, none, (.assign (.tmp 94))⟩] [6]
noncomputable def F38 : CC := (.seq F38_r0 (.seq F38_r1 (.seq F38_r2 (.seq (.seq F38_r3 (.cond (.tmp 16) (.seq F38_r4 .ret) .skip)) (.seq F38_r5 (.seq (.seq F38_r6 (.cond (.tmp 22) (.seq F38_r7 .ret) .skip)) (.seq (.seq F38_r8 (.cond (.tmp 31) (.seq F38_r9 (.seq F38_r10 (.seq F38_r11 (.seq F38_r12 .ret)))) .skip)) (.seq F38_r13 (.seq (.seq F38_r14 (.cond (.tmp 68) (.seq F38_r15 (.seq F38_r16 (.seq F38_r17 .ret))) .skip)) (.seq F38_r18 (.seq F38_r19 (.seq F38_r20 .ret))))))))))))
noncomputable def F38_inf : Nat → RI
  | 0 => ⟨[0, 1, 2], [], []⟩
  | 1 => ⟨[0, 1, 2], [], []⟩
  | 2 => ⟨[0, 1, 2, 7], [], []⟩
  | 3 => ⟨[0, 1, 2, 7, 16], [], []⟩
  | 4 => ⟨[6], [], []⟩
  | 5 => ⟨[0, 1, 2, 7, 8], [], []⟩
  | 6 => ⟨[0, 1, 2, 7, 8, 22], [], []⟩
  | 7 => ⟨[6], [], []⟩
  | 8 => ⟨[0, 1, 2, 7, 8, 31], [], []⟩
  | 9 => ⟨[0, 1, 2, 7, 9], [], []⟩
  | 10 => ⟨[0, 1, 7, 9], [], []⟩
  | 11 => ⟨[9], [0, 0, 0, 6, 15, 0, 0, 96, 255], [(0, []), (1, []), (2, []), (3, []), (4, []), (5, []), (6, []), (7, []), (8, [])]⟩
  | 12 => ⟨[6], [], []⟩
  | 13 => ⟨[0, 1, 2, 7, 8], [], []⟩
  | 14 => ⟨[0, 1, 2, 7, 8, 68], [], []⟩
  | 15 => ⟨[0, 1, 2], [0, 0, 0, 6, 15, 0, 0, 96, 255], [(0, []), (1, []), (2, []), (3, []), (4, []), (5, []), (6, []), (7, []), (8, [])]⟩
  | 16 => ⟨[0], [], []⟩
  | 17 => ⟨[6], [], []⟩
  | 18 => ⟨[0, 1, 7], [], []⟩
  | 19 => ⟨[0], [], []⟩
  | 20 => ⟨[6], [], []⟩
  | _ => ⟨[], [], []⟩
noncomputable def F38_c : Code := Try.f38.body.getD .skip
theorem F38_b : Try.f38.body = some F38_c := by kernel_rfl
theorem F38_rs : Try.f38.results.toList = ([.tmp 6] : List ResultVar) := by kernel_rfl
theorem F38_n : Try.f38.ntmps = 95 := by kernel_rfl
theorem F38_ok : toCC [] 95 F38_inf F38_c = some F38 := by kernel_rfl
theorem F38_in {args : List AV} {G : Hp} {post : AV → Hp → Prop} (ha : args.all AV.plain = true) (hn : args.length ≤ 95) (h : BDs args → awp Try.prog [] F38 (AEnds Try.prog [.tmp 6] post) (initT args) G) : ACalls Try.prog 38 args G post :=
  acalls_cc Try.func38 F38_b F38_rs F38_n F38_ok mixed ha hn h
end Go.Proofs.Ytgideonigiokbaa
