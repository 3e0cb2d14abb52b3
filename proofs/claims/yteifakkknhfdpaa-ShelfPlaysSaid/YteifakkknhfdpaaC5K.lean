import Derived.Test.YteifakkknhfdpaaC0K
set_option linter.unusedVariables false
set_option linter.unusedSimpArgs false
set_option maxRecDepth 100000
namespace Go.Proofs.Yteifakkknhfdpaa
open Go Go.Al

/- 51 ostiary/ostiaryref02.Del -/
@[simp] noncomputable def F51_r0 : CC := .reg [⟨some 4, none, (.assign (.const (.slice none 0 0)))⟩] [0, 1]
@[simp] noncomputable def F51_r1 : CC := .reg [⟨some 5, none, (.assign (.const (.slice none 0 0)))⟩] [0, 1, 5]
@[simp] noncomputable def F51_r2 : CC := .reg [⟨some 8, none, (.move (.tmp 0))⟩,
  ⟨some 9, none, (.call { callee := (.builtin .len), args := #[(.tmp 8)], argTypes := #[50] })⟩,
  ⟨some 10, none, (.move (.const (.int .i64 0)))⟩] [1, 5, 8, 9, 10]
@[simp] noncomputable def F51_r3 : CC := .reg [⟨some 11, none, (.binOp .lss 3 (.tmp 10) (.tmp 9) 3)⟩] [1, 5, 8, 9, 10, 11]
@[simp] noncomputable def F51_r4 : CC := .reg [⟨some 12, none, (.indexAddr 50 (.tmp 8) (.tmp 10))⟩,
  ⟨some 13, none, (.load 52 (.tmp 12))⟩,
  ⟨some 7, none, (.alloc 52)⟩,
  ⟨none, none, (.store 52 (.tmp 7) (.tmp 13))⟩] [1, 5, 7, 8, 9, 10]
@[simp] noncomputable def F51_r5 : CC := .reg [⟨some 14, none, (.fieldAddr 52 (.tmp 7) 0)⟩,
  ⟨some 15, none, (.load 9 (.tmp 14))⟩,
  ⟨some 16, none, (.move (.tmp 1))⟩,
  ⟨some 17, none, (.binOp .neq 9 (.tmp 15) (.tmp 16) 9)⟩] [1, 5, 7, 8, 9, 10, 17]
@[simp] noncomputable def F51_r6 : CC := .reg [⟨some 18, none, (.move (.tmp 5))⟩,
  ⟨some 19, none, (.load 52 (.tmp 7))⟩,
  ⟨some 20, none, (.buildSlice 50 1 #[(0, (.tmp 19))])⟩,
  ⟨some 21, none, (.call { callee := (.builtin .append), args := #[(.tmp 18), (.tmp 20)], argTypes := #[50, 50] })⟩,
  ⟨some 5, none, (.assign (.tmp 21))⟩] [1, 5, 8, 9, 10]
@[simp] noncomputable def F51_r7 : CC := .reg [⟨some 22, none, (.binOp .add 3 (.tmp 10) (.const (.int .i64 1)) 3)⟩,
  ⟨some 10, none, (.move (.tmp 22))⟩] [1, 5, 8, 9, 10]
noncomputable def F51_l0 : CC := (.seq F51_r3 (.seq (.cond (.tmp 11) .skip (.exit 0)) (.seq (.block 1 (.seq F51_r4 (.seq F51_r5 (.cond (.tmp 17) F51_r6 .skip)))) F51_r7)))
@[simp] noncomputable def F51_r8 : CC := .reg [⟨some 23, none, (.move (.tmp 5))⟩,
  ⟨some 4, none, (.assign (.tmp 23))⟩] [4]
noncomputable def F51 : CC := (.seq F51_r0 (.seq F51_r1 (.seq (.seq F51_r2 (.block 0 (.loop F51_l0))) (.seq F51_r8 .ret))))
noncomputable def F51_inf : Nat → RI
  | 0 => ⟨[0, 1], [], []⟩
  | 1 => ⟨[0, 1, 5], [], []⟩
  | 2 => ⟨[1, 5, 8, 9, 10], [], []⟩
  | 3 => ⟨[1, 5, 8, 9, 10, 11], [], []⟩
  | 4 => ⟨[1, 5, 7, 8, 9, 10], [], []⟩
  | 5 => ⟨[1, 5, 7, 8, 9, 10, 17], [], []⟩
  | 6 => ⟨[1, 5, 8, 9, 10], [], []⟩
  | 7 => ⟨[1, 5, 8, 9, 10], [], []⟩
  | 8 => ⟨[4], [], []⟩
  | _ => ⟨[], [], []⟩
noncomputable def F51_c : Code := Try.f51.body.getD .skip
theorem F51_b : Try.f51.body = some F51_c := by kernel_rfl
theorem F51_rs : Try.f51.results.toList = ([.tmp 4] : List ResultVar) := by kernel_rfl
theorem F51_n : Try.f51.ntmps = 24 := by kernel_rfl
theorem F51_ok : toCC [] 24 F51_inf F51_c = some F51 := by kernel_rfl
theorem F51_in {args : List AV} {G : Hp} {post : AV → Hp → Prop} (ha : args.all AV.plain = true) (hn : args.length ≤ 24) (h : BDs args → awp Try.prog [] F51 (AEnds Try.prog [.tmp 4] post) (initT args) G) : ACalls Try.prog 51 args G post :=
  acalls_cc Try.func51 F51_b F51_rs F51_n F51_ok mixed ha hn h

/- 52 (*ostiary/shelf.Shelf[string, int]).Next -/
@[simp] noncomputable def F52_r0 : CC := .reg [⟨some 4, none, (.assign (.const (.string { data := #[] })))⟩,
  ⟨some 5, none, (.assign (.const (.int .i64 0)))⟩,
  ⟨some 6, none, (.assign (.const (.bool false)))⟩] [0, 1]
@[simp] noncomputable def F52_r1 : CC := .reg [⟨some 10, none, (.move (.tmp 0))⟩,
  ⟨some 11, none, (.binOp .neq 48 (.tmp 10) (.const (.pointer none)) 48)⟩] [0, 1, 11]
@[simp] noncomputable def F52_r2 : CC := .reg [⟨some 13, none, (.move (.tmp 0))⟩,
  ⟨some 14, none, (.move (.tmp 1))⟩,
  ⟨some 15, none, (.call { callee := (.value (.func 58)), args := #[(.tmp 13), (.tmp 14)], argTypes := #[48, 9] })⟩,
  ⟨some 12, none, (.move (.tmp 15))⟩,
  ⟨some 16, none, (.extract (.tmp 12) 0)⟩,
  ⟨some 17, none, (.extract (.tmp 12) 1)⟩,
  ⟨some 7, none, (.assign (.tmp 16))⟩,
  ⟨some 8, none, (.assign (.tmp 17))⟩] [0, 1, 7, 8]
@[simp] noncomputable def F52_r3 : CC := .reg [⟨some 18, none, (.move (.tmp 8))⟩] [0, 1, 7, 18]
@[simp] noncomputable def F52_r4 : CC := .reg [⟨some 19, none, (.move (.tmp 7))⟩,
  ⟨some 20, none, (.binOp .add 3 (.tmp 19) (.const (.int .i64 1)) 3)⟩,
  ⟨some 7, none, (.assign (.tmp 20))⟩] [0, 1, 7]
@[simp] noncomputable def F52_r5 : CC := .reg [⟨some 21, none, (.move (.tmp 7))⟩,
  ⟨some 22, none, (.move (.tmp 0))⟩,
  ⟨some 23, none, (.nilCheck (.tmp 22))⟩,
  ⟨some 24, none, (.fieldAddr 78 (.tmp 23) 0)⟩,
  ⟨some 25, none, (.load 76 (.tmp 24))⟩,
  ⟨some 26, none, (.call { callee := (.builtin .len), args := #[(.tmp 25)], argTypes := #[76] })⟩,
  ⟨some 27, none, (.binOp .lss 3 (.tmp 21) (.tmp 26) 3)⟩] [0, 1, 7, 27]
@[simp] noncomputable def F52_r6 : CC := .drw [⟨0, ⟨some 28, none, (.move (.tmp 0))⟩, [], []⟩,
  ⟨1, ⟨some 29, none, (.nilCheck (.tmp 28))⟩, [], []⟩,
  ⟨2, ⟨some 30, none, (.fieldAddr 78 (.tmp 29) 0)⟩, [], []⟩,
  ⟨3, ⟨some 31, none, (.load 76 (.tmp 30))⟩, [], []⟩,
  ⟨4, ⟨some 32, none, (.move (.tmp 7))⟩, [], []⟩,
  ⟨5, ⟨some 33, none, (.indexAddr 76 (.tmp 31) (.tmp 32))⟩, [], []⟩,
  ⟨6, ⟨some 34, none, (.fieldAddr 90 (.tmp 33) 0)⟩, [], []⟩,
  ⟨7, ⟨some 35, none, (.load 9 (.tmp 34))⟩, [], []⟩,
  ⟨8, ⟨some 36, none, (.move (.tmp 0))⟩, [], []⟩,
  ⟨9, ⟨some 37, none, (.nilCheck (.tmp 36))⟩, [], []⟩,
  ⟨10, ⟨some 38, none, (.fieldAddr 78 (.tmp 37) 0)⟩, [], []⟩,
  ⟨11, ⟨some 39, none, (.load 76 (.tmp 38))⟩, [], []⟩,
  ⟨12, ⟨some 40, none, (.move (.tmp 7))⟩, [], []⟩,
  ⟨13, ⟨some 41, none, (.indexAddr 76 (.tmp 39) (.tmp 40))⟩, [], []⟩,
  ⟨14, ⟨some 42, none, (.fieldAddr 90 (.tmp 41) 1)⟩, [], []⟩,
  ⟨15, ⟨some 43, none, (.load 3 (.tmp 42))⟩, [], []⟩,
  ⟨16, ⟨some 4, none, (.assign (.tmp 35))⟩, [], []⟩,
  ⟨17, ⟨some 5, none, (.assign (.tmp 43))⟩, [], []⟩,
  ⟨18, ⟨some 6, none, (.assign (.const (.bool true)))⟩, [], []⟩] [28, 29, 30, 31, 32, 33, 34, 35, 36, 37, 38, 39, 40, 41, 42, 43, 4, 5, 6] [4, 5, 6]
@[simp] noncomputable def F52_r7 : CC := .reg [⟨some 9, none, (.assign (.const (.int .i64 0)))⟩] [1, 9]
@[simp] noncomputable def F52_r8 : CC := .reg [⟨some 44, none, (.move (.tmp 1))⟩,
  ⟨some 45, none, (.move (.tmp 9))⟩,
  ⟨some 4, none, (.assign (.tmp 44))⟩,
  ⟨some 5, none, (.assign (.tmp 45))⟩,
  ⟨some 6, none, (.assign (.const (.bool false)))⟩] [4, 5, 6]
noncomputable def F52 : CC := (.seq F52_r0 (.seq (.seq F52_r1 (.cond (.tmp 11) (.seq F52_r2 (.seq (.seq F52_r3 (.cond (.tmp 18) F52_r4 .skip)) (.seq F52_r5 (.cond (.tmp 27) (.seq F52_r6 .ret) .skip)))) .skip)) (.seq F52_r7 (.seq F52_r8 .ret))))
noncomputable def F52_inf : Nat → RI
  | 0 => ⟨[0, 1], [], []⟩
  | 1 => ⟨[0, 1, 11], [], []⟩
  | 2 => ⟨[0, 1, 7, 8], [], []⟩
  | 3 => ⟨[0, 1, 7, 18], [], []⟩
  | 4 => ⟨[0, 1, 7], [], []⟩
  | 5 => ⟨[0, 1, 7, 27], [], []⟩
  | 6 => ⟨[4, 5, 6], [0, 1, 3, 7, 0, 31, 63, 127, 0, 256, 768, 1792, 0, 7936, 16128, 32512, 255, 131071, 262143], [(0, []), (1, []), (2, []), (3, []), (4, []), (5, []), (6, []), (7, []), (8, []), (9, []), (10, []), (11, []), (12, []), (13, []), (14, []), (15, []), (16, []), (17, []), (18, [])]⟩
  | 7 => ⟨[1, 9], [], []⟩
  | 8 => ⟨[4, 5, 6], [], []⟩
  | _ => ⟨[], [], []⟩
noncomputable def F52_c : Code := Try.f52.body.getD .skip
theorem F52_b : Try.f52.body = some F52_c := by kernel_rfl
theorem F52_rs : Try.f52.results.toList = ([.tmp 4, .tmp 5, .tmp 6] : List ResultVar) := by kernel_rfl
theorem F52_n : Try.f52.ntmps = 46 := by kernel_rfl
theorem F52_ok : toCC [] 46 F52_inf F52_c = some F52 := by kernel_rfl
theorem F52_in {args : List AV} {G : Hp} {post : AV → Hp → Prop} (ha : args.all AV.plain = true) (hn : args.length ≤ 46) (h : BDs args → awp Try.prog [] F52 (AEnds Try.prog [.tmp 4, .tmp 5, .tmp 6] post) (initT args) G) : ACalls Try.prog 52 args G post :=
  acalls_cc Try.func52 F52_b F52_rs F52_n F52_ok mixed ha hn h

/- 54 slices.rotateRight[ostiary/shelf.slot[int, int]] -/
@[simp] noncomputable def F54_r0 : CC := .reg [⟨some 4, none, (.move (.tmp 0))⟩,
  ⟨some 5, none, (.move (.tmp 0))⟩,
  ⟨some 6, none, (.call { callee := (.builtin .len), args := #[(.tmp 5)], argTypes := #[59] })⟩,
  ⟨some 7, none, (.move (.tmp 1))⟩,
  ⟨some 8, none, (.binOp .sub 3 (.tmp 6) (.tmp 7) 3)⟩,
  ⟨some 9, none, (.call { callee := (.value (.func 61)), args := #[(.tmp 4), (.tmp 8)], argTypes := #[59, 3] })⟩] []
noncomputable def F54 : CC := F54_r0
noncomputable def F54_inf : Nat → RI
  | 0 => ⟨[], [], []⟩
  | _ => ⟨[], [], []⟩
noncomputable def F54_c : Code := Try.f54.body.getD .skip
theorem F54_b : Try.f54.body = some F54_c := by kernel_rfl
theorem F54_rs : Try.f54.results.toList = ([] : List ResultVar) := by kernel_rfl
theorem F54_n : Try.f54.ntmps = 10 := by kernel_rfl
theorem F54_ok : toCC [] 10 F54_inf F54_c = some F54 := by kernel_rfl
theorem F54_in {args : List AV} {G : Hp} {post : AV → Hp → Prop} (ha : args.all AV.plain = true) (hn : args.length ≤ 10) (h : BDs args → awp Try.prog [] F54 (AEnds Try.prog [] post) (initT args) G) : ACalls Try.prog 54 args G post :=
  acalls_cc Try.func54 F54_b F54_rs F54_n F54_ok mixed ha hn h

/- 55 (*ostiary/shelf.Shelf[int, string]).find -/
@[simp] noncomputable def F55_r0 : CC := .reg [⟨some 4, none, (.assign (.const (.int .i64 0)))⟩,
  ⟨some 5, none, (.assign (.const (.bool false)))⟩] [0, 1]
@[simp] noncomputable def F55_r1 : CC := .drw [⟨0, ⟨some 9, none, (.move (.tmp 0))⟩, [], []⟩,
  ⟨1, ⟨some 10, none, (.nilCheck (.tmp 9))⟩, [], []⟩,
  ⟨2, ⟨some 11, none, (.fieldAddr 95 (.tmp 10) 0)⟩, [], []⟩,
  ⟨3, ⟨some 12, none, (.load 93 (.tmp 11))⟩, [], []⟩,
  ⟨4, ⟨some 13, none, (.call { callee := (.builtin .len), args := #[(.tmp 12)], argTypes := #[93] })⟩, [], []⟩,
  ⟨5, ⟨some 6, none, (.assign (.const (.int .i64 0)))⟩, [], []⟩,
  ⟨6, ⟨some 7, none, (.assign (.tmp 13))⟩, [], []⟩] [9, 10, 11, 12, 13, 6, 7] [0, 1, 6, 7]
@[simp] noncomputable def F55_r2 : CC := .reg [⟨some 14, none, (.move (.tmp 6))⟩,
  ⟨some 15, none, (.move (.tmp 7))⟩,
  ⟨some 16, none, (.binOp .lss 3 (.tmp 14) (.tmp 15) 3)⟩] [0, 1, 6, 7, 16]
@[simp] noncomputable def F55_r3 : CC := .reg [⟨some 17, none, (.move (.tmp 6))⟩,
  ⟨some 18, none, (.move (.tmp 7))⟩,
  ⟨some 19, none, (.move (.tmp 6))⟩,
  ⟨some 20, none, (.binOp .sub 3 (.tmp 18) (.tmp 19) 3)⟩,
  ⟨some 21, none, (.binOp .quo 3 (.tmp 20) (.const (.int .i64 2)) 3)⟩,
  ⟨some 22, none, (.binOp .add 3 (.tmp 17) (.tmp 21) 3)⟩,
  ⟨some 8, none, (.assign (.tmp 22))⟩] [0, 1, 6, 7, 8]
@[simp] noncomputable def F55_r4 : CC := .reg [⟨some 23, none, (.move (.tmp 0))⟩,
  ⟨some 24, none, (.nilCheck (.tmp 23))⟩,
  ⟨some 25, none, (.fieldAddr 95 (.tmp 24) 0)⟩,
  ⟨some 26, none, (.load 93 (.tmp 25))⟩,
  ⟨some 27, none, (.move (.tmp 8))⟩,
  ⟨some 28, none, (.indexAddr 93 (.tmp 26) (.tmp 27))⟩,
  ⟨some 29, none, (.fieldAddr 97 (.tmp 28) 0)⟩,
  ⟨some 30, none, (.load 3 (.tmp 29))⟩,
  ⟨some 31, none, (.move (.tmp 1))⟩,
  ⟨some 32, none, (.binOp .lss 3 (.tmp 30) (.tmp 31) 3)⟩] [0, 1, 6, 7, 8, 32]
@[simp] noncomputable def F55_r5 : CC := .reg [⟨some 33, none, (.move (.tmp 8))⟩,
  ⟨some 34, none, (.binOp .add 3 (.tmp 33) (.const (.int .i64 1)) 3)⟩,
  ⟨some 6, none, (.assign (.tmp 34))⟩] [0, 1, 6, 7]
@[simp] noncomputable def F55_r6 : CC := .reg [⟨some 35, none, (.move (.tmp 8))⟩,
  ⟨some 7, none, (.assign (.tmp 35))⟩] [0, 1, 6, 7]
noncomputable def F55_l0 : CC := (.seq (.seq F55_r2 (.cond (.tmp 16) .skip (.exit 0))) (.block 1 (.seq F55_r3 (.seq F55_r4 (.cond (.tmp 32) F55_r5 F55_r6)))))
@[simp] noncomputable def F55_r7 : CC := .drw [⟨0, ⟨some 36, none, (.move (.tmp 6))⟩, [], []⟩,
  ⟨1, ⟨some 37, none, (.move (.tmp 6))⟩, [], []⟩,
  ⟨2, ⟨some 38, none, (.move (.tmp 0))⟩, [], []⟩,
  ⟨3, ⟨some 39, none, (.nilCheck (.tmp 38))⟩, [], []⟩,
  ⟨4, ⟨some 40, none, (.fieldAddr 95 (.tmp 39) 0)⟩, [], []⟩,
  ⟨5, ⟨some 41, none, (.load 93 (.tmp 40))⟩, [], []⟩,
  ⟨6, ⟨some 42, none, (.call { callee := (.builtin .len), args := #[(.tmp 41)], argTypes := #[93] })⟩, [], []⟩,
  ⟨7, ⟨some 43, none, (.binOp .lss 3 (.tmp 37) (.tmp 42) 3)⟩, [], []⟩,
  ⟨8, ⟨some 44, none, (.move (.tmp 43))⟩, [], []⟩,
  ⟨9, ⟨some 45, some (44, true), (.move (.tmp 0))⟩, [], []⟩,
  ⟨10, ⟨some 46, some (44, true), (.nilCheck (.tmp 45))⟩, [], []⟩,
  ⟨11, ⟨some 47, some (44, true), (.fieldAddr 95 (.tmp 46) 0)⟩, [], []⟩,
  ⟨12, ⟨some 48, some (44, true), (.load 93 (.tmp 47))⟩, [], []⟩,
  ⟨13, ⟨some 49, some (44, true), (.move (.tmp 6))⟩, [], []⟩,
  ⟨14, ⟨some 50, some (44, true), (.indexAddr 93 (.tmp 48) (.tmp 49))⟩, [], []⟩,
  ⟨15, ⟨some 51, some (44, true), (.fieldAddr 97 (.tmp 50) 0)⟩, [], []⟩,
  ⟨16, ⟨some 52, some (44, true), (.load 3 (.tmp 51))⟩, [], []⟩,
  ⟨17, ⟨some 53, some (44, true), (.move (.tmp 1))⟩, [], []⟩,
  ⟨18, ⟨some 54, some (44, true), (.binOp .eql 3 (.tmp 52) (.tmp 53) 3)⟩, [], []⟩,
  ⟨19, ⟨some 55, none, (.pick (.tmp 44) (.tmp 54) (.const (.bool false)))⟩, [], []⟩,
  ⟨20, ⟨some 4, none, (.assign (.tmp 36))⟩, [], []⟩,
  ⟨21, ⟨some 5, none, (.assign (.tmp 55))⟩, [], []⟩] [36, 37, 38, 39, 40, 41, 42, 43, 44, 45, 46, 47, 48, 49, 50, 51, 52, 53, 54, 55, 4, 5] [4, 5]
noncomputable def F55 : CC := (.seq F55_r0 (.seq F55_r1 (.seq (.block 0 (.loop F55_l0)) (.seq F55_r7 .ret))))
noncomputable def F55_inf : Nat → RI
  | 0 => ⟨[0, 1], [], []⟩
  | 1 => ⟨[0, 1, 6, 7], [0, 1, 3, 7, 15, 0, 63], [(0, []), (1, []), (2, []), (3, []), (4, []), (5, []), (6, [])]⟩
  | 2 => ⟨[0, 1, 6, 7, 16], [], []⟩
  | 3 => ⟨[0, 1, 6, 7, 8], [], []⟩
  | 4 => ⟨[0, 1, 6, 7, 8, 32], [], []⟩
  | 5 => ⟨[0, 1, 6, 7], [], []⟩
  | 6 => ⟨[0, 1, 6, 7], [], []⟩
  | 7 => ⟨[4, 5], [0, 0, 0, 4, 12, 28, 60, 126, 254, 510, 1022, 2046, 4094, 510, 16382, 32766, 65534, 510, 262142, 524286, 511, 2097151], [(0, []), (1, []), (2, []), (3, []), (4, []), (5, []), (6, []), (7, []), (8, []), (9, []), (10, []), (11, []), (12, []), (13, []), (14, []), (15, []), (16, []), (17, []), (18, []), (19, []), (20, []), (21, [])]⟩
  | _ => ⟨[], [], []⟩
noncomputable def F55_c : Code := Try.f55.body.getD .skip
theorem F55_b : Try.f55.body = some F55_c := by kernel_rfl
theorem F55_rs : Try.f55.results.toList = ([.tmp 4, .tmp 5] : List ResultVar) := by kernel_rfl
theorem F55_n : Try.f55.ntmps = 56 := by kernel_rfl
theorem F55_ok : toCC [] 56 F55_inf F55_c = some F55 := by kernel_rfl
theorem F55_in {args : List AV} {G : Hp} {post : AV → Hp → Prop} (ha : args.all AV.plain = true) (hn : args.length ≤ 56) (h : BDs args → awp Try.prog [] F55 (AEnds Try.prog [.tmp 4, .tmp 5] post) (initT args) G) : ACalls Try.prog 55 args G post :=
  acalls_cc Try.func55 F55_b F55_rs F55_n F55_ok mixed ha hn h

/- 56 slices.Insert[[]ostiary/shelf.slot[int, string],ostiary/shelf.slot[int, string]] -/
@[simp] noncomputable def F56_r0 : CC := .reg [⟨some 6, none, (.assign (.const (.slice none 0 0)))⟩] [0, 1, 2]
@[simp] noncomputable def F56_r1 : CC := .reg [⟨some 10, none, (.move (.tmp 0))⟩,
  ⟨some 11, none, (.move (.tmp 1))⟩,
  ⟨some 12, none, (.slice 93 (.tmp 10) (some (.tmp 11)) none none)⟩] [0, 1, 2]
@[simp] noncomputable def F56_r2 : CC := .reg [⟨some 13, none, (.move (.tmp 2))⟩,
  ⟨some 14, none, (.call { callee := (.builtin .len), args := #[(.tmp 13)], argTypes := #[93] })⟩,
  ⟨some 7, none, (.assign (.tmp 14))⟩] [0, 1, 2, 7]
@[simp] noncomputable def F56_r3 : CC := .reg [⟨some 15, none, (.move (.tmp 7))⟩,
  ⟨some 16, none, (.binOp .eql 3 (.tmp 15) (.const (.int .i64 0)) 3)⟩] [0, 1, 2, 7, 16]
@[simp] noncomputable def F56_r4 : CC := .reg [⟨some 17, none, (.move (.tmp 0))⟩,
  ⟨some 6, none, (.assign (.tmp 17))⟩] [6]
@[simp] noncomputable def F56_r5 : CC := .reg [⟨some 18, none, (.move (.tmp 0))⟩,
  ⟨some 19, none, (.call { callee := (.builtin .len), args := #[(.tmp 18)], argTypes := #[93] })⟩,
  ⟨some 8, none, (.assign (.tmp 19))⟩] [0, 1, 2, 7, 8]
@[simp] noncomputable def F56_r6 : CC := .reg [⟨some 20, none, (.move (.tmp 1))⟩,
  ⟨some 21, none, (.move (.tmp 8))⟩,
  ⟨some 22, none, (.binOp .eql 3 (.tmp 20) (.tmp 21) 3)⟩] [0, 1, 2, 7, 8, 22]
@[simp] noncomputable def F56_r7 : CC := .reg [⟨some 23, none, (.move (.tmp 0))⟩,
  ⟨some 24, none, (.move (.tmp 2))⟩,
  ⟨some 25, none, (.call { callee := (.builtin .append), args := #[(.tmp 23), (.tmp 24)], argTypes := #[93, 93] })⟩,
  ⟨some 6, none, (.assign (.tmp 25))⟩] [6]
@[simp] noncomputable def F56_r8 : CC := .reg [⟨some 26, none, (.move (.tmp 8))⟩,
  ⟨some 27, none, (.move (.tmp 7))⟩,
  ⟨some 28, none, (.binOp .add 3 (.tmp 26) (.tmp 27) 3)⟩,
  ⟨some 29, none, (.move (.tmp 0))⟩,
  ⟨some 30, none, (.call { callee := (.builtin .cap), args := #[(.tmp 29)], argTypes := #[93] })⟩,
  ⟨some 31, none, (.binOp .gtr 3 (.tmp 28) (.tmp 30) 3)⟩] [0, 1, 2, 7, 8, 31]
@[simp] noncomputable def F56_r9 : CC := .reg [⟨some 32, none, (.move (.tmp 0))⟩,
  ⟨some 33, none, (.move (.tmp 1))⟩,
  ⟨some 34, none, (.slice 93 (.tmp 32) none (some (.tmp 33)) none)⟩,
  ⟨some 35, none, (.move (.tmp 8))⟩,
  ⟨some 36, none, (.move (.tmp 7))⟩,
  ⟨some 37, none, (.binOp .add 3 (.tmp 35) (.tmp 36) 3)⟩,
  ⟨some 38, none, (.move (.tmp 1))⟩,
  ⟨some 39, none, (.binOp .sub 3 (.tmp 37) (.tmp 38) 3)⟩,
  ⟨some 40, none, (.call { callee := (.builtin .append), args := #[(.tmp 34), (.tmp 39)], argTypes := #[93, 3] })⟩,
  ⟨some 9, none, (.assign (.tmp 40))⟩] [0, 1, 2, 7, 9]
@[simp] noncomputable def F56_r10 : CC := .reg [⟨some 41, none, (.move (.tmp 9))⟩,
  ⟨some 42, none, (.move (.tmp 1))⟩,
  ⟨some 43, none, (.slice 93 (.tmp 41) (some (.tmp 42)) none none)⟩,
  ⟨some 44, none, (.move (.tmp 2))⟩,
  ⟨some 45, none, (.call { callee := (.builtin .copy), args := #[(.tmp 43), (.tmp 44)], argTypes := #[93, 93] })⟩] [0, 1, 7, 9]
@[simp] noncomputable def F56_r11 : CC := .drw [⟨0, ⟨some 46, none, (.move (.tmp 9))⟩, [], []⟩,
  ⟨1, ⟨some 47, none, (.move (.tmp 1))⟩, [], []⟩,
  ⟨2, ⟨some 48, none, (.move (.tmp 7))⟩, [], []⟩,
  ⟨3, ⟨some 49, none, (.binOp .add 3 (.tmp 47) (.tmp 48) 3)⟩, [], []⟩,
  ⟨4, ⟨some 50, none, (.slice 93 (.tmp 46) (some (.tmp 49)) none none)⟩, [], []⟩,
  ⟨5, ⟨some 51, none, (.move (.tmp 0))⟩, [], []⟩,
  ⟨6, ⟨some 52, none, (.move (.tmp 1))⟩, [], []⟩,
  ⟨7, ⟨some 53, none, (.slice 93 (.tmp 51) (some (.tmp 52)) none none)⟩, [], []⟩,
  ⟨8, ⟨some 54, none, (.call { callee := (.builtin .copy), args := #[(.tmp 50), (.tmp 53)], argTypes := #[93, 93] })⟩, [], []⟩] [46, 47, 48, 49, 50, 51, 52, 53, 54] [9]
@[simp] noncomputable def F56_r12 : CC := .reg [⟨some 55, none, (.move (.tmp 9))⟩,
  ⟨some 6, none, (.assign (.tmp 55))⟩] [6]
@[simp] noncomputable def F56_r13 : CC := .reg [⟨some 56, none, (.move (.tmp 0))⟩,
  ⟨some 57, none, (.move (.tmp 8))⟩,
  ⟨some 58, none, (.move (.tmp 7))⟩,
  ⟨some 59, none, (.binOp .add 3 (.tmp 57) (.tmp 58) 3)⟩,
  ⟨some 60, none, (.slice 93 (.tmp 56) none (some (.tmp 59)) none)⟩,
  ⟨some 0, none, (.assign (.tmp 60))⟩] [0, 1, 2, 7, 8]
@[simp] noncomputable def F56_r14 : CC := .reg [⟨some 61, none, (.move (.tmp 2))⟩,
  ⟨some 62, none, (.move (.tmp 0))⟩,
  ⟨some 63, none, (.move (.tmp 1))⟩,
  ⟨some 64, none, (.move (.tmp 7))⟩,
  ⟨some 65, none, (.binOp .add 3 (.tmp 63) (.tmp 64) 3)⟩,
  ⟨some 66, none, (.slice 93 (.tmp 62) (some (.tmp 65)) none none)⟩,
  ⟨some 67, none, (.call { callee := (.value (.func 62)), args := #[(.tmp 61), (.tmp 66)], argTypes := #[93, 93] })⟩,
  ⟨some 68, none, (.unOp .not 4 (.tmp 67))⟩] [0, 1, 2, 7, 8, 68]
@[simp] noncomputable def F56_r15 : CC := .drw [⟨0, ⟨some 69, none, (.move (.tmp 0))⟩, [], []⟩,
  ⟨1, ⟨some 70, none, (.move (.tmp 1))⟩, [], []⟩,
  ⟨2, ⟨some 71, none, (.move (.tmp 7))⟩, [], []⟩,
  ⟨3, ⟨some 72, none, (.binOp .add 3 (.tmp 70) (.tmp 71) 3)⟩, [], []⟩,
  ⟨4, ⟨some 73, none, (.slice 93 (.tmp 69) (some (.tmp 72)) none none)⟩, [], []⟩,
  ⟨5, ⟨some 74, none, (.move (.tmp 0))⟩, [], []⟩,
  ⟨6, ⟨some 75, none, (.move (.tmp 1))⟩, [], []⟩,
  ⟨7, ⟨some 76, none, (.slice 93 (.tmp 74) (some (.tmp 75)) none none)⟩, [], []⟩,
  ⟨8, ⟨some 77, none, (.call { callee := (.builtin .copy), args := #[(.tmp 73), (.tmp 76)], argTypes := #[93, 93] })⟩, [], []⟩] [69, 70, 71, 72, 73, 74, 75, 76, 77] [0, 1, 2]
@[simp] noncomputable def F56_r16 : CC := .reg [⟨some 78, none, (.move (.tmp 0))⟩,
  ⟨some 79, none, (.move (.tmp 1))⟩,
  ⟨some 80, none, (.slice 93 (.tmp 78) (some (.tmp 79)) none none)⟩,
  ⟨some 81, none, (.move (.tmp 2))⟩,
  ⟨some 82, none, (.call { callee := (.builtin .copy), args := #[(.tmp 80), (.tmp 81)], argTypes := #[93, 93] })⟩] [0]
@[simp] noncomputable def F56_r17 : CC := .reg [⟨some 83, none, (.move (.tmp 0))⟩,
  ⟨some 6, none, (.assign (.tmp 83))⟩] [6]
@[simp] noncomputable def F56_r18 : CC := .reg [⟨some 84, none, (.move (.tmp 0))⟩,
  ⟨some 85, none, (.move (.tmp 8))⟩,
  ⟨some 86, none, (.slice 93 (.tmp 84) (some (.tmp 85)) none none)⟩,
  ⟨some 87, none, (.move (.tmp 2))⟩,
  ⟨some 88, none, (.call { callee := (.builtin .copy), args := #[(.tmp 86), (.tmp 87)], argTypes := #[93, 93] })⟩] [0, 1, 7]
@[simp] noncomputable def F56_r19 : CC := .reg [⟨some 89, none, (.move (.tmp 0))⟩,
  ⟨some 90, none, (.move (.tmp 1))⟩,
  ⟨some 91, none, (.slice 93 (.tmp 89) (some (.tmp 90)) none none)⟩,
  ⟨some 92, none, (.move (.tmp 7))⟩,
  ⟨some 93, none, (.call { callee := (.value (.func 63)), args := #[(.tmp 91), (.tmp 92)], argTypes := #[93, 3] })⟩] [0]
@[simp] noncomputable def F56_r20 : CC := .reg [⟨some 94, none, (.move (.tmp 0))⟩,
  ⟨some 6, none, (.assign (.tmp 94))⟩] [6]
noncomputable def F56 : CC := (.seq F56_r0 (.seq F56_r1 (.seq F56_r2 (.seq (.seq F56_r3 (.cond (.tmp 16) (.seq F56_r4 .ret) .skip)) (.seq F56_r5 (.seq (.seq F56_r6 (.cond (.tmp 22) (.seq F56_r7 .ret) .skip)) (.seq (.seq F56_r8 (.cond (.tmp 31) (.seq F56_r9 (.seq F56_r10 (.seq F56_r11 (.seq F56_r12 .ret)))) .skip)) (.seq F56_r13 (.seq (.seq F56_r14 (.cond (.tmp 68) (.seq F56_r15 (.seq F56_r16 (.seq F56_r17 .ret))) .skip)) (.seq F56_r18 (.seq F56_r19 (.seq F56_r20 .ret))))))))))))
noncomputable def F56_inf : Nat → RI
  | 0 => ⟨[0, 1, 2], [], []⟩
  | 1 => ⟨[0, 1, 2], [], []⟩
  | 2 => ⟨[0, 1, 2, 7], [], []⟩
  | 3 => ⟨[0, 1, 2, 7, 16], [], []⟩
  | 4 => ⟨[6], [], []⟩
  | 5 => ⟨[0, 1, 2, 7, 8], [], []⟩
  | 6 => ⟨[0, 1, 2, 7, 8, 22], [], []⟩
  | 7 => ⟨[6], [], []⟩
  | 8 => ⟨[0, 1, 2, 7, 8, 31], [], []⟩
  | 9 => ⟨[0, 1, 2, 7, 9], [], []⟩
  | 10 => ⟨[0, 1, 7, 9], [], []⟩
  | 11 => ⟨[9], [0, 0, 0, 6, 15, 0, 0, 96, 255], [(0, []), (1, []), (2, []), (3, []), (4, []), (5, []), (6, []), (7, []), (8, [])]⟩
  | 12 => ⟨[6], [], []⟩
  | 13 => ⟨[0, 1, 2, 7, 8], [], []⟩
  | 14 => ⟨[0, 1, 2, 7, 8, 68], [], []⟩
  | 15 => ⟨[0, 1, 2], [0, 0, 0, 6, 15, 0, 0, 96, 255], [(0, []), (1, []), (2, []), (3, []), (4, []), (5, []), (6, []), (7, []), (8, [])]⟩
  | 16 => ⟨[0], [], []⟩
  | 17 => ⟨[6], [], []⟩
  | 18 => ⟨[0, 1, 7], [], []⟩
  | 19 => ⟨[0], [], []⟩
  | 20 => ⟨[6], [], []⟩
  | _ => ⟨[], [], []⟩
noncomputable def F56_c : Code := Try.f56.body.getD .skip
theorem F56_b : Try.f56.body = some F56_c := by kernel_rfl
theorem F56_rs : Try.f56.results.toList = ([.tmp 6] : List ResultVar) := by kernel_rfl
theorem F56_n : Try.f56.ntmps = 95 := by kernel_rfl
theorem F56_ok : toCC [] 95 F56_inf F56_c = some F56 := by kernel_rfl
theorem F56_in {args : List AV} {G : Hp} {post : AV → Hp → Prop} (ha : args.all AV.plain = true) (hn : args.length ≤ 95) (h : BDs args → awp Try.prog [] F56 (AEnds Try.prog [.tmp 6] post) (initT args) G) : ACalls Try.prog 56 args G post :=
  acalls_cc Try.func56 F56_b F56_rs F56_n F56_ok mixed ha hn h

/- 57 (*ostiary/shelf.Shelf[int, string]).Len -/
@[simp] noncomputable def F57_r0 : CC := .reg [⟨some 2, none, (.assign (.const (.int .i64 0)))⟩] [0]
@[simp] noncomputable def F57_r1 : CC := .reg [⟨some 3, none, (.move (.tmp 0))⟩,
  ⟨some 4, none, (.binOp .eql 65 (.tmp 3) (.const (.pointer none)) 65)⟩] [0, 4]
@[simp] noncomputable def F57_r2 : CC := .reg [⟨some 2, none, (.assign (.const (.int .i64 0)))⟩] [2]
@[simp] noncomputable def F57_r3 : CC := .reg [⟨some 5, none, (.move (.tmp 0))⟩,
  ⟨some 6, none, (.nilCheck (.tmp 5))⟩,
  ⟨some 7, none, (.fieldAddr 95 (.tmp 6) 0)⟩,
  ⟨some 8, none, (.load 93 (.tmp 7))⟩,
  ⟨some 9, none, (.call { callee := (.builtin .len), args := #[(.tmp 8)], argTypes := #[93] })⟩,
  ⟨some 2, none, (.assign (.tmp 9))⟩] [2]
noncomputable def F57 : CC := (.seq F57_r0 (.seq (.seq F57_r1 (.cond (.tmp 4) (.seq F57_r2 .ret) .skip)) (.seq F57_r3 .ret)))
noncomputable def F57_inf : Nat → RI
  | 0 => ⟨[0], [], []⟩
  | 1 => ⟨[0, 4], [], []⟩
  | 2 => ⟨[2], [], []⟩
  | 3 => ⟨[2], [], []⟩
  | _ => ⟨[], [], []⟩
noncomputable def F57_c : Code := Try.f57.body.getD .skip
theorem F57_b : Try.f57.body = some F57_c := by kernel_rfl
theorem F57_rs : Try.f57.results.toList = ([.tmp 2] : List ResultVar) := by kernel_rfl
theorem F57_n : Try.f57.ntmps = 10 := by kernel_rfl
theorem F57_ok : toCC [] 10 F57_inf F57_c = some F57 := by kernel_rfl
theorem F57_in {args : List AV} {G : Hp} {post : AV → Hp → Prop} (ha : args.all AV.plain = true) (hn : args.length ≤ 10) (h : BDs args → awp Try.prog [] F57 (AEnds Try.prog [.tmp 2] post) (initT args) G) : ACalls Try.prog 57 args G post :=
  acalls_cc Try.func57 F57_b F57_rs F57_n F57_ok mixed ha hn h

/- 58 (*ostiary/shelf.Shelf[string, int]).find -/
@[simp] noncomputable def F58_r0 : CC := .reg [⟨some 4, none, (.assign (.const (.int .i64 0)))⟩,
  ⟨some 5, none, (.assign (.const (.bool false)))⟩] [0, 1]
@[simp] noncomputable def F58_r1 : CC := .drw [⟨0, ⟨some 9, none, (.move (.tmp 0))⟩, [], []⟩,
  ⟨1, ⟨some 10, none, (.nilCheck (.tmp 9))⟩, [], []⟩,
  ⟨2, ⟨some 11, none, (.fieldAddr 78 (.tmp 10) 0)⟩, [], []⟩,
  ⟨3, ⟨some 12, none, (.load 76 (.tmp 11))⟩, [], []⟩,
  ⟨4, ⟨some 13, none, (.call { callee := (.builtin .len), args := #[(.tmp 12)], argTypes := #[76] })⟩, [], []⟩,
  ⟨5, ⟨some 6, none, (.assign (.const (.int .i64 0)))⟩, [], []⟩,
  ⟨6, ⟨some 7, none, (.assign (.tmp 13))⟩, [], []⟩] [9, 10, 11, 12, 13, 6, 7] [0, 1, 6, 7]
@[simp] noncomputable def F58_r2 : CC := .reg [⟨some 14, none, (.move (.tmp 6))⟩,
  ⟨some 15, none, (.move (.tmp 7))⟩,
  ⟨some 16, none, (.binOp .lss 3 (.tmp 14) (.tmp 15) 3)⟩] [0, 1, 6, 7, 16]
@[simp] noncomputable def F58_r3 : CC := .reg [⟨some 17, none, (.move (.tmp 6))⟩,
  ⟨some 18, none, (.move (.tmp 7))⟩,
  ⟨some 19, none, (.move (.tmp 6))⟩,
  ⟨some 20, none, (.binOp .sub 3 (.tmp 18) (.tmp 19) 3)⟩,
  ⟨some 21, none, (.binOp .quo 3 (.tmp 20) (.const (.int .i64 2)) 3)⟩,
  ⟨some 22, none, (.binOp .add 3 (.tmp 17) (.tmp 21) 3)⟩,
  ⟨some 8, none, (.assign (.tmp 22))⟩] [0, 1, 6, 7, 8]
@[simp] noncomputable def F58_r4 : CC := .reg [⟨some 23, none, (.move (.tmp 0))⟩,
  ⟨some 24, none, (.nilCheck (.tmp 23))⟩,
  ⟨some 25, none, (.fieldAddr 78 (.tmp 24) 0)⟩,
  ⟨some 26, none, (.load 76 (.tmp 25))⟩,
  ⟨some 27, none, (.move (.tmp 8))⟩,
  ⟨some 28, none, (.indexAddr 76 (.tmp 26) (.tmp 27))⟩,
  ⟨some 29, none, (.fieldAddr 90 (.tmp 28) 0)⟩,
  ⟨some 30, none, (.load 9 (.tmp 29))⟩,
  ⟨some 31, none, (.move (.tmp 1))⟩,
  ⟨some 32, none, (.binOp .lss 9 (.tmp 30) (.tmp 31) 9)⟩] [0, 1, 6, 7, 8, 32]
@[simp] noncomputable def F58_r5 : CC := .reg [⟨some 33, none, (.move (.tmp 8))⟩,
  ⟨some 34, none, (.binOp .add 3 (.tmp 33) (.const (.int .i64 1)) 3)⟩,
  ⟨some 6, none, (.assign (.tmp 34))⟩] [0, 1, 6, 7]
@[simp] noncomputable def F58_r6 : CC := .reg [⟨some 35, none, (.move (.tmp 8))⟩,
  ⟨some 7, none, (.assign (.tmp 35))⟩] [0, 1, 6, 7]
noncomputable def F58_l0 : CC := (.seq (.seq F58_r2 (.cond (.tmp 16) .skip (.exit 0))) (.block 1 (.seq F58_r3 (.seq F58_r4 (.cond (.tmp 32) F58_r5 F58_r6)))))
@[simp] noncomputable def F58_r7 : CC := .drw [⟨0, ⟨some 36, none, (.move (.tmp 6))⟩, [], []⟩,
  ⟨1, ⟨some 37, none, (.move (.tmp 6))⟩, [], []⟩,
  ⟨2, ⟨some 38, none, (.move (.tmp 0))⟩, [], []⟩,
  ⟨3, ⟨some 39, none, (.nilCheck (.tmp 38))⟩, [], []⟩,
  ⟨4, ⟨some 40, none, (.fieldAddr 78 (.tmp 39) 0)⟩, [], []⟩,
  ⟨5, ⟨some 41, none, (.load 76 (.tmp 40))⟩, [], []⟩,
  ⟨6, ⟨some 42, none, (.call { callee := (.builtin .len), args := #[(.tmp 41)], argTypes := #[76] })⟩, [], []⟩,
  ⟨7, ⟨some 43, none, (.binOp .lss 3 (.tmp 37) (.tmp 42) 3)⟩, [], []⟩,
  ⟨8, ⟨some 44, none, (.move (.tmp 43))⟩, [], []⟩,
  ⟨9, ⟨some 45, some (44, true), (.move (.tmp 0))⟩, [], []⟩,
  ⟨10, ⟨some 46, some (44, true), (.nilCheck (.tmp 45))⟩, [], []⟩,
  ⟨11, ⟨some 47, some (44, true), (.fieldAddr 78 (.tmp 46) 0)⟩, [], []⟩,
  ⟨12, ⟨some 48, some (44, true), (.load 76 (.tmp 47))⟩, [], []⟩,
  ⟨13, ⟨some 49, some (44, true), (.move (.tmp 6))⟩, [], []⟩,
  ⟨14, ⟨some 50, some (44, true), (.indexAddr 76 (.tmp 48) (.tmp 49))⟩, [], []⟩,
  ⟨15, ⟨some 51, some (44, true), (.fieldAddr 90 (.tmp 50) 0)⟩, [], []⟩,
  ⟨16, ⟨some 52, some (44, true), (.load 9 (.tmp 51))⟩, [], []⟩,
  ⟨17, ⟨some 53, some (44, true), (.move (.tmp 1))⟩, [], []⟩,
  ⟨18, ⟨some 54, some (44, true), (.binOp .eql 9 (.tmp 52) (.tmp 53) 9)⟩, [], []⟩,
  ⟨19, ⟨some 55, none, (.pick (.tmp 44) (.tmp 54) (.const (.bool false)))⟩, [], []⟩,
  ⟨20, ⟨some 4, none, (.assign (.tmp 36))⟩, [], []⟩,
  ⟨21, ⟨some 5, none, (.assign (.tmp 55))⟩, [], []⟩] [36, 37, 38, 39, 40, 41, 42, 43, 44, 45, 46, 47, 48, 49, 50, 51, 52, 53, 54, 55, 4, 5] [4, 5]
noncomputable def F58 : CC := (.seq F58_r0 (.seq F58_r1 (.seq (.block 0 (.loop F58_l0)) (.seq F58_r7 .ret))))
noncomputable def F58_inf : Nat → RI
  | 0 => ⟨[0, 1], [], []⟩
  | 1 => ⟨[0, 1, 6, 7], [0, 1, 3, 7, 15, 0, 63], [(0, []), (1, []), (2, []), (3, []), (4, []), (5, []), (6, [])]⟩
  | 2 => ⟨[0, 1, 6, 7, 16], [], []⟩
  | 3 => ⟨[0, 1, 6, 7, 8], [], []⟩
  | 4 => ⟨[0, 1, 6, 7, 8, 32], [], []⟩
  | 5 => ⟨[0, 1, 6, 7], [], []⟩
  | 6 => ⟨[0, 1, 6, 7], [], []⟩
  | 7 => ⟨[4, 5], [0, 0, 0, 4, 12, 28, 60, 126, 254, 510, 1022, 2046, 4094, 510, 16382, 32766, 65534, 510, 262142, 524286, 511, 2097151], [(0, []), (1, []), (2, []), (3, []), (4, []), (5, []), (6, []), (7, []), (8, []), (9, []), (10, []), (11, []), (12, []), (13, []), (14, []), (15, []), (16, []), (17, []), (18, []), (19, []), (20, []), (21, [])]⟩
  | _ => ⟨[], [], []⟩
noncomputable def F58_c : Code := Try.f58.body.getD .skip
theorem F58_b : Try.f58.body = some F58_c := by kernel_rfl
theorem F58_rs : Try.f58.results.toList = ([.tmp 4, .tmp 5] : List ResultVar) := by kernel_rfl
theorem F58_n : Try.f58.ntmps = 56 := by kernel_rfl
theorem F58_ok : toCC [] 56 F58_inf F58_c = some F58 := by kernel_rfl
theorem F58_in {args : List AV} {G : Hp} {post : AV → Hp → Prop} (ha : args.all AV.plain = true) (hn : args.length ≤ 56) (h : BDs args → awp Try.prog [] F58 (AEnds Try.prog [.tmp 4, .tmp 5] post) (initT args) G) : ACalls Try.prog 58 args G post :=
  acalls_cc Try.func58 F58_b F58_rs F58_n F58_ok mixed ha hn h

/- 59 slices.Insert[[]ostiary/shelf.slot[string, int],ostiary/shelf.slot[string, int]] -/
@[simp] noncomputable def F59_r0 : CC := .reg [⟨some 6, none, (.assign (.const (.slice none 0 0)))⟩] [0, 1, 2]
@[simp] noncomputable def F59_r1 : CC := .reg [⟨some 10, none, (.move (.tmp 0))⟩,
  ⟨some 11, none, (.move (.tmp 1))⟩,
  ⟨some 12, none, (.slice 76 (.tmp 10) (some (.tmp 11)) none none)⟩] [0, 1, 2]
@[simp] noncomputable def F59_r2 : CC := .reg [⟨some 13, none, (.move (.tmp 2))⟩,
  ⟨some 14, none, (.call { callee := (.builtin .len), args := #[(.tmp 13)], argTypes := #[76] })⟩,
  ⟨some 7, none, (.assign (.tmp 14))⟩] [0, 1, 2, 7]
@[simp] noncomputable def F59_r3 : CC := .reg [⟨some 15, none, (.move (.tmp 7))⟩,
  ⟨some 16, none, (.binOp .eql 3 (.tmp 15) (.const (.int .i64 0)) 3)⟩] [0, 1, 2, 7, 16]
@[simp] noncomputable def F59_r4 : CC := .reg [⟨some 17, none, (.move (.tmp 0))⟩,
  ⟨some 6, none, (.assign (.tmp 17))⟩] [6]
@[simp] noncomputable def F59_r5 : CC := .reg [⟨some 18, none, (.move (.tmp 0))⟩,
  ⟨some 19, none, (.call { callee := (.builtin .len), args := #[(.tmp 18)], argTypes := #[76] })⟩,
  ⟨some 8, none, (.assign (.tmp 19))⟩] [0, 1, 2, 7, 8]
@[simp] noncomputable def F59_r6 : CC := .reg [⟨some 20, none, (.move (.tmp 1))⟩,
  ⟨some 21, none, (.move (.tmp 8))⟩,
  ⟨some 22, none, (.binOp .eql 3 (.tmp 20) (.tmp 21) 3)⟩] [0, 1, 2, 7, 8, 22]
@[simp] noncomputable def F59_r7 : CC := .reg [⟨some 23, none, (.move (.tmp 0))⟩,
  ⟨some 24, none, (.move (.tmp 2))⟩,
  ⟨some 25, none, (.call { callee := (.builtin .append), args := #[(.tmp 23), (.tmp 24)], argTypes := #[76, 76] })⟩,
  ⟨some 6, none, (.assign (.tmp 25))⟩] [6]
@[simp] noncomputable def F59_r8 : CC := .reg [⟨some 26, none, (.move (.tmp 8))⟩,
  ⟨some 27, none, (.move (.tmp 7))⟩,
  ⟨some 28, none, (.binOp .add 3 (.tmp 26) (.tmp 27) 3)⟩,
  ⟨some 29, none, (.move (.tmp 0))⟩,
  ⟨some 30, none, (.call { callee := (.builtin .cap), args := #[(.tmp 29)], argTypes := #[76] })⟩,
  ⟨some 31, none, (.binOp .gtr 3 (.tmp 28) (.tmp 30) 3)⟩] [0, 1, 2, 7, 8, 31]
@[simp] noncomputable def F59_r9 : CC := .reg [⟨some 32, none, (.move (.tmp 0))⟩,
  ⟨some 33, none, (.move (.tmp 1))⟩,
  ⟨some 34, none, (.slice 76 (.tmp 32) none (some (.tmp 33)) none)⟩,
  ⟨some 35, none, (.move (.tmp 8))⟩,
  ⟨some 36, none, (.move (.tmp 7))⟩,
  ⟨some 37, none, (.binOp .add 3 (.tmp 35) (.tmp 36) 3)⟩,
  ⟨some 38, none, (.move (.tmp 1))⟩,
  ⟨some 39, none, (.binOp .sub 3 (.tmp 37) (.tmp 38) 3)⟩,
  ⟨some 40, none, (.call { callee := (.builtin .append), args := #[(.tmp 34), (.tmp 39)], argTypes := #[76, 3] })⟩,
  ⟨some 9, none, (.assign (.tmp 40))⟩] [0, 1, 2, 7, 9]
@[simp] noncomputable def F59_r10 : CC := .reg [⟨some 41, none, (.move (.tmp 9))⟩,
  ⟨some 42, none, (.move (.tmp 1))⟩,
  ⟨some 43, none, (.slice 76 (.tmp 41) (some (.tmp 42)) none none)⟩,
  ⟨some 44, none, (.move (.tmp 2))⟩,
  ⟨some 45, none, (.call { callee := (.builtin .copy), args := #[(.tmp 43), (.tmp 44)], argTypes := #[76, 76] })⟩] [0, 1, 7, 9]
@[simp] noncomputable def F59_r11 : CC := .drw [⟨0, ⟨some 46, none, (.move (.tmp 9))⟩, [], []⟩,
  ⟨1, ⟨some 47, none, (.move (.tmp 1))⟩, [], []⟩,
  ⟨2, ⟨some 48, none, (.move (.tmp 7))⟩, [], []⟩,
  ⟨3, ⟨some 49, none, (.binOp .add 3 (.tmp 47) (.tmp 48) 3)⟩, [], []⟩,
  ⟨4, ⟨some 50, none, (.slice 76 (.tmp 46) (some (.tmp 49)) none none)⟩, [], []⟩,
  ⟨5, ⟨some 51, none, (.move (.tmp 0))⟩, [], []⟩,
  ⟨6, ⟨some 52, none, (.move (.tmp 1))⟩, [], []⟩,
  ⟨7, ⟨some 53, none, (.slice 76 (.tmp 51) (some (.tmp 52)) none none)⟩, [], []⟩,
  ⟨8, ⟨some 54, none, (.call { callee := (.builtin .copy), args := #[(.tmp 50), (.tmp 53)], argTypes := #[76, 76] })⟩, [], []⟩] [46, 47, 48, 49, 50, 51, 52, 53, 54] [9]
@[simp] noncomputable def F59_r12 : CC := .reg [⟨some 55, none, (.move (.tmp 9))⟩,
  ⟨some 6, none, (.assign (.tmp 55))⟩] [6]
@[simp] noncomputable def F59_r13 : CC := .reg [⟨some 56, none, (.move (.tmp 0))⟩,
  ⟨some 57, none, (.move (.tmp 8))⟩,
  ⟨some 58, none, (.move (.tmp 7))⟩,
  ⟨some 59, none, (.binOp .add 3 (.tmp 57) (.tmp 58) 3)⟩,
  ⟨some 60, none, (.slice 76 (.tmp 56) none (some (.tmp 59)) none)⟩,
  ⟨some 0, none, (.assign (.tmp 60))⟩] [0, 1, 2, 7, 8]
@[simp] noncomputable def F59_r14 : CC := .reg [⟨some 61, none, (.move (.tmp 2))⟩,
  ⟨some 62, none, (.move (.tmp 0))⟩,
  ⟨some 63, none, (.move (.tmp 1))⟩,
  ⟨some 64, none, (.move (.tmp 7))⟩,
  ⟨some 65, none, (.binOp .add 3 (.tmp 63) (.tmp 64) 3)⟩,
  ⟨some 66, none, (.slice 76 (.tmp 62) (some (.tmp 65)) none none)⟩,
  ⟨some 67, none, (.call { callee := (.value (.func 64)), args := #[(.tmp 61), (.tmp 66)], argTypes := #[76, 76] })⟩,
  ⟨some 68, none, (.unOp .not 4 (.tmp 67))⟩] [0, 1, 2, 7, 8, 68]
@[simp] noncomputable def F59_r15 : CC := .drw [⟨0, ⟨some 69, none, (.move (.tmp 0))⟩, [], []⟩,
  ⟨1, ⟨some 70, none, (.move (.tmp 1))⟩, [], []⟩,
  ⟨2, ⟨some 71, none, (.move (.tmp 7))⟩, [], []⟩,
  ⟨3, ⟨some 72, none, (.binOp .add 3 (.tmp 70) (.tmp 71) 3)⟩, [], []⟩,
  ⟨4, ⟨some 73, none, (.slice 76 (.tmp 69) (some (.tmp 72)) none none)⟩, [], []⟩,
  ⟨5, ⟨some 74, none, (.move (.tmp 0))⟩, [], []⟩,
  ⟨6, ⟨some 75, none, (.move (.tmp 1))⟩, [], []⟩,
  ⟨7, ⟨some 76, none, (.slice 76 (.tmp 74) (some (.tmp 75)) none none)⟩, [], []⟩,
  ⟨8, ⟨some 77, none, (.call { callee := (.builtin .copy), args := #[(.tmp 73), (.tmp 76)], argTypes := #[76, 76] })⟩, [], []⟩] [69, 70, 71, 72, 73, 74, 75, 76, 77] [0, 1, 2]
@[simp] noncomputable def F59_r16 : CC := .reg [⟨some 78, none, (.move (.tmp 0))⟩,
  ⟨some 79, none, (.move (.tmp 1))⟩,
  ⟨some 80, none, (.slice 76 (.tmp 78) (some (.tmp 79)) none none)⟩,
  ⟨some 81, none, (.move (.tmp 2))⟩,
  ⟨some 82, none, (.call { callee := (.builtin .copy), args := #[(.tmp 80), (.tmp 81)], argTypes := #[76, 76] })⟩] [0]
@[simp] noncomputable def F59_r17 : CC := .reg [⟨some 83, none, (.move (.tmp 0))⟩,
  ⟨some 6, none, (.assign (.tmp 83))⟩] [6]
@[simp] noncomputable def F59_r18 : CC := .reg [⟨some 84, none, (.move (.tmp 0))⟩,
  ⟨some 85, none, (.move (.tmp 8))⟩,
  ⟨some 86, none, (.slice 76 (.tmp 84) (some (.tmp 85)) none none)⟩,
  ⟨some 87, none, (.move (.tmp 2))⟩,
  ⟨some 88, none, (.call { callee := (.builtin .copy), args := #[(.tmp 86), (.tmp 87)], argTypes := #[76, 76] })⟩] [0, 1, 7]
@[simp] noncomputable def F59_r19 : CC := .reg [⟨some 89, none, (.move (.tmp 0))⟩,
  ⟨some 90, none, (.move (.tmp 1))⟩,
  ⟨some 91, none, (.slice 76 (.tmp 89) (some (.tmp 90)) none none)⟩,
  ⟨some 92, none, (.move (.tmp 7))⟩,
  ⟨some 93, none, (.call { callee := (.value (.func 65)), args := #[(.tmp 91), (.tmp 92)], argTypes := #[76, 3] })⟩] [0]
@[simp] noncomputable def F59_r20 : CC := .reg [⟨some 94, none, (.move (.tmp 0))⟩,
  ⟨some 6, none, (.assign (.tmp 94))⟩] [6]
noncomputable def F59 : CC := (.seq F59_r0 (.seq F59_r1 (.seq F59_r2 (.seq (.seq F59_r3 (.cond (.tmp 16) (.seq F59_r4 .ret) .skip)) (.seq F59_r5 (.seq (.seq F59_r6 (.cond (.tmp 22) (.seq F59_r7 .ret) .skip)) (.seq (.seq F59_r8 (.cond (.tmp 31) (.seq F59_r9 (.seq F59_r10 (.seq F59_r11 (.seq F59_r12 .ret)))) .skip)) (.seq F59_r13 (.seq (.seq F59_r14 (.cond (.tmp 68) (.seq F59_r15 (.seq F59_r16 (.seq F59_r17 .ret))) .skip)) (.seq F59_r18 (.seq F59_r19 (.seq F59_r20 .ret))))))))))))
noncomputable def F59_inf : Nat → RI
  | 0 => ⟨[0, 1, 2], [], []⟩
  | 1 => ⟨[0, 1, 2], [], []⟩
  | 2 => ⟨[0, 1, 2, 7], [], []⟩
  | 3 => ⟨[0, 1, 2, 7, 16], [], []⟩
  | 4 => ⟨[6], [], []⟩
  | 5 => ⟨[0, 1, 2, 7, 8], [], []⟩
  | 6 => ⟨[0, 1, 2, 7, 8, 22], [], []⟩
  | 7 => ⟨[6], [], []⟩
  | 8 => ⟨[0, 1, 2, 7, 8, 31], [], []⟩
  | 9 => ⟨[0, 1, 2, 7, 9], [], []⟩
  | 10 => ⟨[0, 1, 7, 9], [], []⟩
  | 11 => ⟨[9], [0, 0, 0, 6, 15, 0, 0, 96, 255], [(0, []), (1, []), (2, []), (3, []), (4, []), (5, []), (6, []), (7, []), (8, [])]⟩
  | 12 => ⟨[6], [], []⟩
  | 13 => ⟨[0, 1, 2, 7, 8], [], []⟩
  | 14 => ⟨[0, 1, 2, 7, 8, 68], [], []⟩
  | 15 => ⟨[0, 1, 2], [0, 0, 0, 6, 15, 0, 0, 96, 255], [(0, []), (1, []), (2, []), (3, []), (4, []), (5, []), (6, []), (7, []), (8, [])]⟩
  | 16 => ⟨[0], [], []⟩
  | 17 => ⟨[6], [], []⟩
  | 18 => ⟨[0, 1, 7], [], []⟩
  | 19 => ⟨[0], [], []⟩
  | 20 => ⟨[6], [], []⟩
  | _ => ⟨[], [], []⟩
noncomputable def F59_c : Code := Try.f59.body.getD .skip
theorem F59_b : Try.f59.body = some F59_c := by kernel_rfl
theorem F59_rs : Try.f59.results.toList = ([.tmp 6] : List ResultVar) := by kernel_rfl
theorem F59_n : Try.f59.ntmps = 95 := by kernel_rfl
theorem F59_ok : toCC [] 95 F59_inf F59_c = some F59 := by kernel_rfl
theorem F59_in {args : List AV} {G : Hp} {post : AV → Hp → Prop} (ha : args.all AV.plain = true) (hn : args.length ≤ 95) (h : BDs args → awp Try.prog [] F59 (AEnds Try.prog [.tmp 6] post) (initT args) G) : ACalls Try.prog 59 args G post :=
  acalls_cc Try.func59 F59_b F59_rs F59_n F59_ok mixed ha hn h

/- 60 slices.Delete[[]ostiary/shelf.slot[string, int],ostiary/shelf.slot[string, int]] -/
@[simp] noncomputable def F60_r0 : CC := .reg [⟨some 6, none, (.assign (.const (.slice none 0 0)))⟩] [0, 1, 2]
@[simp] noncomputable def F60_r1 : CC := .reg [⟨some 8, none, (.move (.tmp 0))⟩,
  ⟨some 9, none, (.move (.tmp 1))⟩,
  ⟨some 10, none, (.move (.tmp 2))⟩,
  ⟨some 11, none, (.move (.tmp 0))⟩,
  ⟨some 12, none, (.call { callee := (.builtin .len), args := #[(.tmp 11)], argTypes := #[76] })⟩,
  ⟨some 13, none, (.slice 76 (.tmp 8) (some (.tmp 9)) (some (.tmp 10)) (some (.tmp 12)))⟩] [0, 1, 2]
@[simp] noncomputable def F60_r2 : CC := .reg [⟨some 14, none, (.move (.tmp 1))⟩,
  ⟨some 15, none, (.move (.tmp 2))⟩,
  ⟨some 16, none, (.binOp .eql 3 (.tmp 14) (.tmp 15) 3)⟩] [0, 1, 2, 16]
@[simp] noncomputable def F60_r3 : CC := .reg [⟨some 17, none, (.move (.tmp 0))⟩,
  ⟨some 6, none, (.assign (.tmp 17))⟩] [6]
@[simp] noncomputable def F60_r4 : CC := .reg [⟨some 18, none, (.move (.tmp 0))⟩,
  ⟨some 19, none, (.call { callee := (.builtin .len), args := #[(.tmp 18)], argTypes := #[76] })⟩,
  ⟨some 7, none, (.assign (.tmp 19))⟩] [0, 1, 2, 7]
@[simp] noncomputable def F60_r5 : CC := .drw [⟨0, ⟨some 20, none, (.move (.tmp 0))⟩, [], []⟩,
  ⟨1, ⟨some 21, none, (.move (.tmp 1))⟩, [], []⟩,
  ⟨2, ⟨some 22, none, (.slice 76 (.tmp 20) none (some (.tmp 21)) none)⟩, [], []⟩,
  ⟨3, ⟨some 23, none, (.move (.tmp 0))⟩, [], []⟩,
  ⟨4, ⟨some 24, none, (.move (.tmp 2))⟩, [], []⟩,
  ⟨5, ⟨some 25, none, (.slice 76 (.tmp 23) (some (.tmp 24)) none none)⟩, [], []⟩,
  ⟨6, ⟨some 26, none, (.call { callee := (.builtin .append), args := #[(.tmp 22), (.tmp 25)], argTypes := #[76, 76] })⟩, [], []⟩,
  ⟨7, ⟨some 0, none, (.assign (.tmp 26))⟩, [], []⟩] [20, 21, 22, 23, 24, 25, 26, 0] [0, 7]
@[simp] noncomputable def F60_r6 : CC := .reg [⟨some 27, none, (.move (.tmp 0))⟩,
  ⟨some 28, none, (.move (.tmp 0))⟩,
  ⟨some 29, none, (.call { callee := (.builtin .len), args := #[(.tmp 28)], argTypes := #[76] })⟩,
  ⟨some 30, none, (.move (.tmp 7))⟩,
  ⟨some 31, none, (.slice 76 (.tmp 27) (some (.tmp 29)) (some (.tmp 30)) none)⟩,
  ⟨none, none, (.call { callee := (.builtin .clear), args := #[(.tmp 31)], argTypes := #[76] })⟩] [0]
@[simp] noncomputable def F60_r7 : CC := .reg [⟨some 32, none, (.move (.tmp 0))⟩,
  ⟨some 6, none, (.assign (.tmp 32))⟩] [6]
noncomputable def F60 : CC := (.seq F60_r0 (.seq F60_r1 (.seq (.seq F60_r2 (.cond (.tmp 16) (.seq F60_r3 .ret) .skip)) (.seq F60_r4 (.seq F60_r5 (.seq F60_r6 (.seq F60_r7 .ret)))))))
noncomputable def F60_inf : Nat → RI
  | 0 => ⟨[0, 1, 2], [], []⟩
  | 1 => ⟨[0, 1, 2], [], []⟩
  | 2 => ⟨[0, 1, 2, 16], [], []⟩
  | 3 => ⟨[6], [], []⟩
  | 4 => ⟨[0, 1, 2, 7], [], []⟩
  | 5 => ⟨[0, 7], [0, 0, 3, 0, 0, 24, 63, 127], [(0, []), (1, []), (2, []), (3, []), (4, []), (5, []), (6, []), (7, [])]⟩
  | 6 => ⟨[0], [], []⟩
  | 7 => ⟨[6], [], []⟩
  | _ => ⟨[], [], []⟩
noncomputable def F60_c : Code := Try.f60.body.getD .skip
theorem F60_b : Try.f60.body = some F60_c := by kernel_rfl
theorem F60_rs : Try.f60.results.toList = ([.tmp 6] : List ResultVar) := by kernel_rfl
theorem F60_n : Try.f60.ntmps = 33 := by kernel_rfl
theorem F60_ok : toCC [] 33 F60_inf F60_c = some F60 := by kernel_rfl
theorem F60_in {args : List AV} {G : Hp} {post : AV → Hp → Prop} (ha : args.all AV.plain = true) (hn : args.length ≤ 33) (h : BDs args → awp Try.prog [] F60 (AEnds Try.prog [.tmp 6] post) (initT args) G) : ACalls Try.prog 60 args G post :=
  acalls_cc Try.func60 F60_b F60_rs F60_n F60_ok mixed ha hn h

/- 61 slices.rotateLeft[ostiary/shelf.slot[int, int]] -/
@[simp] noncomputable def F61_r0 : CC := .reg [⟨some 4, none, (.move (.tmp 0))⟩,
  ⟨some 5, none, (.move (.tmp 1))⟩,
  ⟨some 6, none, (.slice 59 (.tmp 4) none (some (.tmp 5)) none)⟩,
  ⟨some 7, none, (.call { callee := (.value (.func 66)), args := #[(.tmp 6)], argTypes := #[59] })⟩] [0, 1]
@[simp] noncomputable def F61_r1 : CC := .reg [⟨some 8, none, (.move (.tmp 0))⟩,
  ⟨some 9, none, (.move (.tmp 1))⟩,
  ⟨some 10, none, (.slice 59 (.tmp 8) (some (.tmp 9)) none none)⟩,
  ⟨some 11, none, (.call { callee := (.value (.func 66)), args := #[(.tmp 10)], argTypes := #[59] })⟩] [0]
@[simp] noncomputable def F61_r2 : CC := .reg [⟨some 12, none, (.move (.tmp 0))⟩,
  ⟨some 13, none, (.call { callee := (.value (.func 66)), args := #[(.tmp 12)], argTypes := #[59] })⟩] []
noncomputable def F61 : CC := (.seq F61_r0 (.seq F61_r1 F61_r2))
noncomputable def F61_inf : Nat → RI
  | 0 => ⟨[0, 1], [], []⟩
  | 1 => ⟨[0], [], []⟩
  | 2 => ⟨[], [], []⟩
  | _ => ⟨[], [], []⟩
noncomputable def F61_c : Code := Try.f61.body.getD .skip
theorem F61_b : Try.f61.body = some F61_c := by kernel_rfl
theorem F61_rs : Try.f61.results.toList = ([] : List ResultVar) := by kernel_rfl
theorem F61_n : Try.f61.ntmps = 14 := by kernel_rfl
theorem F61_ok : toCC [] 14 F61_inf F61_c = some F61 := by kernel_rfl
theorem F61_in {args : List AV} {G : Hp} {post : AV → Hp → Prop} (ha : args.all AV.plain = true) (hn : args.length ≤ 14) (h : BDs args → awp Try.prog [] F61 (AEnds Try.prog [] post) (initT args) G) : ACalls Try.prog 61 args G post :=
  acalls_cc Try.func61 F61_b F61_rs F61_n F61_ok mixed ha hn h

/- 63 slices.rotateRight[ostiary/shelf.slot[int, string]] -/
@[simp] noncomputable def F63_r0 : CC := .reg [⟨some 4, none, (.move (.tmp 0))⟩,
  ⟨some 5, none, (.move (.tmp 0))⟩,
  ⟨some 6, none, (.call { callee := (.builtin .len), args := #[(.tmp 5)], argTypes := #[93] })⟩,
  ⟨some 7, none, (.move (.tmp 1))⟩,
  ⟨some 8, none, (.binOp .sub 3 (.tmp 6) (.tmp 7) 3)⟩,
  ⟨some 9, none, (.call { callee := (.value (.func 67)), args := #[(.tmp 4), (.tmp 8)], argTypes := #[93, 3] })⟩] []
noncomputable def F63 : CC := F63_r0
noncomputable def F63_inf : Nat → RI
  | 0 => ⟨[], [], []⟩
  | _ => ⟨[], [], []⟩
noncomputable def F63_c : Code := Try.f63.body.getD .skip
theorem F63_b : Try.f63.body = some F63_c := by kernel_rfl
theorem F63_rs : Try.f63.results.toList = ([] : List ResultVar) := by kernel_rfl
theorem F63_n : Try.f63.ntmps = 10 := by kernel_rfl
theorem F63_ok : toCC [] 10 F63_inf F63_c = some F63 := by kernel_rfl
theorem F63_in {args : List AV} {G : Hp} {post : AV → Hp → Prop} (ha : args.all AV.plain = true) (hn : args.length ≤ 10) (h : BDs args → awp Try.prog [] F63 (AEnds Try.prog [] post) (initT args) G) : ACalls Try.prog 63 args G post :=
  acalls_cc Try.func63 F63_b F63_rs F63_n F63_ok mixed ha hn h

/- 65 slices.rotateRight[ostiary/shelf.slot[string, int]] -/
@[simp] noncomputable def F65_r0 : CC := .reg [⟨some 4, none, (.move (.tmp 0))⟩,
  ⟨some 5, none, (.move (.tmp 0))⟩,
  ⟨some 6, none, (.call { callee := (.builtin .len), args := #[(.tmp 5)], argTypes := #[76] })⟩,
  ⟨some 7, none, (.move (.tmp 1))⟩,
  ⟨some 8, none, (.binOp .sub 3 (.tmp 6) (.tmp 7) 3)⟩,
  ⟨some 9, none, (.call { callee := (.value (.func 68)), args := #[(.tmp 4), (.tmp 8)], argTypes := #[76, 3] })⟩] []
noncomputable def F65 : CC := F65_r0
noncomputable def F65_inf : Nat → RI
  | 0 => ⟨[], [], []⟩
  | _ => ⟨[], [], []⟩
noncomputable def F65_c : Code := Try.f65.body.getD .skip
theorem F65_b : Try.f65.body = some F65_c := by kernel_rfl
theorem F65_rs : Try.f65.results.toList = ([] : List ResultVar) := by kernel_rfl
theorem F65_n : Try.f65.ntmps = 10 := by kernel_rfl
theorem F65_ok : toCC [] 10 F65_inf F65_c = some F65 := by kernel_rfl
theorem F65_in {args : List AV} {G : Hp} {post : AV → Hp → Prop} (ha : args.all AV.plain = true) (hn : args.length ≤ 10) (h : BDs args → awp Try.prog [] F65 (AEnds Try.prog [] post) (initT args) G) : ACalls Try.prog 65 args G post :=
  acalls_cc Try.func65 F65_b F65_rs F65_n F65_ok mixed ha hn h
end Go.Proofs.Yteifakkknhfdpaa
