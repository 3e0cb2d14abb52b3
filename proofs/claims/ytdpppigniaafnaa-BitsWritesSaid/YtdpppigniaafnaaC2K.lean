import Derived.Test.YtdpppigniaafnaaC0K
set_option linter.unusedVariables false
set_option linter.unusedSimpArgs false
set_option maxRecDepth 100000
namespace Go.Proofs.Ytdpppigniaafnaa
open Go Go.Al

/- 15 ostiary/ostiaryref01.Val -/
@[simp] noncomputable def F15_r0 : CC := .reg [⟨some 2, none, (.assign (.const (.int .u64 0)))⟩] [0]
@[simp] noncomputable def F15_r1 : CC := .reg [⟨some 3, none, (.assign (.const (.int .u64 0)))⟩] [0, 3]
@[simp] noncomputable def F15_r2 : CC := .reg [⟨some 6, none, (.move (.tmp 0))⟩,
  ⟨some 7, none, (.call { callee := (.builtin .len), args := #[(.tmp 6)], argTypes := #[22] })⟩,
  ⟨some 8, none, (.move (.const (.int .i64 0)))⟩] [3, 6, 7, 8]
@[simp] noncomputable def F15_r3 : CC := .reg [⟨some 9, none, (.binOp .lss 3 (.tmp 8) (.tmp 7) 3)⟩] [3, 6, 7, 8, 9]
@[simp] noncomputable def F15_r4 : CC := .reg [⟨some 10, none, (.indexAddr 22 (.tmp 6) (.tmp 8))⟩,
  ⟨some 11, none, (.load 3 (.tmp 10))⟩,
  ⟨some 5, none, (.assign (.tmp 11))⟩] [3, 5, 6, 7, 8]
@[simp] noncomputable def F15_r5 : CC := .reg [⟨some 12, none, (.move (.tmp 3))⟩,
  ⟨some 13, none, (.binOp .mul 29 (.const (.int .u64 2)) (.tmp 12) 29)⟩,
  ⟨some 14, none, (.move (.tmp 5))⟩,
  ⟨some 15, none, (.convert 3 29 (.tmp 14))⟩,
  ⟨some 16, none, (.binOp .add 29 (.tmp 13) (.tmp 15) 29)⟩,
  ⟨some 3, none, (.assign (.tmp 16))⟩] [3, 6, 7, 8]
@[simp] noncomputable def F15_r6 : CC := .reg [⟨some 17, none, (.binOp .add 3 (.tmp 8) (.const (.int .i64 1)) 3)⟩,
  ⟨some 8, none, (.move (.tmp 17))⟩] [3, 6, 7, 8]
noncomputable def F15_l0 : CC := (.seq F15_r3 (.seq (.cond (.tmp 9) .skip (.exit 0)) (.seq (.block 1 (.seq F15_r4 F15_r5)) F15_r6)))
@[simp] noncomputable def F15_r7 : CC := .reg [⟨some 18, none, (.move (.tmp 3))⟩,
  ⟨some 2, none, (.assign (.tmp 18))⟩] [2]
noncomputable def F15 : CC := (.seq F15_r0 (.seq F15_r1 (.seq (.seq F15_r2 (.block 0 (.loop F15_l0))) (.seq F15_r7 .ret))))
noncomputable def F15_inf : Nat → RI
  | 0 => ⟨[0], [], []⟩
  | 1 => ⟨[0, 3], [], []⟩
  | 2 => ⟨[3, 6, 7, 8], [], []⟩
  | 3 => ⟨[3, 6, 7, 8, 9], [], []⟩
  | 4 => ⟨[3, 5, 6, 7, 8], [], []⟩
  | 5 => ⟨[3, 6, 7, 8], [], []⟩
  | 6 => ⟨[3, 6, 7, 8], [], []⟩
  | 7 => ⟨[2], [], []⟩
  | _ => ⟨[], [], []⟩
noncomputable def F15_c : Code := Try.f15.body.getD .skip
theorem F15_b : Try.f15.body = some F15_c := by kernel_rfl
theorem F15_rs : Try.f15.results.toList = ([.tmp 2] : List ResultVar) := by kernel_rfl
theorem F15_n : Try.f15.ntmps = 19 := by kernel_rfl
theorem F15_ok : toCC [] 19 F15_inf F15_c = some F15 := by kernel_rfl
theorem F15_in {args : List AV} {G : Hp} {post : AV → Hp → Prop} (ha : args.all AV.plain = true) (hn : args.length ≤ 19) (h : BDs args → awp Try.prog [] F15 (AEnds Try.prog [.tmp 2] post) (initT args) G) : ACalls Try.prog 15 args G post :=
  acalls_cc Try.func15 F15_b F15_rs F15_n F15_ok mixed ha hn h

/- 16 ostiary/ostiaryref01.Num -/
@[simp] noncomputable def F16_r0 : CC := .reg [⟨some 4, none, (.assign (.const (.slice none 0 0)))⟩] [0, 1]
@[simp] noncomputable def F16_r1 : CC := .reg [⟨some 7, none, (.move (.tmp 0))⟩,
  ⟨some 8, none, (.makeSlice 22 (.tmp 7) (.tmp 7))⟩,
  ⟨some 5, none, (.assign (.tmp 8))⟩] [0, 1, 5]
@[simp] noncomputable def F16_r2 : CC := .reg [⟨some 9, none, (.move (.tmp 0))⟩,
  ⟨some 10, none, (.binOp .sub 3 (.tmp 9) (.const (.int .i64 1)) 3)⟩,
  ⟨some 6, none, (.assign (.tmp 10))⟩] [1, 5, 6]
@[simp] noncomputable def F16_r3 : CC := .reg [⟨some 11, none, (.move (.tmp 6))⟩,
  ⟨some 12, none, (.binOp .geq 3 (.tmp 11) (.const (.int .i64 0)) 3)⟩] [1, 5, 6, 12]
@[simp] noncomputable def F16_r5 : CC := .reg [⟨some 15, none, (.move (.tmp 5))⟩,
  ⟨some 16, none, (.move (.tmp 6))⟩,
  ⟨some 17, none, (.move (.tmp 1))⟩,
  ⟨some 18, none, (.binOp .rem 29 (.tmp 17) (.const (.int .u64 2)) 29)⟩,
  ⟨some 19, none, (.convert 29 3 (.tmp 18))⟩,
  ⟨some 20, none, (.indexAddr 22 (.tmp 15) (.tmp 16))⟩,
  ⟨none, none, (.store 3 (.tmp 20) (.tmp 19))⟩] [1, 5, 6]
@[simp] noncomputable def F16_r6 : CC := .reg [⟨some 21, none, (.move (.tmp 1))⟩,
  ⟨some 22, none, (.binOp .quo 29 (.tmp 21) (.const (.int .u64 2)) 29)⟩,
  ⟨some 1, none, (.assign (.tmp 22))⟩] [1, 5, 6]
@[simp] noncomputable def F16_r4 : CC := .reg [⟨some 13, none, (.move (.tmp 6))⟩,
  ⟨some 14, none, (.binOp .sub 3 (.tmp 13) (.const (.int .i64 1)) 3)⟩,
  ⟨some 6, none, (.assign (.tmp 14))⟩] [1, 5, 6]
noncomputable def F16_l0 : CC := (.seq (.seq F16_r3 (.cond (.tmp 12) .skip (.exit 0))) (.seq (.block 1 (.seq F16_r5 F16_r6)) F16_r4))
@[simp] noncomputable def F16_r7 : CC := .reg [⟨some 23, none, (.move (.tmp 5))⟩,
  ⟨some 4, none, (.assign (.tmp 23))⟩] [4]
noncomputable def F16 : CC := (.seq F16_r0 (.seq F16_r1 (.seq (.seq F16_r2 (.block 0 (.loop F16_l0))) (.seq F16_r7 .ret))))
noncomputable def F16_inf : Nat → RI
  | 0 => ⟨[0, 1], [], []⟩
  | 1 => ⟨[0, 1, 5], [], []⟩
  | 2 => ⟨[1, 5, 6], [], []⟩
  | 3 => ⟨[1, 5, 6, 12], [], []⟩
  | 5 => ⟨[1, 5, 6], [], []⟩
  | 6 => ⟨[1, 5, 6], [], []⟩
  | 4 => ⟨[1, 5, 6], [], []⟩
  | 7 => ⟨[4], [], []⟩
  | _ => ⟨[], [], []⟩
noncomputable def F16_c : Code := Try.f16.body.getD .skip
theorem F16_b : Try.f16.body = some F16_c := by kernel_rfl
theorem F16_rs : Try.f16.results.toList = ([.tmp 4] : List ResultVar) := by kernel_rfl
theorem F16_n : Try.f16.ntmps = 24 := by kernel_rfl
theorem F16_ok : toCC [8] 24 F16_inf F16_c = some F16 := by kernel_rfl
theorem F16_in {args : List AV} {G : Hp} {post : AV → Hp → Prop} (ha : args.all AV.plain = true) (hn : args.length ≤ 24) (h : BDs args → awp Try.prog [8] F16 (AEnds Try.prog [.tmp 4] post) (initT args) G) : ACalls Try.prog 16 args G post :=
  acalls_cc Try.func16 F16_b F16_rs F16_n F16_ok mixed ha hn h

/- 17 (*ostiary/bits.In).Err -/
@[simp] noncomputable def F17_r0 : CC := .reg [⟨some 2, none, (.assign (.const (.int .i64 0)))⟩] [0]
@[simp] noncomputable def F17_r1 : CC := .reg [⟨some 3, none, (.move (.tmp 0))⟩,
  ⟨some 4, none, (.binOp .eql 30 (.tmp 3) (.const (.pointer none)) 30)⟩] [0, 4]
@[simp] noncomputable def F17_r2 : CC := .reg [⟨some 2, none, (.assign (.const (.int .i64 11)))⟩] [2]
@[simp] noncomputable def F17_r3 : CC := .reg [⟨some 5, none, (.move (.tmp 0))⟩,
  ⟨some 6, none, (.nilCheck (.tmp 5))⟩,
  ⟨some 7, none, (.fieldAddr 71 (.tmp 6) 2)⟩,
  ⟨some 8, none, (.load 27 (.tmp 7))⟩,
  ⟨some 2, none, (.assign (.tmp 8))⟩] [2]
noncomputable def F17 : CC := (.seq F17_r0 (.seq (.seq F17_r1 (.cond (.tmp 4) (.seq F17_r2 .ret) .skip)) (.seq F17_r3 .ret)))
noncomputable def F17_inf : Nat → RI
  | 0 => ⟨[0], [], []⟩
  | 1 => ⟨[0, 4], [], []⟩
  | 2 => ⟨[2], [], []⟩
  | 3 => ⟨[2], [], []⟩
  | _ => ⟨[], [], []⟩
noncomputable def F17_c : Code := Try.f17.body.getD .skip
theorem F17_b : Try.f17.body = some F17_c := by kernel_rfl
theorem F17_rs : Try.f17.results.toList = ([.tmp 2] : List ResultVar) := by kernel_rfl
theorem F17_n : Try.f17.ntmps = 9 := by kernel_rfl
theorem F17_ok : toCC [] 9 F17_inf F17_c = some F17 := by kernel_rfl
theorem F17_in {args : List AV} {G : Hp} {post : AV → Hp → Prop} (ha : args.all AV.plain = true) (hn : args.length ≤ 9) (h : BDs args → awp Try.prog [] F17 (AEnds Try.prog [.tmp 2] post) (initT args) G) : ACalls Try.prog 17 args G post :=
  acalls_cc Try.func17 F17_b F17_rs F17_n F17_ok mixed ha hn h

/- 18 (*ostiary/bits.In).Left -/
@[simp] noncomputable def F18_r0 : CC := .reg [⟨some 2, none, (.assign (.const (.int .i64 0)))⟩] [0]
@[simp] noncomputable def F18_r1 : CC := .reg [⟨some 3, none, (.move (.tmp 0))⟩,
  ⟨some 4, none, (.binOp .eql 30 (.tmp 3) (.const (.pointer none)) 30)⟩,
  ⟨some 5, none, (.move (.tmp 4))⟩,
  ⟨some 6, some (5, false), (.move (.tmp 0))⟩,
  ⟨some 7, some (5, false), (.nilCheck (.tmp 6))⟩,
  ⟨some 8, some (5, false), (.fieldAddr 71 (.tmp 7) 2)⟩,
  ⟨some 9, some (5, false), (.load 27 (.tmp 8))⟩,
  ⟨some 10, some (5, false), (.binOp .neq 27 (.tmp 9) (.const (.int .i64 0)) 27)⟩,
  ⟨some 11, none, (.pick (.tmp 5) (.const (.bool true)) (.tmp 10))⟩] [0, 11]
@[simp] noncomputable def F18_r2 : CC := .reg [⟨some 2, none, (.assign (.const (.int .i64 0)))⟩] [2]
@[simp] noncomputable def F18_r3 : CC := .drw [⟨0, ⟨some 12, none, (.move (.tmp 0))⟩, [], []⟩,
  ⟨1, ⟨some 13, none, (.nilCheck (.tmp 12))⟩, [], []⟩,
  ⟨2, ⟨some 14, none, (.fieldAddr 71 (.tmp 13) 0)⟩, [], []⟩,
  ⟨3, ⟨some 15, none, (.load 32 (.tmp 14))⟩, [], []⟩,
  ⟨4, ⟨some 16, none, (.call { callee := (.builtin .len), args := #[(.tmp 15)], argTypes := #[32] })⟩, [], []⟩,
  ⟨5, ⟨some 17, none, (.binOp .mul 3 (.const (.int .i64 8)) (.tmp 16) 3)⟩, [], []⟩,
  ⟨6, ⟨some 18, none, (.move (.tmp 0))⟩, [], []⟩,
  ⟨7, ⟨some 19, none, (.nilCheck (.tmp 18))⟩, [], []⟩,
  ⟨8, ⟨some 20, none, (.fieldAddr 71 (.tmp 19) 1)⟩, [], []⟩,
  ⟨9, ⟨some 21, none, (.load 3 (.tmp 20))⟩, [], []⟩,
  ⟨10, ⟨some 22, none, (.binOp .sub 3 (.tmp 17) (.tmp 21) 3)⟩, [], []⟩,
  ⟨11, ⟨some 2, none, (.assign (.tmp 22))⟩, [], []⟩] [12, 13, 14, 15, 16, 17, 18, 19, 20, 21, 22, 2] [2]
noncomputable def F18 : CC := (.seq F18_r0 (.seq (.seq F18_r1 (.cond (.tmp 11) (.seq F18_r2 .ret) .skip)) (.seq F18_r3 .ret)))
noncomputable def F18_inf : Nat → RI
  | 0 => ⟨[0], [], []⟩
  | 1 => ⟨[0, 11], [], []⟩
  | 2 => ⟨[2], [], []⟩
  | 3 => ⟨[2], [0, 1, 3, 7, 15, 31, 0, 64, 192, 448, 1023, 2047], [(0, []), (1, []), (2, []), (3, []), (4, []), (5, []), (6, []), (7, []), (8, []), (9, []), (10, []), (11, [])]⟩
  | _ => ⟨[], [], []⟩
noncomputable def F18_c : Code := Try.f18.body.getD .skip
theorem F18_b : Try.f18.body = some F18_c := by kernel_rfl
theorem F18_rs : Try.f18.results.toList = ([.tmp 2] : List ResultVar) := by kernel_rfl
theorem F18_n : Try.f18.ntmps = 23 := by kernel_rfl
theorem F18_ok : toCC [] 23 F18_inf F18_c = some F18 := by kernel_rfl
theorem F18_in {args : List AV} {G : Hp} {post : AV → Hp → Prop} (ha : args.all AV.plain = true) (hn : args.length ≤ 23) (h : BDs args → awp Try.prog [] F18 (AEnds Try.prog [.tmp 2] post) (initT args) G) : ACalls Try.prog 18 args G post :=
  acalls_cc Try.func18 F18_b F18_rs F18_n F18_ok mixed ha hn h

/- 19 ostiary/ostiarylaw01.awake -/
@[simp] noncomputable def F19_r0 : CC := .reg [⟨some 0, none, (.assign (.const (.bool false)))⟩] []
@[simp] noncomputable def F19_r1 : CC := .reg [⟨some 5, none, (.call { callee := (.value (.func 9)), args := #[(.const (.slice none 0 0))], argTypes := #[65] })⟩,
  ⟨some 1, none, (.assign (.tmp 5))⟩] [1]
@[simp] noncomputable def F19_r2 : CC := .reg [⟨some 6, none, (.move (.tmp 1))⟩,
  ⟨some 7, none, (.buildSlice 23 2 #[(0, (.const (.int .u64 4))), (1, (.const (.int .u64 5)))])⟩,
  ⟨some 8, none, (.call { callee := (.value (.func 11)), args := #[(.tmp 6), (.const (.int .i64 4)), (.tmp 7)], argTypes := #[24, 3, 23] })⟩,
  ⟨some 9, none, (.move (.tmp 1))⟩,
  ⟨some 10, none, (.buildSlice 23 1 #[(0, (.const (.int .u64 1)))])⟩,
  ⟨some 11, none, (.call { callee := (.value (.func 11)), args := #[(.tmp 9), (.const (.int .i64 3)), (.tmp 10)], argTypes := #[24, 3, 23] })⟩,
  ⟨some 2, none, (.assign (.tmp 8))⟩,
  ⟨some 3, none, (.assign (.tmp 11))⟩] [1, 2, 3]
@[simp] noncomputable def F19_r3 : CC := .reg [⟨some 12, none, (.move (.tmp 1))⟩,
  ⟨some 13, none, (.call { callee := (.value (.func 13)), args := #[(.tmp 12)], argTypes := #[24] })⟩,
  ⟨some 14, none, (.call { callee := (.value (.func 12)), args := #[(.tmp 13)], argTypes := #[32] })⟩,
  ⟨some 4, none, (.assign (.tmp 14))⟩] [1, 2, 3, 4]
@[simp] noncomputable def F19_r4 : CC := .reg [⟨some 15, none, (.move (.tmp 2))⟩,
  ⟨some 16, none, (.binOp .eql 27 (.tmp 15) (.const (.int .i64 0)) 27)⟩,
  ⟨some 17, none, (.move (.tmp 16))⟩,
  ⟨some 18, some (17, true), (.move (.tmp 3))⟩,
  ⟨some 19, some (17, true), (.binOp .eql 27 (.tmp 18) (.const (.int .i64 0)) 27)⟩,
  ⟨some 20, none, (.pick (.tmp 17) (.tmp 19) (.const (.bool false)))⟩,
  ⟨some 21, none, (.move (.tmp 20))⟩,
  ⟨some 22, some (21, true), (.move (.tmp 1))⟩,
  ⟨some 23, some (21, true), (.call { callee := (.value (.func 22)), args := #[(.tmp 22)], argTypes := #[24] })⟩,
  ⟨some 24, some (21, true), (.binOp .eql 3 (.tmp 23) (.const (.int .i64 11)) 3)⟩,
  ⟨some 25, none, (.pick (.tmp 21) (.tmp 24) (.const (.bool false)))⟩,
  ⟨some 26, none, (.move (.tmp 25))⟩,
  ⟨some 27, some (26, true), (.move (.tmp 1))⟩,
  ⟨some 28, some (26, true), (.call { callee := (.value (.func 13)), args := #[(.tmp 27)], argTypes := #[24] })⟩,
  ⟨some 29, some (26, true), (.convert 32 9 (.tmp 28))⟩,
  ⟨some 30, some (26, true), (.binOp .eql 9 (.tmp 29) (.const (.string { data := #[69, 32] })) 9)⟩,
  ⟨some 31, none, (.pick (.tmp 26) (.tmp 30) (.const (.bool false)))⟩,
  ⟨some 32, none, (.move (.tmp 31))⟩,
  ⟨some 33, some (32, true), (.move (.tmp 4))⟩,
  ⟨some 34, some (32, true), (.call { callee := (.value (.func 14)), args := #[(.tmp 33), (.const (.int .i64 8))], argTypes := #[30, 3] })⟩,
  ⟨some 35, some (32, true), (.binOp .eql 29 (.tmp 34) (.const (.int .u64 69)) 29)⟩,
  ⟨some 36, none, (.pick (.tmp 32) (.tmp 35) (.const (.bool false)))⟩,
  ⟨some 37, none, (.move (.tmp 36))⟩,
  ⟨some 38, some (37, true), (.move (.tmp 4))⟩,
  ⟨some 39, some (37, true), (.call { callee := (.value (.func 14)), args := #[(.tmp 38), (.const (.int .i64 3))], argTypes := #[30, 3] })⟩,
  ⟨some 40, some (37, true), (.binOp .eql 29 (.tmp 39) (.const (.int .u64 1)) 29)⟩,
  ⟨some 41, none, (.pick (.tmp 37) (.tmp 40) (.const (.bool false)))⟩,
  ⟨some 42, none, (.move (.tmp 41))⟩,
  ⟨some 43, some (42, true), (.move (.tmp 4))⟩,
  ⟨some 44, some (42, true), (.call { callee := (.value (.func 18)), args := #[(.tmp 43)], argTypes := #[30] })⟩,
  ⟨some 45, some (42, true), (.binOp .eql 3 (.tmp 44) (.const (.int .i64 5)) 3)⟩,
  ⟨some 46, none, (.pick (.tmp 42) (.tmp 45) (.const (.bool false)))⟩,
  ⟨some 0, none, (.assign (.tmp 46))⟩] [0]
noncomputable def F19 : CC := (.seq F19_r0 (.seq F19_r1 (.seq F19_r2 (.seq F19_r3 (.seq F19_r4 .ret)))))
noncomputable def F19_inf : Nat → RI
  | 0 => ⟨[], [], []⟩
  | 1 => ⟨[1], [], []⟩
  | 2 => ⟨[1, 2, 3], [], []⟩
  | 3 => ⟨[1, 2, 3, 4], [], []⟩
  | 4 => ⟨[0], [], []⟩
  | _ => ⟨[], [], []⟩
noncomputable def F19_c : Code := Try.f19.body.getD .skip
theorem F19_b : Try.f19.body = some F19_c := by kernel_rfl
theorem F19_rs : Try.f19.results.toList = ([.tmp 0] : List ResultVar) := by kernel_rfl
theorem F19_n : Try.f19.ntmps = 47 := by kernel_rfl
theorem F19_ok : toCC [] 47 F19_inf F19_c = some F19 := by kernel_rfl
theorem F19_in {args : List AV} {G : Hp} {post : AV → Hp → Prop} (ha : args.all AV.plain = true) (hn : args.length ≤ 47) (h : BDs args → awp Try.prog [] F19 (AEnds Try.prog [.tmp 0] post) (initT args) G) : ACalls Try.prog 19 args G post :=
  acalls_cc Try.func19 F19_b F19_rs F19_n F19_ok mixed ha hn h

/- 20 (*ostiary/bits.In).Skip -/
@[simp] noncomputable def F20_r0 : CC := .reg [⟨some 4, none, (.move (.tmp 0))⟩,
  ⟨some 5, none, (.move (.tmp 1))⟩,
  ⟨some 6, none, (.call { callee := (.value (.func 35)), args := #[(.tmp 4), (.tmp 5)], argTypes := #[30, 3] })⟩] [0, 1, 6]
@[simp] noncomputable def F20_r1 : CC := .reg [⟨some 7, none, (.move (.tmp 0))⟩,
  ⟨some 8, none, (.nilCheck (.tmp 7))⟩,
  ⟨some 9, none, (.fieldAddr 71 (.tmp 8) 1)⟩,
  ⟨some 10, none, (.load 3 (.tmp 9))⟩,
  ⟨some 11, none, (.move (.tmp 1))⟩,
  ⟨some 12, none, (.binOp .add 3 (.tmp 10) (.tmp 11) 3)⟩,
  ⟨some 13, none, (.nilCheck (.tmp 7))⟩,
  ⟨some 14, none, (.fieldAddr 71 (.tmp 13) 1)⟩,
  ⟨none, none, (.store 3 (.tmp 14) (.tmp 12))⟩] []
noncomputable def F20 : CC := (.seq F20_r0 (.cond (.tmp 6) F20_r1 .skip))
noncomputable def F20_inf : Nat → RI
  | 0 => ⟨[0, 1, 6], [], []⟩
  | 1 => ⟨[], [], []⟩
  | _ => ⟨[], [], []⟩
noncomputable def F20_c : Code := Try.f20.body.getD .skip
theorem F20_b : Try.f20.body = some F20_c := by kernel_rfl
theorem F20_rs : Try.f20.results.toList = ([] : List ResultVar) := by kernel_rfl
theorem F20_n : Try.f20.ntmps = 15 := by kernel_rfl
theorem F20_ok : toCC [] 15 F20_inf F20_c = some F20 := by kernel_rfl
theorem F20_in {args : List AV} {G : Hp} {post : AV → Hp → Prop} (ha : args.all AV.plain = true) (hn : args.length ≤ 15) (h : BDs args → awp Try.prog [] F20 (AEnds Try.prog [] post) (initT args) G) : ACalls Try.prog 20 args G post :=
  acalls_cc Try.func20 F20_b F20_rs F20_n F20_ok mixed ha hn h

/- 21 (*ostiary/bits.In).At -/
@[simp] noncomputable def F21_r0 : CC := .reg [⟨some 2, none, (.assign (.const (.int .i64 0)))⟩] [0]
@[simp] noncomputable def F21_r1 : CC := .reg [⟨some 3, none, (.move (.tmp 0))⟩,
  ⟨some 4, none, (.binOp .eql 30 (.tmp 3) (.const (.pointer none)) 30)⟩] [0, 4]
@[simp] noncomputable def F21_r2 : CC := .reg [⟨some 2, none, (.assign (.const (.int .i64 0)))⟩] [2]
@[simp] noncomputable def F21_r3 : CC := .reg [⟨some 5, none, (.move (.tmp 0))⟩,
  ⟨some 6, none, (.nilCheck (.tmp 5))⟩,
  ⟨some 7, none, (.fieldAddr 71 (.tmp 6) 1)⟩,
  ⟨some 8, none, (.load 3 (.tmp 7))⟩,
  ⟨some 2, none, (.assign (.tmp 8))⟩] [2]
noncomputable def F21 : CC := (.seq F21_r0 (.seq (.seq F21_r1 (.cond (.tmp 4) (.seq F21_r2 .ret) .skip)) (.seq F21_r3 .ret)))
noncomputable def F21_inf : Nat → RI
  | 0 => ⟨[0], [], []⟩
  | 1 => ⟨[0, 4], [], []⟩
  | 2 => ⟨[2], [], []⟩
  | 3 => ⟨[2], [], []⟩
  | _ => ⟨[], [], []⟩
noncomputable def F21_c : Code := Try.f21.body.getD .skip
theorem F21_b : Try.f21.body = some F21_c := by kernel_rfl
theorem F21_rs : Try.f21.results.toList = ([.tmp 2] : List ResultVar) := by kernel_rfl
theorem F21_n : Try.f21.ntmps = 9 := by kernel_rfl
theorem F21_ok : toCC [] 9 F21_inf F21_c = some F21 := by kernel_rfl
theorem F21_in {args : List AV} {G : Hp} {post : AV → Hp → Prop} (ha : args.all AV.plain = true) (hn : args.length ≤ 9) (h : BDs args → awp Try.prog [] F21 (AEnds Try.prog [.tmp 2] post) (initT args) G) : ACalls Try.prog 21 args G post :=
  acalls_cc Try.func21 F21_b F21_rs F21_n F21_ok mixed ha hn h

/- 22 (*ostiary/bits.Out).Len -/
@[simp] noncomputable def F22_r0 : CC := .reg [⟨some 2, none, (.assign (.const (.int .i64 0)))⟩] [0]
@[simp] noncomputable def F22_r1 : CC := .reg [⟨some 3, none, (.move (.tmp 0))⟩,
  ⟨some 4, none, (.binOp .eql 24 (.tmp 3) (.const (.pointer none)) 24)⟩] [0, 4]
@[simp] noncomputable def F22_r2 : CC := .reg [⟨some 2, none, (.assign (.const (.int .i64 0)))⟩] [2]
@[simp] noncomputable def F22_r3 : CC := .reg [⟨some 5, none, (.move (.tmp 0))⟩,
  ⟨some 6, none, (.nilCheck (.tmp 5))⟩,
  ⟨some 7, none, (.fieldAddr 67 (.tmp 6) 1)⟩,
  ⟨some 8, none, (.load 3 (.tmp 7))⟩,
  ⟨some 2, none, (.assign (.tmp 8))⟩] [2]
noncomputable def F22 : CC := (.seq F22_r0 (.seq (.seq F22_r1 (.cond (.tmp 4) (.seq F22_r2 .ret) .skip)) (.seq F22_r3 .ret)))
noncomputable def F22_inf : Nat → RI
  | 0 => ⟨[0], [], []⟩
  | 1 => ⟨[0, 4], [], []⟩
  | 2 => ⟨[2], [], []⟩
  | 3 => ⟨[2], [], []⟩
  | _ => ⟨[], [], []⟩
noncomputable def F22_c : Code := Try.f22.body.getD .skip
theorem F22_b : Try.f22.body = some F22_c := by kernel_rfl
theorem F22_rs : Try.f22.results.toList = ([.tmp 2] : List ResultVar) := by kernel_rfl
theorem F22_n : Try.f22.ntmps = 9 := by kernel_rfl
theorem F22_ok : toCC [] 9 F22_inf F22_c = some F22 := by kernel_rfl
theorem F22_in {args : List AV} {G : Hp} {post : AV → Hp → Prop} (ha : args.all AV.plain = true) (hn : args.length ≤ 9) (h : BDs args → awp Try.prog [] F22 (AEnds Try.prog [.tmp 2] post) (initT args) G) : ACalls Try.prog 22 args G post :=
  acalls_cc Try.func22 F22_b F22_rs F22_n F22_ok mixed ha hn h

/- 23 (*ostiary/bits.Out).Bytes -/
@[simp] noncomputable def F23_r0 : CC := .reg [⟨some 4, none, (.assign (.const (.int .i64 0)))⟩] [0, 1]
@[simp] noncomputable def F23_r1 : CC := .reg [⟨some 12, none, (.move (.tmp 0))⟩,
  ⟨some 13, none, (.binOp .eql 24 (.tmp 12) (.const (.pointer none)) 24)⟩] [0, 1, 13]
@[simp] noncomputable def F23_r2 : CC := .reg [⟨some 4, none, (.assign (.const (.int .i64 11)))⟩] [4]
@[simp] noncomputable def F23_r3 : CC := .reg [⟨some 5, none, (.assign (.const (.int .i64 0)))⟩] [0, 1, 5]
@[simp] noncomputable def F23_r4 : CC := .reg [⟨some 14, none, (.move (.tmp 1))⟩,
  ⟨some 15, none, (.call { callee := (.builtin .len), args := #[(.tmp 14)], argTypes := #[65] })⟩,
  ⟨some 16, none, (.move (.const (.int .i64 0)))⟩] [0, 1, 5, 14, 15, 16]
@[simp] noncomputable def F23_r5 : CC := .reg [⟨some 17, none, (.binOp .lss 3 (.tmp 16) (.tmp 15) 3)⟩] [0, 1, 5, 14, 15, 16, 17]
@[simp] noncomputable def F23_r6 : CC := .reg [⟨some 18, none, (.indexAddr 65 (.tmp 14) (.tmp 16))⟩,
  ⟨some 19, none, (.load 32 (.tmp 18))⟩,
  ⟨some 7, none, (.assign (.tmp 19))⟩] [0, 1, 5, 7, 14, 15, 16]
@[simp] noncomputable def F23_r7 : CC := .reg [⟨some 20, none, (.move (.tmp 7))⟩,
  ⟨some 21, none, (.call { callee := (.builtin .len), args := #[(.tmp 20)], argTypes := #[32] })⟩,
  ⟨some 22, none, (.move (.tmp 5))⟩,
  ⟨some 23, none, (.binOp .sub 3 (.const (.int .i64 65536)) (.tmp 22) 3)⟩,
  ⟨some 24, none, (.binOp .gtr 3 (.tmp 21) (.tmp 23) 3)⟩] [0, 1, 5, 7, 14, 15, 16, 24]
@[simp] noncomputable def F23_r8 : CC := .reg [⟨some 4, none, (.assign (.const (.int .i64 4)))⟩] [4]
@[simp] noncomputable def F23_r9 : CC := .reg [⟨some 25, none, (.move (.tmp 5))⟩,
  ⟨some 26, none, (.move (.tmp 7))⟩,
  ⟨some 27, none, (.call { callee := (.builtin .len), args := #[(.tmp 26)], argTypes := #[32] })⟩,
  ⟨some 28, none, (.binOp .add 3 (.tmp 25) (.tmp 27) 3)⟩,
  ⟨some 5, none, (.assign (.tmp 28))⟩] [0, 1, 5, 14, 15, 16]
@[simp] noncomputable def F23_r10 : CC := .reg [⟨some 29, none, (.binOp .add 3 (.tmp 16) (.const (.int .i64 1)) 3)⟩,
  ⟨some 16, none, (.move (.tmp 29))⟩] [0, 1, 5, 14, 15, 16]
noncomputable def F23_l0 : CC := (.seq F23_r5 (.seq (.cond (.tmp 17) .skip (.exit 0)) (.seq (.block 1 (.seq F23_r6 (.seq (.seq F23_r7 (.cond (.tmp 24) (.seq F23_r8 .ret) .skip)) F23_r9))) F23_r10)))
@[simp] noncomputable def F23_r11 : CC := .reg [⟨some 30, none, (.move (.tmp 0))⟩,
  ⟨some 31, none, (.move (.tmp 5))⟩,
  ⟨some 32, none, (.binOp .mul 3 (.const (.int .i64 8)) (.tmp 31) 3)⟩,
  ⟨some 33, none, (.call { callee := (.value (.func 32)), args := #[(.tmp 30), (.tmp 32)], argTypes := #[24, 3] })⟩,
  ⟨some 34, none, (.unOp .not 4 (.tmp 33))⟩] [0, 1, 34]
@[simp] noncomputable def F23_r12 : CC := .reg [⟨some 4, none, (.assign (.const (.int .i64 4)))⟩] [4]
@[simp] noncomputable def F23_r13 : CC := .reg [⟨some 35, none, (.move (.tmp 1))⟩,
  ⟨some 36, none, (.call { callee := (.builtin .len), args := #[(.tmp 35)], argTypes := #[65] })⟩,
  ⟨some 37, none, (.move (.const (.int .i64 0)))⟩] [0, 35, 36, 37]
@[simp] noncomputable def F23_r14 : CC := .reg [⟨some 38, none, (.binOp .lss 3 (.tmp 37) (.tmp 36) 3)⟩] [0, 35, 36, 37, 38]
@[simp] noncomputable def F23_r15 : CC := .reg [⟨some 39, none, (.indexAddr 65 (.tmp 35) (.tmp 37))⟩,
  ⟨some 40, none, (.load 32 (.tmp 39))⟩,
  ⟨some 9, none, (.assign (.tmp 40))⟩] [0, 9, 35, 36, 37]
@[simp] noncomputable def F23_r16 : CC := .reg [⟨some 41, none, (.move (.tmp 9))⟩,
  ⟨some 42, none, (.call { callee := (.builtin .len), args := #[(.tmp 41)], argTypes := #[32] })⟩,
  ⟨some 43, none, (.move (.const (.int .i64 0)))⟩] [0, 35, 36, 37, 41, 42, 43]
@[simp] noncomputable def F23_r17 : CC := .reg [⟨some 44, none, (.binOp .lss 3 (.tmp 43) (.tmp 42) 3)⟩] [0, 35, 36, 37, 41, 42, 43, 44]
@[simp] noncomputable def F23_r18 : CC := .reg [⟨some 45, none, (.indexAddr 32 (.tmp 41) (.tmp 43))⟩,
  ⟨some 46, none, (.load 5 (.tmp 45))⟩,
  ⟨some 11, none, (.assign (.tmp 46))⟩] [0, 11, 35, 36, 37, 41, 42, 43]
@[simp] noncomputable def F23_r19 : CC := .reg [⟨some 47, none, (.move (.tmp 0))⟩,
  ⟨some 48, none, (.move (.tmp 11))⟩,
  ⟨some 49, none, (.convert 5 29 (.tmp 48))⟩,
  ⟨some 50, none, (.buildSlice 23 1 #[(0, (.tmp 49))])⟩,
  ⟨some 51, none, (.call { callee := (.value (.func 11)), args := #[(.tmp 47), (.const (.int .i64 8)), (.tmp 50)], argTypes := #[24, 3, 23] })⟩] [0, 35, 36, 37, 41, 42, 43]
@[simp] noncomputable def F23_r20 : CC := .reg [⟨some 52, none, (.binOp .add 3 (.tmp 43) (.const (.int .i64 1)) 3)⟩,
  ⟨some 43, none, (.move (.tmp 52))⟩] [0, 35, 36, 37, 41, 42, 43]
noncomputable def F23_l1 : CC := (.seq F23_r17 (.seq (.cond (.tmp 44) .skip (.exit 4)) (.seq (.block 5 (.seq F23_r18 F23_r19)) F23_r20)))
@[simp] noncomputable def F23_r21 : CC := .reg [⟨some 53, none, (.binOp .add 3 (.tmp 37) (.const (.int .i64 1)) 3)⟩,
  ⟨some 37, none, (.move (.tmp 53))⟩] [0, 35, 36, 37]
noncomputable def F23_l2 : CC := (.seq F23_r14 (.seq (.cond (.tmp 38) .skip (.exit 2)) (.seq (.block 3 (.seq F23_r15 (.seq F23_r16 (.block 4 (.loop F23_l1))))) F23_r21)))
@[simp] noncomputable def F23_r22 : CC := .reg [⟨some 4, none, (.assign (.const (.int .i64 0)))⟩] [4]
noncomputable def F23 : CC := (.seq F23_r0 (.seq (.seq F23_r1 (.cond (.tmp 13) (.seq F23_r2 .ret) .skip)) (.seq F23_r3 (.seq (.seq F23_r4 (.block 0 (.loop F23_l0))) (.seq (.seq F23_r11 (.cond (.tmp 34) (.seq F23_r12 .ret) .skip)) (.seq (.seq F23_r13 (.block 2 (.loop F23_l2))) (.seq F23_r22 .ret)))))))
noncomputable def F23_inf : Nat → RI
  | 0 => ⟨[0, 1], [], []⟩
  | 1 => ⟨[0, 1, 13], [], []⟩
  | 2 => ⟨[4], [], []⟩
  | 3 => ⟨[0, 1, 5], [], []⟩
  | 4 => ⟨[0, 1, 5, 14, 15, 16], [], []⟩
  | 5 => ⟨[0, 1, 5, 14, 15, 16, 17], [], []⟩
  | 6 => ⟨[0, 1, 5, 7, 14, 15, 16], [], []⟩
  | 7 => ⟨[0, 1, 5, 7, 14, 15, 16, 24], [], []⟩
  | 8 => ⟨[4], [], []⟩
  | 9 => ⟨[0, 1, 5, 14, 15, 16], [], []⟩
  | 10 => ⟨[0, 1, 5, 14, 15, 16], [], []⟩
  | 11 => ⟨[0, 1, 34], [], []⟩
  | 12 => ⟨[4], [], []⟩
  | 13 => ⟨[0, 35, 36, 37], [], []⟩
  | 14 => ⟨[0, 35, 36, 37, 38], [], []⟩
  | 15 => ⟨[0, 9, 35, 36, 37], [], []⟩
  | 16 => ⟨[0, 35, 36, 37, 41, 42, 43], [], []⟩
  | 17 => ⟨[0, 35, 36, 37, 41, 42, 43, 44], [], []⟩
  | 18 => ⟨[0, 11, 35, 36, 37, 41, 42, 43], [], []⟩
  | 19 => ⟨[0, 35, 36, 37, 41, 42, 43], [], []⟩
  | 20 => ⟨[0, 35, 36, 37, 41, 42, 43], [], []⟩
  | 21 => ⟨[0, 35, 36, 37], [], []⟩
  | 22 => ⟨[4], [], []⟩
  | _ => ⟨[], [], []⟩
noncomputable def F23_c : Code := Try.f23.body.getD .skip
theorem F23_b : Try.f23.body = some F23_c := by kernel_rfl
theorem F23_rs : Try.f23.results.toList = ([.tmp 4] : List ResultVar) := by kernel_rfl
theorem F23_n : Try.f23.ntmps = 54 := by kernel_rfl
theorem F23_ok : toCC [] 54 F23_inf F23_c = some F23 := by kernel_rfl
theorem F23_in {args : List AV} {G : Hp} {post : AV → Hp → Prop} (ha : args.all AV.plain = true) (hn : args.length ≤ 54) (h : BDs args → awp Try.prog [] F23 (AEnds Try.prog [.tmp 4] post) (initT args) G) : ACalls Try.prog 23 args G post :=
  acalls_cc Try.func23 F23_b F23_rs F23_n F23_ok mixed ha hn h

/- 24 ostiary/ostiaryref01.Of -/
@[simp] noncomputable def F24_r0 : CC := .reg [⟨some 2, none, (.assign (.const (.slice none 0 0)))⟩] [0]
@[simp] noncomputable def F24_r1 : CC := .reg [⟨some 3, none, (.assign (.const (.slice none 0 0)))⟩] [0, 3]
@[simp] noncomputable def F24_r2 : CC := .reg [⟨some 9, none, (.move (.tmp 0))⟩,
  ⟨some 10, none, (.call { callee := (.builtin .len), args := #[(.tmp 9)], argTypes := #[32] })⟩,
  ⟨some 11, none, (.move (.const (.int .i64 0)))⟩] [3, 9, 10, 11]
@[simp] noncomputable def F24_r3 : CC := .reg [⟨some 12, none, (.binOp .lss 3 (.tmp 11) (.tmp 10) 3)⟩] [3, 9, 10, 11, 12]
@[simp] noncomputable def F24_r4 : CC := .reg [⟨some 13, none, (.indexAddr 32 (.tmp 9) (.tmp 11))⟩,
  ⟨some 14, none, (.load 5 (.tmp 13))⟩,
  ⟨some 5, none, (.assign (.tmp 14))⟩] [3, 5, 9, 10, 11]
@[simp] noncomputable def F24_r5 : CC := .reg [⟨some 15, none, (.move (.tmp 5))⟩,
  ⟨some 16, none, (.convert 5 3 (.tmp 15))⟩,
  ⟨some 6, none, (.assign (.tmp 16))⟩] [3, 6, 9, 10, 11]
@[simp] noncomputable def F24_r6 : CC := .reg [⟨some 17, none, (.buildSlice 22 8 #[(0, (.const (.int .i64 128))), (1, (.const (.int .i64 64))), (2, (.const (.int .i64 32))), (3, (.const (.int .i64 16))), (4, (.const (.int .i64 8))), (5, (.const (.int .i64 4))), (6, (.const (.int .i64 2))), (7, (.const (.int .i64 1)))])⟩,
  ⟨some 18, none, (.call { callee := (.builtin .len), args := #[(.tmp 17)], argTypes := #[22] })⟩,
  ⟨some 19, none, (.move (.const (.int .i64 0)))⟩] [3, 6, 9, 10, 11, 17, 18, 19]
@[simp] noncomputable def F24_r7 : CC := .reg [⟨some 20, none, (.binOp .lss 3 (.tmp 19) (.tmp 18) 3)⟩] [3, 6, 9, 10, 11, 17, 18, 19, 20]
@[simp] noncomputable def F24_r8 : CC := .reg [⟨some 21, none, (.indexAddr 22 (.tmp 17) (.tmp 19))⟩,
  ⟨some 22, none, (.load 3 (.tmp 21))⟩,
  ⟨some 8, none, (.assign (.tmp 22))⟩] [3, 6, 8, 9, 10, 11, 17, 18, 19]
@[simp] noncomputable def F24_r9 : CC := .reg [⟨some 23, none, (.move (.tmp 3))⟩,
  ⟨some 24, none, (.move (.tmp 6))⟩,
  ⟨some 25, none, (.move (.tmp 8))⟩,
  ⟨some 26, none, (.binOp .quo 3 (.tmp 24) (.tmp 25) 3)⟩,
  ⟨some 27, none, (.binOp .rem 3 (.tmp 26) (.const (.int .i64 2)) 3)⟩,
  ⟨some 28, none, (.buildSlice 22 1 #[(0, (.tmp 27))])⟩,
  ⟨some 29, none, (.call { callee := (.builtin .append), args := #[(.tmp 23), (.tmp 28)], argTypes := #[22, 22] })⟩,
  ⟨some 3, none, (.assign (.tmp 29))⟩] [3, 6, 9, 10, 11, 17, 18, 19]
@[simp] noncomputable def F24_r10 : CC := .reg [⟨some 30, none, (.binOp .add 3 (.tmp 19) (.const (.int .i64 1)) 3)⟩,
  ⟨some 19, none, (.move (.tmp 30))⟩] [3, 6, 9, 10, 11, 17, 18, 19]
noncomputable def F24_l0 : CC := (.seq F24_r7 (.seq (.cond (.tmp 20) .skip (.exit 2)) (.seq (.block 3 (.seq F24_r8 F24_r9)) F24_r10)))
@[simp] noncomputable def F24_r11 : CC := .reg [⟨some 31, none, (.binOp .add 3 (.tmp 11) (.const (.int .i64 1)) 3)⟩,
  ⟨some 11, none, (.move (.tmp 31))⟩] [3, 9, 10, 11]
noncomputable def F24_l1 : CC := (.seq F24_r3 (.seq (.cond (.tmp 12) .skip (.exit 0)) (.seq (.block 1 (.seq F24_r4 (.seq F24_r5 (.seq F24_r6 (.block 2 (.loop F24_l0)))))) F24_r11)))
@[simp] noncomputable def F24_r12 : CC := .reg [⟨some 32, none, (.move (.tmp 3))⟩,
  ⟨some 2, none, (.assign (.tmp 32))⟩] [2]
noncomputable def F24 : CC := (.seq F24_r0 (.seq F24_r1 (.seq (.seq F24_r2 (.block 0 (.loop F24_l1))) (.seq F24_r12 .ret))))
noncomputable def F24_inf : Nat → RI
  | 0 => ⟨[0], [], []⟩
  | 1 => ⟨[0, 3], [], []⟩
  | 2 => ⟨[3, 9, 10, 11], [], []⟩
  | 3 => ⟨[3, 9, 10, 11, 12], [], []⟩
  | 4 => ⟨[3, 5, 9, 10, 11], [], []⟩
  | 5 => ⟨[3, 6, 9, 10, 11], [], []⟩
  | 6 => ⟨[3, 6, 9, 10, 11, 17, 18, 19], [], []⟩
  | 7 => ⟨[3, 6, 9, 10, 11, 17, 18, 19, 20], [], []⟩
  | 8 => ⟨[3, 6, 8, 9, 10, 11, 17, 18, 19], [], []⟩
  | 9 => ⟨[3, 6, 9, 10, 11, 17, 18, 19], [], []⟩
  | 10 => ⟨[3, 6, 9, 10, 11, 17, 18, 19], [], []⟩
  | 11 => ⟨[3, 9, 10, 11], [], []⟩
  | 12 => ⟨[2], [], []⟩
  | _ => ⟨[], [], []⟩
noncomputable def F24_c : Code := Try.f24.body.getD .skip
theorem F24_b : Try.f24.body = some F24_c := by kernel_rfl
theorem F24_rs : Try.f24.results.toList = ([.tmp 2] : List ResultVar) := by kernel_rfl
theorem F24_n : Try.f24.ntmps = 33 := by kernel_rfl
theorem F24_ok : toCC [] 33 F24_inf F24_c = some F24 := by kernel_rfl
theorem F24_in {args : List AV} {G : Hp} {post : AV → Hp → Prop} (ha : args.all AV.plain = true) (hn : args.length ≤ 33) (h : BDs args → awp Try.prog [] F24 (AEnds Try.prog [.tmp 2] post) (initT args) G) : ACalls Try.prog 24 args G post :=
  acalls_cc Try.func24 F24_b F24_rs F24_n F24_ok mixed ha hn h

/- 25 (*ostiary/ostiaryref01.In).Take -/
@[simp] noncomputable def F25_r0 : CC := .reg [⟨some 6, none, (.assign (.const (.slice none 0 0)))⟩] [0, 1, 2]
@[simp] noncomputable def F25_r1 : CC := .reg [⟨some 7, none, (.move (.tmp 0))⟩,
  ⟨some 8, none, (.nilCheck (.tmp 7))⟩,
  ⟨some 9, none, (.fieldAddr 50 (.tmp 8) 2)⟩,
  ⟨some 10, none, (.load 27 (.tmp 9))⟩,
  ⟨some 11, none, (.binOp .neq 27 (.tmp 10) (.const (.int .i64 0)) 27)⟩] [0, 1, 2, 11]
@[simp] noncomputable def F25_r2 : CC := .reg [⟨some 6, none, (.assign (.const (.slice none 0 0)))⟩] [6]
@[simp] noncomputable def F25_r3 : CC := .reg [⟨some 12, none, (.move (.tmp 2))⟩,
  ⟨some 13, none, (.unOp .not 4 (.tmp 12))⟩,
  ⟨some 14, none, (.move (.tmp 13))⟩,
  ⟨some 15, some (14, false), (.move (.tmp 1))⟩,
  ⟨some 16, some (14, false), (.binOp .lss 3 (.tmp 15) (.const (.int .i64 0)) 3)⟩,
  ⟨some 17, none, (.pick (.tmp 14) (.const (.bool true)) (.tmp 16))⟩] [0, 1, 17]
@[simp] noncomputable def F25_r4 : CC := .reg [⟨some 18, none, (.move (.tmp 0))⟩,
  ⟨some 19, none, (.nilCheck (.tmp 18))⟩,
  ⟨some 20, none, (.fieldAddr 50 (.tmp 19) 2)⟩,
  ⟨none, none, (.store 27 (.tmp 20) (.const (.int .i64 1)))⟩] []
@[simp] noncomputable def F25_r5 : CC := .reg [⟨some 6, none, (.assign (.const (.slice none 0 0)))⟩] [6]
@[simp] noncomputable def F25_r6 : CC := .drw [⟨0, ⟨some 21, none, (.move (.tmp 1))⟩, [], []⟩,
  ⟨1, ⟨some 22, none, (.move (.tmp 0))⟩, [], []⟩,
  ⟨2, ⟨some 23, none, (.nilCheck (.tmp 22))⟩, [], []⟩,
  ⟨3, ⟨some 24, none, (.fieldAddr 50 (.tmp 23) 0)⟩, [], []⟩,
  ⟨4, ⟨some 25, none, (.load 22 (.tmp 24))⟩, [], []⟩,
  ⟨5, ⟨some 26, none, (.call { callee := (.builtin .len), args := #[(.tmp 25)], argTypes := #[22] })⟩, [], []⟩,
  ⟨6, ⟨some 27, none, (.move (.tmp 0))⟩, [], []⟩,
  ⟨7, ⟨some 28, none, (.nilCheck (.tmp 27))⟩, [], []⟩,
  ⟨8, ⟨some 29, none, (.fieldAddr 50 (.tmp 28) 1)⟩, [], []⟩,
  ⟨9, ⟨some 30, none, (.load 3 (.tmp 29))⟩, [], []⟩,
  ⟨10, ⟨some 31, none, (.binOp .sub 3 (.tmp 26) (.tmp 30) 3)⟩, [], []⟩,
  ⟨11, ⟨some 32, none, (.binOp .gtr 3 (.tmp 21) (.tmp 31) 3)⟩, [], []⟩] [21, 22, 23, 24, 25, 26, 27, 28, 29, 30, 31, 32] [0, 1, 32]
@[simp] noncomputable def F25_r7 : CC := .reg [⟨some 33, none, (.move (.tmp 0))⟩,
  ⟨some 34, none, (.nilCheck (.tmp 33))⟩,
  ⟨some 35, none, (.fieldAddr 50 (.tmp 34) 2)⟩,
  ⟨none, none, (.store 27 (.tmp 35) (.const (.int .i64 7)))⟩] []
@[simp] noncomputable def F25_r8 : CC := .reg [⟨some 6, none, (.assign (.const (.slice none 0 0)))⟩] [6]
@[simp] noncomputable def F25_r9 : CC := .reg [⟨some 36, none, (.move (.tmp 0))⟩,
  ⟨some 37, none, (.nilCheck (.tmp 36))⟩,
  ⟨some 38, none, (.fieldAddr 50 (.tmp 37) 1)⟩,
  ⟨some 39, none, (.load 3 (.tmp 38))⟩,
  ⟨some 40, none, (.move (.tmp 1))⟩,
  ⟨some 41, none, (.binOp .add 3 (.tmp 39) (.tmp 40) 3)⟩,
  ⟨some 42, none, (.nilCheck (.tmp 36))⟩,
  ⟨some 43, none, (.fieldAddr 50 (.tmp 42) 1)⟩,
  ⟨none, none, (.store 3 (.tmp 43) (.tmp 41))⟩] [0, 1]
@[simp] noncomputable def F25_r10 : CC := .drw [⟨0, ⟨some 44, none, (.move (.tmp 0))⟩, [], []⟩,
  ⟨1, ⟨some 45, none, (.nilCheck (.tmp 44))⟩, [], []⟩,
  ⟨2, ⟨some 46, none, (.fieldAddr 50 (.tmp 45) 0)⟩, [], []⟩,
  ⟨3, ⟨some 47, none, (.load 22 (.tmp 46))⟩, [], []⟩,
  ⟨4, ⟨some 48, none, (.move (.tmp 0))⟩, [], []⟩,
  ⟨5, ⟨some 49, none, (.nilCheck (.tmp 48))⟩, [], []⟩,
  ⟨6, ⟨some 50, none, (.fieldAddr 50 (.tmp 49) 1)⟩, [], []⟩,
  ⟨7, ⟨some 51, none, (.load 3 (.tmp 50))⟩, [], []⟩,
  ⟨8, ⟨some 52, none, (.move (.tmp 1))⟩, [], []⟩,
  ⟨9, ⟨some 53, none, (.binOp .sub 3 (.tmp 51) (.tmp 52) 3)⟩, [], []⟩,
  ⟨10, ⟨some 54, none, (.move (.tmp 0))⟩, [], []⟩,
  ⟨11, ⟨some 55, none, (.nilCheck (.tmp 54))⟩, [], []⟩,
  ⟨12, ⟨some 56, none, (.fieldAddr 50 (.tmp 55) 1)⟩, [], []⟩,
  ⟨13, ⟨some 57, none, (.load 3 (.tmp 56))⟩, [], []⟩,
  ⟨14, ⟨some 58, none, (.slice 22 (.tmp 47) (some (.tmp 53)) (some (.tmp 57)) none)⟩, [], []⟩,
  ⟨15, ⟨some 6, none, (.assign (.tmp 58))⟩, [], []⟩] [44, 45, 46, 47, 48, 49, 50, 51, 52, 53, 54, 55, 56, 57, 58, 6] [6]
noncomputable def F25 : CC := (.seq F25_r0 (.seq (.seq F25_r1 (.cond (.tmp 11) (.seq F25_r2 .ret) .skip)) (.seq (.seq F25_r3 (.cond (.tmp 17) (.seq F25_r4 (.seq F25_r5 .ret)) .skip)) (.seq (.seq F25_r6 (.cond (.tmp 32) (.seq F25_r7 (.seq F25_r8 .ret)) .skip)) (.seq F25_r9 (.seq F25_r10 .ret))))))
noncomputable def F25_inf : Nat → RI
  | 0 => ⟨[0, 1, 2], [], []⟩
  | 1 => ⟨[0, 1, 2, 11], [], []⟩
  | 2 => ⟨[6], [], []⟩
  | 3 => ⟨[0, 1, 17], [], []⟩
  | 4 => ⟨[], [], []⟩
  | 5 => ⟨[6], [], []⟩
  | 6 => ⟨[0, 1, 32], [0, 0, 2, 6, 14, 30, 0, 64, 192, 448, 1022, 2047], [(0, []), (1, []), (2, []), (3, []), (4, []), (5, []), (6, []), (7, []), (8, []), (9, []), (10, []), (11, [])]⟩
  | 7 => ⟨[], [], []⟩
  | 8 => ⟨[6], [], []⟩
  | 9 => ⟨[0, 1], [], []⟩
  | 10 => ⟨[6], [0, 1, 3, 7, 0, 16, 48, 112, 0, 496, 0, 1024, 3072, 7168, 16383, 32767], [(0, []), (1, []), (2, []), (3, []), (4, []), (5, []), (6, []), (7, []), (8, []), (9, []), (10, []), (11, []), (12, []), (13, []), (14, []), (15, [])]⟩
  | _ => ⟨[], [], []⟩
noncomputable def F25_c : Code := Try.f25.body.getD .skip
theorem F25_b : Try.f25.body = some F25_c := by kernel_rfl
theorem F25_rs : Try.f25.results.toList = ([.tmp 6] : List ResultVar) := by kernel_rfl
theorem F25_n : Try.f25.ntmps = 59 := by kernel_rfl
theorem F25_ok : toCC [] 59 F25_inf F25_c = some F25 := by kernel_rfl
theorem F25_in {args : List AV} {G : Hp} {post : AV → Hp → Prop} (ha : args.all AV.plain = true) (hn : args.length ≤ 59) (h : BDs args → awp Try.prog [] F25 (AEnds Try.prog [.tmp 6] post) (initT args) G) : ACalls Try.prog 25 args G post :=
  acalls_cc Try.func25 F25_b F25_rs F25_n F25_ok mixed ha hn h

/- 26 (*ostiary/bits.In).Bytes -/
@[simp] noncomputable def F26_r0 : CC := .reg [⟨some 4, none, (.assign (.const (.slice none 0 0)))⟩] [0, 1]
@[simp] noncomputable def F26_r1 : CC := .reg [⟨some 6, none, (.move (.tmp 0))⟩,
  ⟨some 7, none, (.binOp .neq 30 (.tmp 6) (.const (.pointer none)) 30)⟩] [0, 1, 7]
@[simp] noncomputable def F26_r2 : CC := .reg [⟨some 8, none, (.move (.tmp 1))⟩,
  ⟨some 9, none, (.move (.tmp 0))⟩,
  ⟨some 10, none, (.nilCheck (.tmp 9))⟩,
  ⟨some 11, none, (.fieldAddr 71 (.tmp 10) 0)⟩,
  ⟨some 12, none, (.load 32 (.tmp 11))⟩,
  ⟨some 13, none, (.call { callee := (.builtin .len), args := #[(.tmp 12)], argTypes := #[32] })⟩,
  ⟨some 14, none, (.binOp .add 3 (.tmp 13) (.const (.int .i64 1)) 3)⟩,
  ⟨some 15, none, (.call { callee := (.builtin .min), args := #[(.tmp 8), (.tmp 14)], argTypes := #[3, 3] })⟩,
  ⟨some 16, none, (.call { callee := (.builtin .max), args := #[(.tmp 15), (.const (.int .i64 (-1)))], argTypes := #[3, 3] })⟩,
  ⟨some 1, none, (.assign (.tmp 16))⟩] [0, 1]
@[simp] noncomputable def F26_r3 : CC := .reg [⟨some 17, none, (.move (.tmp 0))⟩,
  ⟨some 18, none, (.move (.tmp 1))⟩,
  ⟨some 19, none, (.binOp .mul 3 (.const (.int .i64 8)) (.tmp 18) 3)⟩,
  ⟨some 20, none, (.call { callee := (.value (.func 35)), args := #[(.tmp 17), (.tmp 19)], argTypes := #[30, 3] })⟩,
  ⟨some 21, none, (.unOp .not 4 (.tmp 20))⟩] [0, 1, 21]
@[simp] noncomputable def F26_r4 : CC := .reg [⟨some 4, none, (.assign (.const (.slice none 0 0)))⟩] [4]
@[simp] noncomputable def F26_r5 : CC := .reg [⟨some 5, none, (.assign (.const (.slice none 0 0)))⟩] [0, 1, 5]
@[simp] noncomputable def F26_r6 : CC := .reg [⟨some 22, none, (.move (.tmp 1))⟩,
  ⟨some 23, none, (.move (.const (.int .i64 0)))⟩] [0, 5, 22, 23]
@[simp] noncomputable def F26_r7 : CC := .reg [⟨some 24, none, (.binOp .lss 3 (.tmp 23) (.tmp 22) 3)⟩] [0, 5, 22, 23, 24]
@[simp] noncomputable def F26_r8 : CC := .reg [⟨some 25, none, (.move (.tmp 5))⟩,
  ⟨some 26, none, (.move (.tmp 0))⟩,
  ⟨some 27, none, (.call { callee := (.value (.func 14)), args := #[(.tmp 26), (.const (.int .i64 8))], argTypes := #[30, 3] })⟩,
  ⟨some 28, none, (.convert 29 5 (.tmp 27))⟩,
  ⟨some 29, none, (.buildSlice 32 1 #[(0, (.tmp 28))])⟩,
  ⟨some 30, none, (.call { callee := (.builtin .append), args := #[(.tmp 25), (.tmp 29)], argTypes := #[32, 32] })⟩,
  ⟨some 5, none, (.assign (.tmp 30))⟩] [0, 5, 22, 23]
@[simp] noncomputable def F26_r9 : CC := .reg [⟨some 31, none, (.binOp .add 3 (.tmp 23) (.const (.int .i64 1)) 3)⟩,
  ⟨some 23, none, (.move (.tmp 31))⟩] [0, 5, 22, 23]
noncomputable def F26_l0 : CC := (.seq F26_r7 (.seq (.cond (.tmp 24) .skip (.exit 0)) (.seq (.block 1 F26_r8) F26_r9)))
@[simp] noncomputable def F26_r10 : CC := .reg [⟨some 32, none, (.move (.tmp 5))⟩,
  ⟨some 4, none, (.assign (.tmp 32))⟩] [4]
noncomputable def F26 : CC := (.seq F26_r0 (.seq (.seq F26_r1 (.cond (.tmp 7) F26_r2 .skip)) (.seq (.seq F26_r3 (.cond (.tmp 21) (.seq F26_r4 .ret) .skip)) (.seq F26_r5 (.seq (.seq F26_r6 (.block 0 (.loop F26_l0))) (.seq F26_r10 .ret))))))
noncomputable def F26_inf : Nat → RI
  | 0 => ⟨[0, 1], [], []⟩
  | 1 => ⟨[0, 1, 7], [], []⟩
  | 2 => ⟨[0, 1], [], []⟩
  | 3 => ⟨[0, 1, 21], [], []⟩
  | 4 => ⟨[4], [], []⟩
  | 5 => ⟨[0, 1, 5], [], []⟩
  | 6 => ⟨[0, 5, 22, 23], [], []⟩
  | 7 => ⟨[0, 5, 22, 23, 24], [], []⟩
  | 8 => ⟨[0, 5, 22, 23], [], []⟩
  | 9 => ⟨[0, 5, 22, 23], [], []⟩
  | 10 => ⟨[4], [], []⟩
  | _ => ⟨[], [], []⟩
noncomputable def F26_c : Code := Try.f26.body.getD .skip
theorem F26_b : Try.f26.body = some F26_c := by kernel_rfl
theorem F26_rs : Try.f26.results.toList = ([.tmp 4] : List ResultVar) := by kernel_rfl
theorem F26_n : Try.f26.ntmps = 33 := by kernel_rfl
theorem F26_ok : toCC [] 33 F26_inf F26_c = some F26 := by kernel_rfl
theorem F26_in {args : List AV} {G : Hp} {post : AV → Hp → Prop} (ha : args.all AV.plain = true) (hn : args.length ≤ 33) (h : BDs args → awp Try.prog [] F26 (AEnds Try.prog [.tmp 4] post) (initT args) G) : ACalls Try.prog 26 args G post :=
  acalls_cc Try.func26 F26_b F26_rs F26_n F26_ok mixed ha hn h
end Go.Proofs.Ytdpppigniaafnaa
