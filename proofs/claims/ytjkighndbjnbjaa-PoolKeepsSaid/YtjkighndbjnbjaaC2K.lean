import Derived.Test.YtjkighndbjnbjaaC0K
set_option linter.unusedVariables false
set_option linter.unusedSimpArgs false
set_option maxRecDepth 100000
namespace Go.Proofs.Ytjkighndbjnbjaa
open Go Go.Al

/- 15 (*ostiary/pool.Pool).Free -/
@[simp] noncomputable def F15_r0 : CC := .reg [⟨some 4, none, (.alloc 41)⟩,
  ⟨some 5, none, (.assign (.const (.bool false)))⟩] [0, 1, 4]
@[simp] noncomputable def F15_r1 : CC := .reg [⟨some 9, none, (.move (.tmp 0))⟩,
  ⟨some 10, none, (.move (.tmp 1))⟩,
  ⟨some 11, none, (.call { callee := (.value (.func 14)), args := #[(.tmp 9), (.tmp 10)], argTypes := #[24, 39] })⟩,
  ⟨some 8, none, (.move (.tmp 11))⟩,
  ⟨some 12, none, (.extract (.tmp 8) 0)⟩,
  ⟨some 13, none, (.extract (.tmp 8) 1)⟩,
  ⟨some 6, none, (.alloc 41)⟩,
  ⟨none, none, (.store 41 (.tmp 6) (.tmp 12))⟩,
  ⟨some 7, none, (.assign (.tmp 13))⟩] [0, 4, 6, 7]
@[simp] noncomputable def F15_r2 : CC := .reg [⟨some 14, none, (.move (.tmp 7))⟩] [0, 4, 6, 7, 14]
@[simp] noncomputable def F15_r3 : CC := .drw [⟨0, ⟨some 15, none, (.move (.tmp 0))⟩, [], []⟩,
  ⟨1, ⟨some 16, none, (.nilCheck (.tmp 15))⟩, [], []⟩,
  ⟨2, ⟨some 17, none, (.fieldAddr 57 (.tmp 16) 3)⟩, [], []⟩,
  ⟨3, ⟨some 18, none, (.load 54 (.tmp 17))⟩, [], []⟩,
  ⟨4, ⟨some 19, none, (.fieldAddr 41 (.tmp 6) 1)⟩, [], []⟩,
  ⟨5, ⟨some 20, none, (.load 28 (.tmp 19))⟩, [], []⟩,
  ⟨6, ⟨some 21, none, (.buildSlice 90 1 #[(0, (.tmp 20))])⟩, [], []⟩,
  ⟨7, ⟨some 22, none, (.call { callee := (.value (.func 32)), args := #[(.tmp 18), (.tmp 21)], argTypes := #[54, 90] })⟩, [], []⟩] [15, 16, 17, 18, 19, 20, 21, 22] [4, 6, 7]
@[simp] noncomputable def F15_r4 : CC := .reg [⟨some 23, none, (.load 41 (.tmp 6))⟩,
  ⟨some 24, none, (.move (.tmp 7))⟩,
  ⟨none, none, (.store 41 (.tmp 4) (.tmp 23))⟩,
  ⟨some 5, none, (.assign (.tmp 24))⟩] [4, 5]
noncomputable def F15 : CC := (.seq F15_r0 (.seq F15_r1 (.seq (.seq F15_r2 (.cond (.tmp 14) F15_r3 .skip)) (.seq F15_r4 .ret))))
noncomputable def F15_inf : Nat → RI
  | 0 => ⟨[0, 1, 4], [], []⟩
  | 1 => ⟨[0, 4, 6, 7], [], []⟩
  | 2 => ⟨[0, 4, 6, 7, 14], [], []⟩
  | 3 => ⟨[4, 6, 7], [0, 1, 3, 7, 0, 16, 48, 127], [(0, []), (1, []), (2, []), (3, []), (4, []), (5, []), (6, []), (7, [])]⟩
  | 4 => ⟨[4, 5], [], []⟩
  | _ => ⟨[], [], []⟩
noncomputable def F15_c : Code := Try.f15.body.getD .skip
theorem F15_b : Try.f15.body = some F15_c := by kernel_rfl
theorem F15_rs : Try.f15.results.toList = ([.cell 4 41, .tmp 5] : List ResultVar) := by kernel_rfl
theorem F15_n : Try.f15.ntmps = 25 := by kernel_rfl
theorem F15_ok : toCC [] 25 F15_inf F15_c = some F15 := by kernel_rfl
theorem F15_in {args : List AV} {G : Hp} {post : AV → Hp → Prop} (ha : args.all AV.plain = true) (hn : args.length ≤ 25) (h : BDs args → awp Try.prog [] F15 (AEnds Try.prog [.cell 4 41, .tmp 5] post) (initT args) G) : ACalls Try.prog 15 args G post :=
  acalls_cc Try.func15 F15_b F15_rs F15_n F15_ok mixed ha hn h

/- 16 (*ostiary/pool.Pool).Of -/
@[simp] noncomputable def F16_r0 : CC := .reg [⟨some 4, none, (.alloc 41)⟩,
  ⟨some 5, none, (.assign (.const (.bool false)))⟩] [0, 1, 4]
@[simp] noncomputable def F16_r1 : CC := .reg [⟨some 6, none, (.move (.tmp 0))⟩,
  ⟨some 7, none, (.binOp .eql 24 (.tmp 6) (.const (.pointer none)) 24)⟩] [0, 1, 4, 7]
@[simp] noncomputable def F16_r2 : CC := .reg [⟨some 8, none, (.build 41 #[])⟩,
  ⟨none, none, (.store 41 (.tmp 4) (.tmp 8))⟩,
  ⟨some 5, none, (.assign (.const (.bool false)))⟩] [4, 5]
@[simp] noncomputable def F16_r3 : CC := .reg [⟨some 9, none, (.move (.tmp 0))⟩,
  ⟨some 10, none, (.nilCheck (.tmp 9))⟩,
  ⟨some 11, none, (.fieldAddr 57 (.tmp 10) 3)⟩,
  ⟨some 12, none, (.load 54 (.tmp 11))⟩,
  ⟨some 13, none, (.move (.tmp 1))⟩,
  ⟨some 14, none, (.call { callee := (.value (.func 29)), args := #[(.tmp 12), (.tmp 13)], argTypes := #[54, 28] })⟩,
  ⟨some 15, none, (.extract (.tmp 14) 0)⟩,
  ⟨some 16, none, (.extract (.tmp 14) 1)⟩,
  ⟨none, none, (.store 41 (.tmp 4) (.tmp 15))⟩,
  ⟨some 5, none, (.assign (.tmp 16))⟩] [4, 5]
noncomputable def F16 : CC := (.seq F16_r0 (.seq (.seq F16_r1 (.cond (.tmp 7) (.seq F16_r2 .ret) .skip)) (.seq F16_r3 .ret)))
noncomputable def F16_inf : Nat → RI
  | 0 => ⟨[0, 1, 4], [], []⟩
  | 1 => ⟨[0, 1, 4, 7], [], []⟩
  | 2 => ⟨[4, 5], [], []⟩
  | 3 => ⟨[4, 5], [], []⟩
  | _ => ⟨[], [], []⟩
noncomputable def F16_c : Code := Try.f16.body.getD .skip
theorem F16_b : Try.f16.body = some F16_c := by kernel_rfl
theorem F16_rs : Try.f16.results.toList = ([.cell 4 41, .tmp 5] : List ResultVar) := by kernel_rfl
theorem F16_n : Try.f16.ntmps = 17 := by kernel_rfl
theorem F16_ok : toCC [] 17 F16_inf F16_c = some F16 := by kernel_rfl
theorem F16_in {args : List AV} {G : Hp} {post : AV → Hp → Prop} (ha : args.all AV.plain = true) (hn : args.length ≤ 17) (h : BDs args → awp Try.prog [] F16 (AEnds Try.prog [.cell 4 41, .tmp 5] post) (initT args) G) : ACalls Try.prog 16 args G post :=
  acalls_cc Try.func16 F16_b F16_rs F16_n F16_ok mixed ha hn h

/- 17 (*ostiary/pool.Pool).Put -/
@[simp] noncomputable def F17_r0 : CC := .reg [⟨some 3, none, (.box 41 (.tmp 1))⟩,
  ⟨some 4, none, (.assign (.const (.int .i64 0)))⟩] [0, 3]
@[simp] noncomputable def F17_r1 : CC := .reg [⟨some 10, none, (.move (.tmp 0))⟩,
  ⟨some 11, none, (.binOp .eql 24 (.tmp 10) (.const (.pointer none)) 24)⟩,
  ⟨some 9, none, (.assign (.tmp 11))⟩] [0, 3, 9]
@[simp] noncomputable def F17_r2 : CC := .reg [⟨some 4, none, (.assign (.const (.int .i64 11)))⟩] [4]
@[simp] noncomputable def F17_r3 : CC := .reg [⟨some 13, none, (.move (.tmp 0))⟩,
  ⟨some 14, none, (.fieldAddr 41 (.tmp 3) 1)⟩,
  ⟨some 15, none, (.load 28 (.tmp 14))⟩,
  ⟨some 16, none, (.call { callee := (.value (.func 30)), args := #[(.tmp 13), (.tmp 15)], argTypes := #[24, 28] })⟩,
  ⟨some 17, none, (.unOp .not 4 (.tmp 16))⟩,
  ⟨some 12, none, (.assign (.tmp 17))⟩] [0, 3, 12]
@[simp] noncomputable def F17_r4 : CC := .reg [⟨some 4, none, (.assign (.const (.int .i64 7)))⟩] [4]
@[simp] noncomputable def F17_r5 : CC := .reg [⟨some 19, none, (.move (.tmp 0))⟩,
  ⟨some 20, none, (.fieldAddr 41 (.tmp 3) 1)⟩,
  ⟨some 21, none, (.load 28 (.tmp 20))⟩,
  ⟨some 22, none, (.call { callee := (.value (.func 16)), args := #[(.tmp 19), (.tmp 21)], argTypes := #[24, 28] })⟩,
  ⟨some 18, none, (.move (.tmp 22))⟩,
  ⟨some 23, none, (.extract (.tmp 18) 0)⟩,
  ⟨some 24, none, (.extract (.tmp 18) 1)⟩,
  ⟨some 5, none, (.alloc 41)⟩,
  ⟨none, none, (.store 41 (.tmp 5) (.tmp 23))⟩,
  ⟨some 6, none, (.assign (.tmp 24))⟩] [0, 3, 6]
@[simp] noncomputable def F17_r6 : CC := .reg [⟨some 26, none, (.move (.tmp 0))⟩,
  ⟨some 27, none, (.fieldAddr 41 (.tmp 3) 0)⟩,
  ⟨some 28, none, (.load 39 (.tmp 27))⟩,
  ⟨some 29, none, (.call { callee := (.value (.func 14)), args := #[(.tmp 26), (.tmp 28)], argTypes := #[24, 39] })⟩,
  ⟨some 25, none, (.move (.tmp 29))⟩,
  ⟨some 30, none, (.extract (.tmp 25) 0)⟩,
  ⟨some 31, none, (.extract (.tmp 25) 1)⟩,
  ⟨some 7, none, (.alloc 41)⟩,
  ⟨none, none, (.store 41 (.tmp 7) (.tmp 30))⟩,
  ⟨some 8, none, (.assign (.tmp 31))⟩] [0, 3, 6, 8]
@[simp] noncomputable def F17_r7 : CC := .reg [⟨some 32, none, (.move (.tmp 6))⟩,
  ⟨some 33, none, (.move (.tmp 32))⟩,
  ⟨some 34, some (33, false), (.move (.tmp 8))⟩,
  ⟨some 35, none, (.pick (.tmp 33) (.const (.bool true)) (.tmp 34))⟩] [0, 3, 35]
@[simp] noncomputable def F17_r8 : CC := .reg [⟨some 4, none, (.assign (.const (.int .i64 3)))⟩] [4]
@[simp] noncomputable def F17_r9 : CC := .drw [⟨0, ⟨some 36, none, (.move (.tmp 0))⟩, [], []⟩,
  ⟨1, ⟨some 37, none, (.nilCheck (.tmp 36))⟩, [], []⟩,
  ⟨2, ⟨some 38, none, (.fieldAddr 57 (.tmp 37) 3)⟩, [], []⟩,
  ⟨3, ⟨some 39, none, (.load 54 (.tmp 38))⟩, [], []⟩,
  ⟨4, ⟨some 40, none, (.fieldAddr 41 (.tmp 3) 1)⟩, [], []⟩,
  ⟨5, ⟨some 41, none, (.load 28 (.tmp 40))⟩, [], []⟩,
  ⟨6, ⟨some 42, none, (.load 41 (.tmp 3))⟩, [], []⟩,
  ⟨7, ⟨some 43, none, (.call { callee := (.value (.func 31)), args := #[(.tmp 39), (.tmp 41), (.tmp 42)], argTypes := #[54, 28, 41] })⟩, [], []⟩,
  ⟨8, ⟨some 4, none, (.assign (.tmp 43))⟩, [], []⟩] [36, 37, 38, 39, 40, 41, 42, 43, 4] [4]
noncomputable def F17 : CC := (.seq F17_r0 (.seq (.block 0 (.seq F17_r1 (.cond (.tmp 9) (.seq F17_r2 .ret) (.seq F17_r3 (.cond (.tmp 12) (.seq F17_r4 .ret) .skip))))) (.seq F17_r5 (.seq F17_r6 (.seq (.seq F17_r7 (.cond (.tmp 35) (.seq F17_r8 .ret) .skip)) (.seq F17_r9 .ret))))))
noncomputable def F17_inf : Nat → RI
  | 0 => ⟨[0, 3], [], []⟩
  | 1 => ⟨[0, 3, 9], [], []⟩
  | 2 => ⟨[4], [], []⟩
  | 3 => ⟨[0, 3, 12], [], []⟩
  | 4 => ⟨[4], [], []⟩
  | 5 => ⟨[0, 3, 6], [], []⟩
  | 6 => ⟨[0, 3, 6, 8], [], []⟩
  | 7 => ⟨[0, 3, 35], [], []⟩
  | 8 => ⟨[4], [], []⟩
  | 9 => ⟨[4], [0, 1, 3, 7, 0, 16, 0, 127, 255], [(0, []), (1, []), (2, []), (3, []), (4, []), (5, []), (6, []), (7, []), (8, [])]⟩
  | _ => ⟨[], [], []⟩
noncomputable def F17_c : Code := Try.f17.body.getD .skip
theorem F17_b : Try.f17.body = some F17_c := by kernel_rfl
theorem F17_rs : Try.f17.results.toList = ([.tmp 4] : List ResultVar) := by kernel_rfl
theorem F17_n : Try.f17.ntmps = 44 := by kernel_rfl
theorem F17_ok : toCC [] 44 F17_inf F17_c = some F17 := by kernel_rfl
theorem F17_in {args : List AV} {G : Hp} {post : AV → Hp → Prop} (ha : args.all AV.plain = true) (hn : args.length ≤ 44) (h : BDs args → awp Try.prog [] F17 (AEnds Try.prog [.tmp 4] post) (initT args) G) : ACalls Try.prog 17 args G post :=
  acalls_cc Try.func17 F17_b F17_rs F17_n F17_ok mixed ha hn h

/- 18 (*ostiary/pool.Pool).Tick -/
@[simp] noncomputable def F18_r0 : CC := .reg [⟨some 3, none, (.box 2 (.tmp 1))⟩,
  ⟨some 4, none, (.assign (.const (.slice none 0 0)))⟩] [0, 3]
@[simp] noncomputable def F18_r1 : CC := .reg [⟨some 5, none, (.move (.tmp 0))⟩,
  ⟨some 6, none, (.binOp .eql 24 (.tmp 5) (.const (.pointer none)) 24)⟩] [0, 3, 6]
@[simp] noncomputable def F18_r2 : CC := .reg [⟨some 4, none, (.assign (.const (.slice none 0 0)))⟩] [4]
@[simp] noncomputable def F18_r3 : CC := .reg [⟨some 7, none, (.move (.tmp 0))⟩,
  ⟨some 8, none, (.nilCheck (.tmp 7))⟩,
  ⟨some 9, none, (.fieldAddr 57 (.tmp 8) 3)⟩,
  ⟨some 10, none, (.load 54 (.tmp 9))⟩,
  ⟨some 11, none, (.makeFunc (.func 34) #[] #[(.tmp 3)])⟩,
  ⟨some 12, none, (.call { callee := (.value (.func 33)), args := #[(.tmp 10), (.tmp 11)], argTypes := #[54, 78] })⟩,
  ⟨some 4, none, (.assign (.tmp 12))⟩] [4]
noncomputable def F18 : CC := (.seq F18_r0 (.seq (.seq F18_r1 (.cond (.tmp 6) (.seq F18_r2 .ret) .skip)) (.seq F18_r3 .ret)))
noncomputable def F18_inf : Nat → RI
  | 0 => ⟨[0, 3], [], []⟩
  | 1 => ⟨[0, 3, 6], [], []⟩
  | 2 => ⟨[4], [], []⟩
  | 3 => ⟨[4], [], []⟩
  | _ => ⟨[], [], []⟩
noncomputable def F18_c : Code := Try.f18.body.getD .skip
theorem F18_b : Try.f18.body = some F18_c := by kernel_rfl
theorem F18_rs : Try.f18.results.toList = ([.tmp 4] : List ResultVar) := by kernel_rfl
theorem F18_n : Try.f18.ntmps = 13 := by kernel_rfl
theorem F18_ok : toCC [3] 13 F18_inf F18_c = some F18 := by kernel_rfl
theorem F18_in {args : List AV} {G : Hp} {post : AV → Hp → Prop} (ha : args.all AV.plain = true) (hn : args.length ≤ 13) (h : BDs args → awp Try.prog [3] F18 (AEnds Try.prog [.tmp 4] post) (initT args) G) : ACalls Try.prog 18 args G post :=
  acalls_cc Try.func18 F18_b F18_rs F18_n F18_ok mixed ha hn h

/- 19 ostiary/shelf.NewShelf[ostiary/api.Ip,ostiary/pool.Lease] -/
@[simp] noncomputable def F19_r0 : CC := .reg [⟨some 2, none, (.assign (.const (.pointer none)))⟩] [0]
@[simp] noncomputable def F19_r1 : CC := .reg [⟨some 3, none, (.move (.tmp 0))⟩,
  ⟨some 4, none, (.call { callee := (.builtin .max), args := #[(.tmp 3), (.const (.int .i64 0))], argTypes := #[3, 3] })⟩,
  ⟨some 5, none, (.build 81 #[(1, (.tmp 4))])⟩,
  ⟨some 6, none, (.box 81 (.tmp 5))⟩,
  ⟨some 2, none, (.assign (.tmp 6))⟩] [2]
noncomputable def F19 : CC := (.seq F19_r0 (.seq F19_r1 .ret))
noncomputable def F19_inf : Nat → RI
  | 0 => ⟨[0], [], []⟩
  | 1 => ⟨[2], [], []⟩
  | _ => ⟨[], [], []⟩
noncomputable def F19_c : Code := Try.f19.body.getD .skip
theorem F19_b : Try.f19.body = some F19_c := by kernel_rfl
theorem F19_rs : Try.f19.results.toList = ([.tmp 2] : List ResultVar) := by kernel_rfl
theorem F19_n : Try.f19.ntmps = 7 := by kernel_rfl
theorem F19_ok : toCC [6] 7 F19_inf F19_c = some F19 := by kernel_rfl
theorem F19_in {args : List AV} {G : Hp} {post : AV → Hp → Prop} (ha : args.all AV.plain = true) (hn : args.length ≤ 7) (h : BDs args → awp Try.prog [6] F19 (AEnds Try.prog [.tmp 2] post) (initT args) G) : ACalls Try.prog 19 args G post :=
  acalls_cc Try.func19 F19_b F19_rs F19_n F19_ok mixed ha hn h

/- 20 (*ostiary/ostiaryref23.Pool).Offer -/
@[simp] noncomputable def F20_r0 : CC := .reg [⟨some 6, none, (.assign (.const (.int .u32 0)))⟩,
  ⟨some 7, none, (.assign (.const (.int .i64 0)))⟩] [0, 1, 2]
@[simp] noncomputable def F20_r1 : CC := .reg [⟨some 10, none, (.move (.tmp 0))⟩,
  ⟨some 11, none, (.move (.tmp 1))⟩,
  ⟨some 12, none, (.call { callee := (.value (.func 35)), args := #[(.tmp 10), (.tmp 11)], argTypes := #[29, 33] })⟩,
  ⟨some 8, none, (.assign (.tmp 12))⟩] [0, 2, 8]
@[simp] noncomputable def F20_r2 : CC := .reg [⟨some 13, none, (.move (.tmp 8))⟩,
  ⟨some 14, none, (.binOp .geq 3 (.tmp 13) (.const (.int .i64 0)) 3)⟩] [0, 2, 8, 14]
@[simp] noncomputable def F20_r3 : CC := .reg [⟨some 15, none, (.move (.tmp 0))⟩,
  ⟨some 16, none, (.nilCheck (.tmp 15))⟩,
  ⟨some 17, none, (.fieldAddr 61 (.tmp 16) 3)⟩,
  ⟨some 18, none, (.load 59 (.tmp 17))⟩,
  ⟨some 19, none, (.move (.tmp 8))⟩,
  ⟨some 20, none, (.indexAddr 59 (.tmp 18) (.tmp 19))⟩,
  ⟨some 21, none, (.fieldAddr 66 (.tmp 20) 1)⟩,
  ⟨some 22, none, (.load 22 (.tmp 21))⟩,
  ⟨some 6, none, (.assign (.tmp 22))⟩,
  ⟨some 7, none, (.assign (.const (.int .i64 0)))⟩] [6, 7]
@[simp] noncomputable def F20_r4 : CC := .reg [⟨some 23, none, (.move (.tmp 0))⟩,
  ⟨some 24, none, (.nilCheck (.tmp 23))⟩,
  ⟨some 25, none, (.fieldAddr 61 (.tmp 24) 2)⟩,
  ⟨some 26, none, (.load 58 (.tmp 25))⟩,
  ⟨some 27, none, (.call { callee := (.builtin .len), args := #[(.tmp 26)], argTypes := #[58] })⟩,
  ⟨some 28, none, (.move (.const (.int .i64 0)))⟩] [0, 2, 27, 28]
@[simp] noncomputable def F20_r5 : CC := .reg [⟨some 29, none, (.binOp .lss 3 (.tmp 28) (.tmp 27) 3)⟩] [0, 2, 27, 28, 29]
@[simp] noncomputable def F20_r6 : CC := .reg [⟨some 30, none, (.move (.tmp 28))⟩,
  ⟨some 9, none, (.assign (.tmp 30))⟩] [0, 2, 9, 27, 28]
@[simp] noncomputable def F20_r7 : CC := .reg [⟨some 31, none, (.move (.tmp 0))⟩,
  ⟨some 32, none, (.nilCheck (.tmp 31))⟩,
  ⟨some 33, none, (.fieldAddr 61 (.tmp 32) 2)⟩,
  ⟨some 34, none, (.load 58 (.tmp 33))⟩,
  ⟨some 35, none, (.move (.tmp 9))⟩,
  ⟨some 36, none, (.indexAddr 58 (.tmp 34) (.tmp 35))⟩,
  ⟨some 37, none, (.load 4 (.tmp 36))⟩,
  ⟨some 38, none, (.unOp .not 4 (.tmp 37))⟩,
  ⟨some 39, none, (.move (.tmp 38))⟩,
  ⟨some 40, some (39, false), (.move (.tmp 0))⟩,
  ⟨some 41, some (39, false), (.nilCheck (.tmp 40))⟩,
  ⟨some 42, some (39, false), (.fieldAddr 61 (.tmp 41) 3)⟩,
  ⟨some 43, some (39, false), (.load 59 (.tmp 42))⟩,
  ⟨some 44, some (39, false), (.move (.tmp 9))⟩,
  ⟨some 45, some (39, false), (.indexAddr 59 (.tmp 43) (.tmp 44))⟩,
  ⟨some 46, some (39, false), (.fieldAddr 66 (.tmp 45) 2)⟩,
  ⟨some 47, some (39, false), (.load 2 (.tmp 46))⟩,
  ⟨some 48, some (39, false), (.move (.tmp 2))⟩,
  ⟨some 49, some (39, false), (.binOp .leq 2 (.tmp 47) (.tmp 48) 2)⟩,
  ⟨some 50, none, (.pick (.tmp 39) (.const (.bool true)) (.tmp 49))⟩] [0, 2, 9, 27, 28, 50]
@[simp] noncomputable def F20_r8 : CC := .reg [⟨some 51, none, (.move (.tmp 0))⟩,
  ⟨some 52, none, (.nilCheck (.tmp 51))⟩,
  ⟨some 53, none, (.fieldAddr 61 (.tmp 52) 0)⟩,
  ⟨some 54, none, (.load 22 (.tmp 53))⟩,
  ⟨some 55, none, (.binOp .add 22 (.tmp 54) (.const (.int .u32 1)) 22)⟩,
  ⟨some 56, none, (.move (.tmp 9))⟩,
  ⟨some 57, none, (.convert 3 22 (.tmp 56))⟩,
  ⟨some 58, none, (.binOp .add 22 (.tmp 55) (.tmp 57) 22)⟩,
  ⟨some 6, none, (.assign (.tmp 58))⟩,
  ⟨some 7, none, (.assign (.const (.int .i64 0)))⟩] [6, 7]
@[simp] noncomputable def F20_r9 : CC := .reg [⟨some 59, none, (.binOp .add 3 (.tmp 28) (.const (.int .i64 1)) 3)⟩,
  ⟨some 28, none, (.move (.tmp 59))⟩] [0, 2, 27, 28]
noncomputable def F20_l0 : CC := (.seq F20_r5 (.seq (.cond (.tmp 29) .skip (.exit 0)) (.seq (.block 1 (.seq F20_r6 (.seq F20_r7 (.cond (.tmp 50) (.seq F20_r8 .ret) .skip)))) F20_r9)))
@[simp] noncomputable def F20_r10 : CC := .reg [⟨some 6, none, (.assign (.const (.int .u32 0)))⟩,
  ⟨some 7, none, (.assign (.const (.int .i64 4)))⟩] [6, 7]
noncomputable def F20 : CC := (.seq F20_r0 (.seq F20_r1 (.seq (.seq F20_r2 (.cond (.tmp 14) (.seq F20_r3 .ret) .skip)) (.seq (.seq F20_r4 (.block 0 (.loop F20_l0))) (.seq F20_r10 .ret)))))
noncomputable def F20_inf : Nat → RI
  | 0 => ⟨[0, 1, 2], [], []⟩
  | 1 => ⟨[0, 2, 8], [], []⟩
  | 2 => ⟨[0, 2, 8, 14], [], []⟩
  | 3 => ⟨[6, 7], [], []⟩
  | 4 => ⟨[0, 2, 27, 28], [], []⟩
  | 5 => ⟨[0, 2, 27, 28, 29], [], []⟩
  | 6 => ⟨[0, 2, 9, 27, 28], [], []⟩
  | 7 => ⟨[0, 2, 9, 27, 28, 50], [], []⟩
  | 8 => ⟨[6, 7], [], []⟩
  | 9 => ⟨[0, 2, 27, 28], [], []⟩
  | 10 => ⟨[6, 7], [], []⟩
  | _ => ⟨[], [], []⟩
noncomputable def F20_c : Code := Try.f20.body.getD .skip
theorem F20_b : Try.f20.body = some F20_c := by kernel_rfl
theorem F20_rs : Try.f20.results.toList = ([.tmp 6, .tmp 7] : List ResultVar) := by kernel_rfl
theorem F20_n : Try.f20.ntmps = 60 := by kernel_rfl
theorem F20_ok : toCC [] 60 F20_inf F20_c = some F20 := by kernel_rfl
theorem F20_in {args : List AV} {G : Hp} {post : AV → Hp → Prop} (ha : args.all AV.plain = true) (hn : args.length ≤ 60) (h : BDs args → awp Try.prog [] F20 (AEnds Try.prog [.tmp 6, .tmp 7] post) (initT args) G) : ACalls Try.prog 20 args G post :=
  acalls_cc Try.func20 F20_b F20_rs F20_n F20_ok mixed ha hn h

/- 21 (*ostiary/ostiaryref23.Pool).Grant -/
@[simp] noncomputable def F21_r0 : CC := .reg [⟨some 8, none, (.assign (.const (.int .i64 0)))⟩,
  ⟨some 9, none, (.assign (.const (.int .i64 0)))⟩] [0, 1, 2, 3]
@[simp] noncomputable def F21_r1 : CC := .reg [⟨some 12, none, (.move (.tmp 0))⟩,
  ⟨some 13, none, (.move (.tmp 2))⟩,
  ⟨some 14, none, (.call { callee := (.value (.func 36)), args := #[(.tmp 12), (.tmp 13)], argTypes := #[29, 22] })⟩,
  ⟨some 10, none, (.assign (.tmp 14))⟩] [0, 1, 2, 3, 10]
@[simp] noncomputable def F21_r2 : CC := .reg [⟨some 15, none, (.move (.tmp 10))⟩,
  ⟨some 16, none, (.binOp .lss 3 (.tmp 15) (.const (.int .i64 0)) 3)⟩] [0, 1, 2, 3, 10, 16]
@[simp] noncomputable def F21_r3 : CC := .reg [⟨some 8, none, (.assign (.const (.int .i64 0)))⟩,
  ⟨some 9, none, (.assign (.const (.int .i64 7)))⟩] [8, 9]
@[simp] noncomputable def F21_r4 : CC := .reg [⟨some 17, none, (.move (.tmp 0))⟩,
  ⟨some 18, none, (.nilCheck (.tmp 17))⟩,
  ⟨some 19, none, (.fieldAddr 61 (.tmp 18) 2)⟩,
  ⟨some 20, none, (.load 58 (.tmp 19))⟩,
  ⟨some 21, none, (.move (.tmp 10))⟩,
  ⟨some 22, none, (.indexAddr 58 (.tmp 20) (.tmp 21))⟩,
  ⟨some 23, none, (.load 4 (.tmp 22))⟩,
  ⟨some 24, none, (.move (.tmp 23))⟩,
  ⟨some 25, some (24, true), (.move (.tmp 0))⟩,
  ⟨some 26, some (24, true), (.nilCheck (.tmp 25))⟩,
  ⟨some 27, some (24, true), (.fieldAddr 61 (.tmp 26) 3)⟩,
  ⟨some 28, some (24, true), (.load 59 (.tmp 27))⟩,
  ⟨some 29, some (24, true), (.move (.tmp 10))⟩,
  ⟨some 30, some (24, true), (.indexAddr 59 (.tmp 28) (.tmp 29))⟩,
  ⟨some 31, some (24, true), (.fieldAddr 66 (.tmp 30) 0)⟩,
  ⟨some 32, some (24, true), (.load 33 (.tmp 31))⟩,
  ⟨some 33, some (24, true), (.move (.tmp 1))⟩,
  ⟨some 34, some (24, true), (.binOp .neq 33 (.tmp 32) (.tmp 33) 33)⟩,
  ⟨some 35, none, (.pick (.tmp 24) (.tmp 34) (.const (.bool false)))⟩,
  ⟨some 36, none, (.move (.tmp 35))⟩,
  ⟨some 37, some (36, true), (.move (.tmp 0))⟩,
  ⟨some 38, some (36, true), (.nilCheck (.tmp 37))⟩,
  ⟨some 39, some (36, true), (.fieldAddr 61 (.tmp 38) 3)⟩,
  ⟨some 40, some (36, true), (.load 59 (.tmp 39))⟩,
  ⟨some 41, some (36, true), (.move (.tmp 10))⟩,
  ⟨some 42, some (36, true), (.indexAddr 59 (.tmp 40) (.tmp 41))⟩,
  ⟨some 43, some (36, true), (.fieldAddr 66 (.tmp 42) 2)⟩,
  ⟨some 44, some (36, true), (.load 2 (.tmp 43))⟩,
  ⟨some 45, some (36, true), (.move (.tmp 3))⟩,
  ⟨some 46, some (36, true), (.binOp .gtr 2 (.tmp 44) (.tmp 45) 2)⟩,
  ⟨some 47, none, (.pick (.tmp 36) (.tmp 46) (.const (.bool false)))⟩] [0, 1, 2, 3, 10, 47]
@[simp] noncomputable def F21_r5 : CC := .reg [⟨some 8, none, (.assign (.const (.int .i64 0)))⟩,
  ⟨some 9, none, (.assign (.const (.int .i64 3)))⟩] [8, 9]
@[simp] noncomputable def F21_r6 : CC := .reg [⟨some 48, none, (.move (.tmp 0))⟩,
  ⟨some 49, none, (.move (.tmp 1))⟩,
  ⟨some 50, none, (.call { callee := (.value (.func 35)), args := #[(.tmp 48), (.tmp 49)], argTypes := #[29, 33] })⟩,
  ⟨some 11, none, (.assign (.tmp 50))⟩] [0, 1, 2, 3, 10, 11]
@[simp] noncomputable def F21_r7 : CC := .reg [⟨some 51, none, (.move (.tmp 11))⟩,
  ⟨some 52, none, (.binOp .geq 3 (.tmp 51) (.const (.int .i64 0)) 3)⟩] [0, 1, 2, 3, 10, 11, 52]
@[simp] noncomputable def F21_r8 : CC := .reg [⟨some 53, none, (.move (.tmp 0))⟩,
  ⟨some 54, none, (.nilCheck (.tmp 53))⟩,
  ⟨some 55, none, (.fieldAddr 61 (.tmp 54) 2)⟩,
  ⟨some 56, none, (.load 58 (.tmp 55))⟩,
  ⟨some 57, none, (.move (.tmp 11))⟩,
  ⟨some 58, none, (.indexAddr 58 (.tmp 56) (.tmp 57))⟩,
  ⟨none, none, (.store 4 (.tmp 58) (.const (.bool false)))⟩] [0, 1, 2, 3, 10, 11]
@[simp] noncomputable def F21_r9 : CC := .reg [⟨some 59, none, (.move (.tmp 0))⟩,
  ⟨some 60, none, (.nilCheck (.tmp 59))⟩,
  ⟨some 61, none, (.fieldAddr 61 (.tmp 60) 3)⟩,
  ⟨some 62, none, (.load 59 (.tmp 61))⟩,
  ⟨some 63, none, (.move (.tmp 11))⟩,
  ⟨some 64, none, (.build 66 #[])⟩,
  ⟨some 65, none, (.indexAddr 59 (.tmp 62) (.tmp 63))⟩,
  ⟨none, none, (.store 66 (.tmp 65) (.tmp 64))⟩] [0, 1, 2, 3, 10]
@[simp] noncomputable def F21_r10 : CC := .reg [⟨some 66, none, (.move (.tmp 0))⟩,
  ⟨some 67, none, (.nilCheck (.tmp 66))⟩,
  ⟨some 68, none, (.fieldAddr 61 (.tmp 67) 2)⟩,
  ⟨some 69, none, (.load 58 (.tmp 68))⟩,
  ⟨some 70, none, (.move (.tmp 10))⟩,
  ⟨some 71, none, (.indexAddr 58 (.tmp 69) (.tmp 70))⟩,
  ⟨none, none, (.store 4 (.tmp 71) (.const (.bool true)))⟩] [0, 1, 2, 3, 10]
@[simp] noncomputable def F21_r11 : CC := .drw [⟨0, ⟨some 72, none, (.move (.tmp 0))⟩, [], []⟩,
  ⟨1, ⟨some 73, none, (.nilCheck (.tmp 72))⟩, [], []⟩,
  ⟨2, ⟨some 74, none, (.fieldAddr 61 (.tmp 73) 3)⟩, [], []⟩,
  ⟨3, ⟨some 75, none, (.load 59 (.tmp 74))⟩, [], []⟩,
  ⟨4, ⟨some 76, none, (.move (.tmp 10))⟩, [], []⟩,
  ⟨5, ⟨some 77, none, (.move (.tmp 1))⟩, [], []⟩,
  ⟨6, ⟨some 78, none, (.move (.tmp 2))⟩, [], []⟩,
  ⟨7, ⟨some 79, none, (.move (.tmp 3))⟩, [], []⟩,
  ⟨8, ⟨some 80, none, (.move (.tmp 0))⟩, [], []⟩,
  ⟨9, ⟨some 81, none, (.nilCheck (.tmp 80))⟩, [], []⟩,
  ⟨10, ⟨some 82, none, (.fieldAddr 61 (.tmp 81) 1)⟩, [], []⟩,
  ⟨11, ⟨some 83, none, (.load 2 (.tmp 82))⟩, [], []⟩,
  ⟨12, ⟨some 84, none, (.binOp .add 2 (.tmp 79) (.tmp 83) 2)⟩, [], []⟩,
  ⟨13, ⟨some 85, none, (.build 66 #[(0, (.tmp 77)), (1, (.tmp 78)), (2, (.tmp 84))])⟩, [], []⟩,
  ⟨14, ⟨some 86, none, (.indexAddr 59 (.tmp 75) (.tmp 76))⟩, [], []⟩,
  ⟨15, ⟨none, none, (.store 66 (.tmp 86) (.tmp 85))⟩, [], []⟩] [72, 73, 74, 75, 76, 77, 78, 79, 80, 81, 82, 83, 84, 85, 86] [0, 3]
@[simp] noncomputable def F21_r12 : CC := .reg [⟨some 87, none, (.move (.tmp 3))⟩,
  ⟨some 88, none, (.move (.tmp 0))⟩,
  ⟨some 89, none, (.nilCheck (.tmp 88))⟩,
  ⟨some 90, none, (.fieldAddr 61 (.tmp 89) 1)⟩,
  ⟨some 91, none, (.load 2 (.tmp 90))⟩,
  ⟨some 92, none, (.binOp .add 2 (.tmp 87) (.tmp 91) 2)⟩,
  ⟨some 8, none, (.assign (.tmp 92))⟩,
  ⟨some 9, none, (.assign (.const (.int .i64 0)))⟩] [8, 9]
noncomputable def F21 : CC := (.seq F21_r0 (.seq F21_r1 (.seq (.seq F21_r2 (.cond (.tmp 16) (.seq F21_r3 .ret) .skip)) (.seq (.seq F21_r4 (.cond (.tmp 47) (.seq F21_r5 .ret) .skip)) (.seq F21_r6 (.seq (.seq F21_r7 (.cond (.tmp 52) (.seq F21_r8 F21_r9) .skip)) (.seq F21_r10 (.seq F21_r11 (.seq F21_r12 .ret)))))))))
noncomputable def F21_inf : Nat → RI
  | 0 => ⟨[0, 1, 2, 3], [], []⟩
  | 1 => ⟨[0, 1, 2, 3, 10], [], []⟩
  | 2 => ⟨[0, 1, 2, 3, 10, 16], [], []⟩
  | 3 => ⟨[8, 9], [], []⟩
  | 4 => ⟨[0, 1, 2, 3, 10, 47], [], []⟩
  | 5 => ⟨[8, 9], [], []⟩
  | 6 => ⟨[0, 1, 2, 3, 10, 11], [], []⟩
  | 7 => ⟨[0, 1, 2, 3, 10, 11, 52], [], []⟩
  | 8 => ⟨[0, 1, 2, 3, 10, 11], [], []⟩
  | 9 => ⟨[0, 1, 2, 3, 10], [], []⟩
  | 10 => ⟨[0, 1, 2, 3, 10], [], []⟩
  | 11 => ⟨[0, 3], [0, 1, 3, 7, 0, 0, 0, 0, 0, 256, 768, 1792, 3968, 8160, 16383, 32767], [(0, []), (1, []), (2, []), (3, []), (4, []), (5, []), (6, []), (7, []), (8, []), (9, []), (10, []), (11, []), (12, []), (13, []), (14, []), (15, [])]⟩
  | 12 => ⟨[8, 9], [], []⟩
  | _ => ⟨[], [], []⟩
noncomputable def F21_c : Code := Try.f21.body.getD .skip
theorem F21_b : Try.f21.body = some F21_c := by kernel_rfl
theorem F21_rs : Try.f21.results.toList = ([.tmp 8, .tmp 9] : List ResultVar) := by kernel_rfl
theorem F21_n : Try.f21.ntmps = 93 := by kernel_rfl
theorem F21_ok : toCC [] 93 F21_inf F21_c = some F21 := by kernel_rfl
theorem F21_in {args : List AV} {G : Hp} {post : AV → Hp → Prop} (ha : args.all AV.plain = true) (hn : args.length ≤ 93) (h : BDs args → awp Try.prog [] F21 (AEnds Try.prog [.tmp 8, .tmp 9] post) (initT args) G) : ACalls Try.prog 21 args G post :=
  acalls_cc Try.func21 F21_b F21_rs F21_n F21_ok mixed ha hn h

/- 22 (*ostiary/ostiaryref23.Pool).Free -/
@[simp] noncomputable def F22_r0 : CC := .reg [⟨some 4, none, (.alloc 66)⟩,
  ⟨some 5, none, (.assign (.const (.bool false)))⟩] [0, 1, 4]
@[simp] noncomputable def F22_r1 : CC := .reg [⟨some 8, none, (.move (.tmp 0))⟩,
  ⟨some 9, none, (.move (.tmp 1))⟩,
  ⟨some 10, none, (.call { callee := (.value (.func 35)), args := #[(.tmp 8), (.tmp 9)], argTypes := #[29, 33] })⟩,
  ⟨some 6, none, (.assign (.tmp 10))⟩] [0, 4, 6]
@[simp] noncomputable def F22_r2 : CC := .reg [⟨some 11, none, (.move (.tmp 6))⟩,
  ⟨some 12, none, (.binOp .lss 3 (.tmp 11) (.const (.int .i64 0)) 3)⟩] [0, 4, 6, 12]
@[simp] noncomputable def F22_r3 : CC := .reg [⟨some 13, none, (.build 66 #[])⟩,
  ⟨none, none, (.store 66 (.tmp 4) (.tmp 13))⟩,
  ⟨some 5, none, (.assign (.const (.bool false)))⟩] [4, 5]
@[simp] noncomputable def F22_r4 : CC := .reg [⟨some 14, none, (.move (.tmp 0))⟩,
  ⟨some 15, none, (.nilCheck (.tmp 14))⟩,
  ⟨some 16, none, (.fieldAddr 61 (.tmp 15) 3)⟩,
  ⟨some 17, none, (.load 59 (.tmp 16))⟩,
  ⟨some 18, none, (.move (.tmp 6))⟩,
  ⟨some 19, none, (.indexAddr 59 (.tmp 17) (.tmp 18))⟩,
  ⟨some 20, none, (.load 66 (.tmp 19))⟩,
  ⟨some 7, none, (.alloc 66)⟩,
  ⟨none, none, (.store 66 (.tmp 7) (.tmp 20))⟩] [0, 4, 6, 7]
@[simp] noncomputable def F22_r5 : CC := .reg [⟨some 21, none, (.move (.tmp 0))⟩,
  ⟨some 22, none, (.nilCheck (.tmp 21))⟩,
  ⟨some 23, none, (.fieldAddr 61 (.tmp 22) 2)⟩,
  ⟨some 24, none, (.load 58 (.tmp 23))⟩,
  ⟨some 25, none, (.move (.tmp 6))⟩,
  ⟨some 26, none, (.indexAddr 58 (.tmp 24) (.tmp 25))⟩,
  ⟨none, none, (.store 4 (.tmp 26) (.const (.bool false)))⟩] [0, 4, 6, 7]
@[simp] noncomputable def F22_r6 : CC := .reg [⟨some 27, none, (.move (.tmp 0))⟩,
  ⟨some 28, none, (.nilCheck (.tmp 27))⟩,
  ⟨some 29, none, (.fieldAddr 61 (.tmp 28) 3)⟩,
  ⟨some 30, none, (.load 59 (.tmp 29))⟩,
  ⟨some 31, none, (.move (.tmp 6))⟩,
  ⟨some 32, none, (.build 66 #[])⟩,
  ⟨some 33, none, (.indexAddr 59 (.tmp 30) (.tmp 31))⟩,
  ⟨none, none, (.store 66 (.tmp 33) (.tmp 32))⟩] [4, 7]
@[simp] noncomputable def F22_r7 : CC := .reg [⟨some 34, none, (.load 66 (.tmp 7))⟩,
  ⟨none, none, (.store 66 (.tmp 4) (.tmp 34))⟩,
  ⟨some 5, none, (.assign (.const (.bool true)))⟩] [4, 5]
noncomputable def F22 : CC := (.seq F22_r0 (.seq F22_r1 (.seq (.seq F22_r2 (.cond (.tmp 12) (.seq F22_r3 .ret) .skip)) (.seq F22_r4 (.seq F22_r5 (.seq F22_r6 (.seq F22_r7 .ret)))))))
noncomputable def F22_inf : Nat → RI
  | 0 => ⟨[0, 1, 4], [], []⟩
  | 1 => ⟨[0, 4, 6], [], []⟩
  | 2 => ⟨[0, 4, 6, 12], [], []⟩
  | 3 => ⟨[4, 5], [], []⟩
  | 4 => ⟨[0, 4, 6, 7], [], []⟩
  | 5 => ⟨[0, 4, 6, 7], [], []⟩
  | 6 => ⟨[4, 7], [], []⟩
  | 7 => ⟨[4, 5], [], []⟩
  | _ => ⟨[], [], []⟩
noncomputable def F22_c : Code := Try.f22.body.getD .skip
theorem F22_b : Try.f22.body = some F22_c := by kernel_rfl
theorem F22_rs : Try.f22.results.toList = ([.cell 4 66, .tmp 5] : List ResultVar) := by kernel_rfl
theorem F22_n : Try.f22.ntmps = 35 := by kernel_rfl
theorem F22_ok : toCC [] 35 F22_inf F22_c = some F22 := by kernel_rfl
theorem F22_in {args : List AV} {G : Hp} {post : AV → Hp → Prop} (ha : args.all AV.plain = true) (hn : args.length ≤ 35) (h : BDs args → awp Try.prog [] F22 (AEnds Try.prog [.cell 4 66, .tmp 5] post) (initT args) G) : ACalls Try.prog 22 args G post :=
  acalls_cc Try.func22 F22_b F22_rs F22_n F22_ok mixed ha hn h

/- 23 ostiary/ostiarylaw23.plain -/
@[simp] noncomputable def F23_r0 : CC := .reg [⟨some 1, none, (.box 41 (.tmp 0))⟩,
  ⟨some 2, none, (.alloc 66)⟩] [1, 2]
@[simp] noncomputable def F23_r1 : CC := .reg [⟨some 3, none, (.fieldAddr 41 (.tmp 1) 0)⟩,
  ⟨some 4, none, (.load 39 (.tmp 3))⟩,
  ⟨some 5, none, (.fieldAddr 41 (.tmp 1) 1)⟩,
  ⟨some 6, none, (.load 28 (.tmp 5))⟩,
  ⟨some 7, none, (.fieldAddr 41 (.tmp 1) 2)⟩,
  ⟨some 8, none, (.load 2 (.tmp 7))⟩,
  ⟨some 9, none, (.build 66 #[(0, (.tmp 4)), (1, (.tmp 6)), (2, (.tmp 8))])⟩,
  ⟨none, none, (.store 66 (.tmp 2) (.tmp 9))⟩] [2]
noncomputable def F23 : CC := (.seq F23_r0 (.seq F23_r1 .ret))
noncomputable def F23_inf : Nat → RI
  | 0 => ⟨[1, 2], [], []⟩
  | 1 => ⟨[2], [], []⟩
  | _ => ⟨[], [], []⟩
noncomputable def F23_c : Code := Try.f23.body.getD .skip
theorem F23_b : Try.f23.body = some F23_c := by kernel_rfl
theorem F23_rs : Try.f23.results.toList = ([.cell 2 66] : List ResultVar) := by kernel_rfl
theorem F23_n : Try.f23.ntmps = 10 := by kernel_rfl
theorem F23_ok : toCC [] 10 F23_inf F23_c = some F23 := by kernel_rfl
theorem F23_in {args : List AV} {G : Hp} {post : AV → Hp → Prop} (ha : args.all AV.plain = true) (hn : args.length ≤ 10) (h : BDs args → awp Try.prog [] F23 (AEnds Try.prog [.cell 2 66] post) (initT args) G) : ACalls Try.prog 23 args G post :=
  acalls_cc Try.func23 F23_b F23_rs F23_n F23_ok mixed ha hn h

/- 24 ostiary/ostiaryref23.Same -/
@[simp] noncomputable def F24_r0 : CC := .reg [⟨some 4, none, (.assign (.const (.bool false)))⟩] [0, 1]
@[simp] noncomputable def F24_r1 : CC := .reg [⟨some 6, none, (.move (.tmp 0))⟩,
  ⟨some 7, none, (.call { callee := (.builtin .len), args := #[(.tmp 6)], argTypes := #[59] })⟩,
  ⟨some 8, none, (.move (.tmp 1))⟩,
  ⟨some 9, none, (.call { callee := (.builtin .len), args := #[(.tmp 8)], argTypes := #[59] })⟩,
  ⟨some 10, none, (.binOp .neq 3 (.tmp 7) (.tmp 9) 3)⟩] [0, 1, 10]
@[simp] noncomputable def F24_r2 : CC := .reg [⟨some 4, none, (.assign (.const (.bool false)))⟩] [4]
@[simp] noncomputable def F24_r3 : CC := .reg [⟨some 11, none, (.move (.tmp 0))⟩,
  ⟨some 12, none, (.call { callee := (.builtin .len), args := #[(.tmp 11)], argTypes := #[59] })⟩,
  ⟨some 13, none, (.move (.const (.int .i64 0)))⟩] [0, 1, 12, 13]
@[simp] noncomputable def F24_r4 : CC := .reg [⟨some 14, none, (.binOp .lss 3 (.tmp 13) (.tmp 12) 3)⟩] [0, 1, 12, 13, 14]
@[simp] noncomputable def F24_r5 : CC := .reg [⟨some 15, none, (.move (.tmp 13))⟩,
  ⟨some 5, none, (.assign (.tmp 15))⟩] [0, 1, 5, 12, 13]
@[simp] noncomputable def F24_r6 : CC := .drw [⟨0, ⟨some 16, none, (.move (.tmp 0))⟩, [], []⟩,
  ⟨1, ⟨some 17, none, (.move (.tmp 5))⟩, [], []⟩,
  ⟨2, ⟨some 18, none, (.indexAddr 59 (.tmp 16) (.tmp 17))⟩, [], []⟩,
  ⟨3, ⟨some 19, none, (.load 66 (.tmp 18))⟩, [], []⟩,
  ⟨4, ⟨some 20, none, (.move (.tmp 1))⟩, [], []⟩,
  ⟨5, ⟨some 21, none, (.move (.tmp 5))⟩, [], []⟩,
  ⟨6, ⟨some 22, none, (.indexAddr 59 (.tmp 20) (.tmp 21))⟩, [], []⟩,
  ⟨7, ⟨some 23, none, (.load 66 (.tmp 22))⟩, [], []⟩,
  ⟨8, ⟨some 24, none, (.binOp .neq 66 (.tmp 19) (.tmp 23) 66)⟩, [], []⟩] [16, 17, 18, 19, 20, 21, 22, 23, 24] [0, 1, 12, 13, 24]
@[simp] noncomputable def F24_r7 : CC := .reg [⟨some 4, none, (.assign (.const (.bool false)))⟩] [4]
@[simp] noncomputable def F24_r8 : CC := .reg [⟨some 25, none, (.binOp .add 3 (.tmp 13) (.const (.int .i64 1)) 3)⟩,
  ⟨some 13, none, (.move (.tmp 25))⟩] [0, 1, 12, 13]
noncomputable def F24_l0 : CC := (.seq F24_r4 (.seq (.cond (.tmp 14) .skip (.exit 0)) (.seq (.block 1 (.seq F24_r5 (.seq F24_r6 (.cond (.tmp 24) (.seq F24_r7 .ret) .skip)))) F24_r8)))
@[simp] noncomputable def F24_r9 : CC := .reg [⟨some 4, none, (.assign (.const (.bool true)))⟩] [4]
noncomputable def F24 : CC := (.seq F24_r0 (.seq (.seq F24_r1 (.cond (.tmp 10) (.seq F24_r2 .ret) .skip)) (.seq (.seq F24_r3 (.block 0 (.loop F24_l0))) (.seq F24_r9 .ret))))
noncomputable def F24_inf : Nat → RI
  | 0 => ⟨[0, 1], [], []⟩
  | 1 => ⟨[0, 1, 10], [], []⟩
  | 2 => ⟨[4], [], []⟩
  | 3 => ⟨[0, 1, 12, 13], [], []⟩
  | 4 => ⟨[0, 1, 12, 13, 14], [], []⟩
  | 5 => ⟨[0, 1, 5, 12, 13], [], []⟩
  | 6 => ⟨[0, 1, 12, 13, 24], [0, 0, 3, 7, 0, 0, 48, 112, 255], [(0, []), (1, []), (2, []), (3, []), (4, []), (5, []), (6, []), (7, []), (8, [])]⟩
  | 7 => ⟨[4], [], []⟩
  | 8 => ⟨[0, 1, 12, 13], [], []⟩
  | 9 => ⟨[4], [], []⟩
  | _ => ⟨[], [], []⟩
noncomputable def F24_c : Code := Try.f24.body.getD .skip
theorem F24_b : Try.f24.body = some F24_c := by kernel_rfl
theorem F24_rs : Try.f24.results.toList = ([.tmp 4] : List ResultVar) := by kernel_rfl
theorem F24_n : Try.f24.ntmps = 26 := by kernel_rfl
theorem F24_ok : toCC [] 26 F24_inf F24_c = some F24 := by kernel_rfl
theorem F24_in {args : List AV} {G : Hp} {post : AV → Hp → Prop} (ha : args.all AV.plain = true) (hn : args.length ≤ 26) (h : BDs args → awp Try.prog [] F24 (AEnds Try.prog [.tmp 4] post) (initT args) G) : ACalls Try.prog 24 args G post :=
  acalls_cc Try.func24 F24_b F24_rs F24_n F24_ok mixed ha hn h

/- 25 ostiary/ostiarylaw23.Plain -/
@[simp] noncomputable def F25_r0 : CC := .reg [⟨some 2, none, (.assign (.const (.slice none 0 0)))⟩] [0]
@[simp] noncomputable def F25_r1 : CC := .reg [⟨some 3, none, (.assign (.const (.slice none 0 0)))⟩] [0, 3]
@[simp] noncomputable def F25_r2 : CC := .reg [⟨some 6, none, (.move (.tmp 0))⟩,
  ⟨some 7, none, (.call { callee := (.builtin .len), args := #[(.tmp 6)], argTypes := #[37] })⟩,
  ⟨some 8, none, (.move (.const (.int .i64 0)))⟩] [3, 6, 7, 8]
@[simp] noncomputable def F25_r3 : CC := .reg [⟨some 9, none, (.binOp .lss 3 (.tmp 8) (.tmp 7) 3)⟩] [3, 6, 7, 8, 9]
@[simp] noncomputable def F25_r4 : CC := .reg [⟨some 10, none, (.indexAddr 37 (.tmp 6) (.tmp 8))⟩,
  ⟨some 11, none, (.load 41 (.tmp 10))⟩,
  ⟨some 5, none, (.alloc 41)⟩,
  ⟨none, none, (.store 41 (.tmp 5) (.tmp 11))⟩] [3, 5, 6, 7, 8]
@[simp] noncomputable def F25_r5 : CC := .reg [⟨some 12, none, (.move (.tmp 3))⟩,
  ⟨some 13, none, (.load 41 (.tmp 5))⟩,
  ⟨some 14, none, (.call { callee := (.value (.func 23)), args := #[(.tmp 13)], argTypes := #[41] })⟩,
  ⟨some 15, none, (.buildSlice 59 1 #[(0, (.tmp 14))])⟩,
  ⟨some 16, none, (.call { callee := (.builtin .append), args := #[(.tmp 12), (.tmp 15)], argTypes := #[59, 59] })⟩,
  ⟨some 3, none, (.assign (.tmp 16))⟩] [3, 6, 7, 8]
@[simp] noncomputable def F25_r6 : CC := .reg [⟨some 17, none, (.binOp .add 3 (.tmp 8) (.const (.int .i64 1)) 3)⟩,
  ⟨some 8, none, (.move (.tmp 17))⟩] [3, 6, 7, 8]
noncomputable def F25_l0 : CC := (.seq F25_r3 (.seq (.cond (.tmp 9) .skip (.exit 0)) (.seq (.block 1 (.seq F25_r4 F25_r5)) F25_r6)))
@[simp] noncomputable def F25_r7 : CC := .reg [⟨some 18, none, (.move (.tmp 3))⟩,
  ⟨some 2, none, (.assign (.tmp 18))⟩] [2]
noncomputable def F25 : CC := (.seq F25_r0 (.seq F25_r1 (.seq (.seq F25_r2 (.block 0 (.loop F25_l0))) (.seq F25_r7 .ret))))
noncomputable def F25_inf : Nat → RI
  | 0 => ⟨[0], [], []⟩
  | 1 => ⟨[0, 3], [], []⟩
  | 2 => ⟨[3, 6, 7, 8], [], []⟩
  | 3 => ⟨[3, 6, 7, 8, 9], [], []⟩
  | 4 => ⟨[3, 5, 6, 7, 8], [], []⟩
  | 5 => ⟨[3, 6, 7, 8], [], []⟩
  | 6 => ⟨[3, 6, 7, 8], [], []⟩
  | 7 => ⟨[2], [], []⟩
  | _ => ⟨[], [], []⟩
noncomputable def F25_c : Code := Try.f25.body.getD .skip
theorem F25_b : Try.f25.body = some F25_c := by kernel_rfl
theorem F25_rs : Try.f25.results.toList = ([.tmp 2] : List ResultVar) := by kernel_rfl
theorem F25_n : Try.f25.ntmps = 19 := by kernel_rfl
theorem F25_ok : toCC [] 19 F25_inf F25_c = some F25 := by kernel_rfl
theorem F25_in {args : List AV} {G : Hp} {post : AV → Hp → Prop} (ha : args.all AV.plain = true) (hn : args.length ≤ 19) (h : BDs args → awp Try.prog [] F25 (AEnds Try.prog [.tmp 2] post) (initT args) G) : ACalls Try.prog 25 args G post :=
  acalls_cc Try.func25 F25_b F25_rs F25_n F25_ok mixed ha hn h

/- 26 (*ostiary/ostiaryref23.Pool).Tick -/
@[simp] noncomputable def F26_r0 : CC := .reg [⟨some 4, none, (.assign (.const (.slice none 0 0)))⟩] [0, 1]
@[simp] noncomputable def F26_r1 : CC := .reg [⟨some 5, none, (.assign (.const (.slice none 0 0)))⟩] [0, 1, 5]
@[simp] noncomputable def F26_r2 : CC := .reg [⟨some 7, none, (.move (.tmp 0))⟩,
  ⟨some 8, none, (.nilCheck (.tmp 7))⟩,
  ⟨some 9, none, (.fieldAddr 61 (.tmp 8) 2)⟩,
  ⟨some 10, none, (.load 58 (.tmp 9))⟩,
  ⟨some 11, none, (.call { callee := (.builtin .len), args := #[(.tmp 10)], argTypes := #[58] })⟩,
  ⟨some 12, none, (.move (.const (.int .i64 0)))⟩] [0, 1, 5, 11, 12]
@[simp] noncomputable def F26_r3 : CC := .reg [⟨some 13, none, (.binOp .lss 3 (.tmp 12) (.tmp 11) 3)⟩] [0, 1, 5, 11, 12, 13]
@[simp] noncomputable def F26_r4 : CC := .reg [⟨some 14, none, (.move (.tmp 12))⟩,
  ⟨some 6, none, (.assign (.tmp 14))⟩] [0, 1, 5, 6, 11, 12]
@[simp] noncomputable def F26_r5 : CC := .reg [⟨some 15, none, (.move (.tmp 0))⟩,
  ⟨some 16, none, (.nilCheck (.tmp 15))⟩,
  ⟨some 17, none, (.fieldAddr 61 (.tmp 16) 2)⟩,
  ⟨some 18, none, (.load 58 (.tmp 17))⟩,
  ⟨some 19, none, (.move (.tmp 6))⟩,
  ⟨some 20, none, (.indexAddr 58 (.tmp 18) (.tmp 19))⟩,
  ⟨some 21, none, (.load 4 (.tmp 20))⟩,
  ⟨some 22, none, (.move (.tmp 21))⟩,
  ⟨some 23, some (22, true), (.move (.tmp 0))⟩,
  ⟨some 24, some (22, true), (.nilCheck (.tmp 23))⟩,
  ⟨some 25, some (22, true), (.fieldAddr 61 (.tmp 24) 3)⟩,
  ⟨some 26, some (22, true), (.load 59 (.tmp 25))⟩,
  ⟨some 27, some (22, true), (.move (.tmp 6))⟩,
  ⟨some 28, some (22, true), (.indexAddr 59 (.tmp 26) (.tmp 27))⟩,
  ⟨some 29, some (22, true), (.fieldAddr 66 (.tmp 28) 2)⟩,
  ⟨some 30, some (22, true), (.load 2 (.tmp 29))⟩,
  ⟨some 31, some (22, true), (.move (.tmp 1))⟩,
  ⟨some 32, some (22, true), (.binOp .leq 2 (.tmp 30) (.tmp 31) 2)⟩,
  ⟨some 33, none, (.pick (.tmp 22) (.tmp 32) (.const (.bool false)))⟩] [0, 1, 5, 6, 11, 12, 33]
@[simp] noncomputable def F26_r6 : CC := .reg [⟨some 34, none, (.move (.tmp 5))⟩,
  ⟨some 35, none, (.move (.tmp 0))⟩,
  ⟨some 36, none, (.nilCheck (.tmp 35))⟩,
  ⟨some 37, none, (.fieldAddr 61 (.tmp 36) 3)⟩,
  ⟨some 38, none, (.load 59 (.tmp 37))⟩,
  ⟨some 39, none, (.move (.tmp 6))⟩,
  ⟨some 40, none, (.indexAddr 59 (.tmp 38) (.tmp 39))⟩,
  ⟨some 41, none, (.load 66 (.tmp 40))⟩,
  ⟨some 42, none, (.buildSlice 59 1 #[(0, (.tmp 41))])⟩,
  ⟨some 43, none, (.call { callee := (.builtin .append), args := #[(.tmp 34), (.tmp 42)], argTypes := #[59, 59] })⟩,
  ⟨some 5, none, (.assign (.tmp 43))⟩] [0, 1, 5, 6, 11, 12]
@[simp] noncomputable def F26_r7 : CC := .reg [⟨some 44, none, (.move (.tmp 0))⟩,
  ⟨some 45, none, (.nilCheck (.tmp 44))⟩,
  ⟨some 46, none, (.fieldAddr 61 (.tmp 45) 2)⟩,
  ⟨some 47, none, (.load 58 (.tmp 46))⟩,
  ⟨some 48, none, (.move (.tmp 6))⟩,
  ⟨some 49, none, (.indexAddr 58 (.tmp 47) (.tmp 48))⟩,
  ⟨none, none, (.store 4 (.tmp 49) (.const (.bool false)))⟩] [0, 1, 5, 6, 11, 12]
@[simp] noncomputable def F26_r8 : CC := .reg [⟨some 50, none, (.move (.tmp 0))⟩,
  ⟨some 51, none, (.nilCheck (.tmp 50))⟩,
  ⟨some 52, none, (.fieldAddr 61 (.tmp 51) 3)⟩,
  ⟨some 53, none, (.load 59 (.tmp 52))⟩,
  ⟨some 54, none, (.move (.tmp 6))⟩,
  ⟨some 55, none, (.build 66 #[])⟩,
  ⟨some 56, none, (.indexAddr 59 (.tmp 53) (.tmp 54))⟩,
  ⟨none, none, (.store 66 (.tmp 56) (.tmp 55))⟩] [0, 1, 5, 11, 12]
@[simp] noncomputable def F26_r9 : CC := .reg [⟨some 57, none, (.binOp .add 3 (.tmp 12) (.const (.int .i64 1)) 3)⟩,
  ⟨some 12, none, (.move (.tmp 57))⟩] [0, 1, 5, 11, 12]
noncomputable def F26_l0 : CC := (.seq F26_r3 (.seq (.cond (.tmp 13) .skip (.exit 0)) (.seq (.block 1 (.seq F26_r4 (.seq F26_r5 (.cond (.tmp 33) (.seq F26_r6 (.seq F26_r7 F26_r8)) .skip)))) F26_r9)))
@[simp] noncomputable def F26_r10 : CC := .reg [⟨some 58, none, (.move (.tmp 5))⟩,
  ⟨some 4, none, (.assign (.tmp 58))⟩] [4]
noncomputable def F26 : CC := (.seq F26_r0 (.seq F26_r1 (.seq (.seq F26_r2 (.block 0 (.loop F26_l0))) (.seq F26_r10 .ret))))
noncomputable def F26_inf : Nat → RI
  | 0 => ⟨[0, 1], [], []⟩
  | 1 => ⟨[0, 1, 5], [], []⟩
  | 2 => ⟨[0, 1, 5, 11, 12], [], []⟩
  | 3 => ⟨[0, 1, 5, 11, 12, 13], [], []⟩
  | 4 => ⟨[0, 1, 5, 6, 11, 12], [], []⟩
  | 5 => ⟨[0, 1, 5, 6, 11, 12, 33], [], []⟩
  | 6 => ⟨[0, 1, 5, 6, 11, 12], [], []⟩
  | 7 => ⟨[0, 1, 5, 6, 11, 12], [], []⟩
  | 8 => ⟨[0, 1, 5, 11, 12], [], []⟩
  | 9 => ⟨[0, 1, 5, 11, 12], [], []⟩
  | 10 => ⟨[4], [], []⟩
  | _ => ⟨[], [], []⟩
noncomputable def F26_c : Code := Try.f26.body.getD .skip
theorem F26_b : Try.f26.body = some F26_c := by kernel_rfl
theorem F26_rs : Try.f26.results.toList = ([.tmp 4] : List ResultVar) := by kernel_rfl
theorem F26_n : Try.f26.ntmps = 59 := by kernel_rfl
theorem F26_ok : toCC [] 59 F26_inf F26_c = some F26 := by kernel_rfl
theorem F26_in {args : List AV} {G : Hp} {post : AV → Hp → Prop} (ha : args.all AV.plain = true) (hn : args.length ≤ 59) (h : BDs args → awp Try.prog [] F26 (AEnds Try.prog [.tmp 4] post) (initT args) G) : ACalls Try.prog 26 args G post :=
  acalls_cc Try.func26 F26_b F26_rs F26_n F26_ok mixed ha hn h
end Go.Proofs.Ytjkighndbjnbjaa
