import Derived.Test.YtgideonigiokbaaC0K
set_option linter.unusedVariables false
set_option linter.unusedSimpArgs false
set_option maxRecDepth 100000
namespace Go.Proofs.Ytgideonigiokbaa
open Go Go.Al

/- 52 ostiary/ostiaryref08.to -/
@[simp] noncomputable def F52_r0 : CC := .reg [⟨some 8, none, (.assign (.const (.bool false)))⟩] [0, 1, 2, 3]
@[simp] noncomputable def F52_r1 : CC := .reg [⟨some 9, none, (.move (.tmp 1))⟩,
  ⟨some 10, none, (.unOp .not 4 (.tmp 9))⟩] [0, 2, 3, 10]
@[simp] noncomputable def F52_r2 : CC := .reg [⟨some 11, none, (.move (.tmp 0))⟩,
  ⟨some 12, none, (.binOp .eql 3 (.tmp 11) (.const (.int .i64 0)) 3)⟩,
  ⟨some 8, none, (.assign (.tmp 12))⟩] [8]
@[simp] noncomputable def F52_r3 : CC := .reg [⟨some 13, none, (.move (.tmp 0))⟩,
  ⟨some 14, none, (.move (.tmp 2))⟩,
  ⟨some 15, none, (.binOp .geq 3 (.tmp 13) (.tmp 14) 3)⟩,
  ⟨some 16, none, (.move (.tmp 15))⟩,
  ⟨some 17, some (16, true), (.move (.tmp 0))⟩,
  ⟨some 18, some (16, true), (.move (.tmp 3))⟩,
  ⟨some 19, some (16, true), (.binOp .leq 3 (.tmp 17) (.tmp 18) 3)⟩,
  ⟨some 20, none, (.pick (.tmp 16) (.tmp 19) (.const (.bool false)))⟩,
  ⟨some 8, none, (.assign (.tmp 20))⟩] [8]
noncomputable def F52 : CC := (.seq F52_r0 (.seq (.seq F52_r1 (.cond (.tmp 10) (.seq F52_r2 .ret) .skip)) (.seq F52_r3 .ret)))
noncomputable def F52_inf : Nat → RI
  | 0 => ⟨[0, 1, 2, 3], [], []⟩
  | 1 => ⟨[0, 2, 3, 10], [], []⟩
  | 2 => ⟨[8], [], []⟩
  | 3 => ⟨[8], [], []⟩
  | _ => ⟨[], [], []⟩
noncomputable def F52_c : Code := Try.f52.body.getD .skip
theorem F52_b : Try.f52.body = some F52_c := by kernel_rfl
theorem F52_rs : Try.f52.results.toList = ([.tmp 8] : List ResultVar) := by kernel_rfl
theorem F52_n : Try.f52.ntmps = 21 := by kernel_rfl
theorem F52_ok : toCC [] 21 F52_inf F52_c = some F52 := by kernel_rfl
theorem F52_in {args : List AV} {G : Hp} {post : AV → Hp → Prop} (ha : args.all AV.plain = true) (hn : args.length ≤ 21) (h : BDs args → awp Try.prog [] F52 (AEnds Try.prog [.tmp 8] post) (initT args) G) : ACalls Try.prog 52 args G post :=
  acalls_cc Try.func52 F52_b F52_rs F52_n F52_ok mixed ha hn h

/- 53 ostiary/ostiaryref06.Good -/
@[simp] noncomputable def F53_r0 : CC := .reg [⟨some 1, none, (.box 27 (.tmp 0))⟩,
  ⟨some 2, none, (.assign (.const (.bool false)))⟩] [1]
@[simp] noncomputable def F53_r1 : CC := .reg [⟨some 4, none, (.fieldAddr 27 (.tmp 1) 0)⟩,
  ⟨some 5, none, (.load 24 (.tmp 4))⟩,
  ⟨some 6, none, (.binOp .geq 23 (.tmp 5) (.const (.int .u64 281474976710656)) 23)⟩,
  ⟨some 7, none, (.move (.tmp 6))⟩,
  ⟨some 8, some (7, false), (.fieldAddr 27 (.tmp 1) 1)⟩,
  ⟨some 9, some (7, false), (.load 24 (.tmp 8))⟩,
  ⟨some 10, some (7, false), (.binOp .geq 23 (.tmp 9) (.const (.int .u64 281474976710656)) 23)⟩,
  ⟨some 11, none, (.pick (.tmp 7) (.const (.bool true)) (.tmp 10))⟩,
  ⟨some 12, none, (.move (.tmp 11))⟩,
  ⟨some 13, some (12, false), (.fieldAddr 27 (.tmp 1) 4)⟩,
  ⟨some 14, some (12, false), (.load 3 (.tmp 13))⟩,
  ⟨some 15, some (12, false), (.binOp .lss 3 (.tmp 14) (.const (.int .i64 0)) 3)⟩,
  ⟨some 16, none, (.pick (.tmp 12) (.const (.bool true)) (.tmp 15))⟩,
  ⟨some 17, none, (.move (.tmp 16))⟩,
  ⟨some 18, some (17, false), (.fieldAddr 27 (.tmp 1) 4)⟩,
  ⟨some 19, some (17, false), (.load 3 (.tmp 18))⟩,
  ⟨some 20, some (17, false), (.binOp .geq 3 (.tmp 19) (.const (.int .i64 256)) 3)⟩,
  ⟨some 21, none, (.pick (.tmp 17) (.const (.bool true)) (.tmp 20))⟩] [1, 21]
@[simp] noncomputable def F53_r2 : CC := .reg [⟨some 2, none, (.assign (.const (.bool false)))⟩] [2]
@[simp] noncomputable def F53_r3 : CC := .reg [⟨some 3, none, (.assign (.const (.int .i64 0)))⟩] [1, 3]
@[simp] noncomputable def F53_r4 : CC := .reg [⟨some 22, none, (.fieldAddr 27 (.tmp 1) 4)⟩,
  ⟨some 23, none, (.load 3 (.tmp 22))⟩,
  ⟨some 24, none, (.binOp .eql 3 (.tmp 23) (.const (.int .i64 6)) 3)⟩,
  ⟨some 25, none, (.move (.tmp 24))⟩,
  ⟨some 26, some (25, false), (.fieldAddr 27 (.tmp 1) 4)⟩,
  ⟨some 27, some (25, false), (.load 3 (.tmp 26))⟩,
  ⟨some 28, some (25, false), (.binOp .eql 3 (.tmp 27) (.const (.int .i64 17)) 3)⟩,
  ⟨some 29, none, (.pick (.tmp 25) (.const (.bool true)) (.tmp 28))⟩] [1, 3, 29]
@[simp] noncomputable def F53_r5 : CC := .reg [⟨some 3, none, (.assign (.const (.int .i64 65535)))⟩] [1, 3]
@[simp] noncomputable def F53_r6 : CC := .reg [⟨some 30, none, (.fieldAddr 27 (.tmp 1) 5)⟩,
  ⟨some 31, none, (.load 3 (.tmp 30))⟩,
  ⟨some 32, none, (.binOp .geq 3 (.tmp 31) (.const (.int .i64 0)) 3)⟩,
  ⟨some 33, none, (.move (.tmp 32))⟩,
  ⟨some 34, some (33, true), (.fieldAddr 27 (.tmp 1) 5)⟩,
  ⟨some 35, some (33, true), (.load 3 (.tmp 34))⟩,
  ⟨some 36, some (33, true), (.move (.tmp 3))⟩,
  ⟨some 37, some (33, true), (.binOp .leq 3 (.tmp 35) (.tmp 36) 3)⟩,
  ⟨some 38, none, (.pick (.tmp 33) (.tmp 37) (.const (.bool false)))⟩,
  ⟨some 39, none, (.move (.tmp 38))⟩,
  ⟨some 40, some (39, true), (.fieldAddr 27 (.tmp 1) 6)⟩,
  ⟨some 41, some (39, true), (.load 3 (.tmp 40))⟩,
  ⟨some 42, some (39, true), (.binOp .geq 3 (.tmp 41) (.const (.int .i64 0)) 3)⟩,
  ⟨some 43, none, (.pick (.tmp 39) (.tmp 42) (.const (.bool false)))⟩,
  ⟨some 44, none, (.move (.tmp 43))⟩,
  ⟨some 45, some (44, true), (.fieldAddr 27 (.tmp 1) 6)⟩,
  ⟨some 46, some (44, true), (.load 3 (.tmp 45))⟩,
  ⟨some 47, some (44, true), (.move (.tmp 3))⟩,
  ⟨some 48, some (44, true), (.binOp .leq 3 (.tmp 46) (.tmp 47) 3)⟩,
  ⟨some 49, none, (.pick (.tmp 44) (.tmp 48) (.const (.bool false)))⟩,
  ⟨some 2, none, (.assign (.tmp 49))⟩] [2]
noncomputable def F53 : CC := (.seq F53_r0 (.seq (.seq F53_r1 (.cond (.tmp 21) (.seq F53_r2 .ret) .skip)) (.seq F53_r3 (.seq (.seq F53_r4 (.cond (.tmp 29) F53_r5 .skip)) (.seq F53_r6 .ret)))))
noncomputable def F53_inf : Nat → RI
  | 0 => ⟨[1], [], []⟩
  | 1 => ⟨[1, 21], [], []⟩
  | 2 => ⟨[2], [], []⟩
  | 3 => ⟨[1, 3], [], []⟩
  | 4 => ⟨[1, 3, 29], [], []⟩
  | 5 => ⟨[1, 3], [], []⟩
  | 6 => ⟨[2], [], []⟩
  | _ => ⟨[], [], []⟩
noncomputable def F53_c : Code := Try.f53.body.getD .skip
theorem F53_b : Try.f53.body = some F53_c := by kernel_rfl
theorem F53_rs : Try.f53.results.toList = ([.tmp 2] : List ResultVar) := by kernel_rfl
theorem F53_n : Try.f53.ntmps = 50 := by kernel_rfl
theorem F53_ok : toCC [] 50 F53_inf F53_c = some F53 := by kernel_rfl
theorem F53_in {args : List AV} {G : Hp} {post : AV → Hp → Prop} (ha : args.all AV.plain = true) (hn : args.length ≤ 50) (h : BDs args → awp Try.prog [] F53 (AEnds Try.prog [.tmp 2] post) (initT args) G) : ACalls Try.prog 53 args G post :=
  acalls_cc Try.func53 F53_b F53_rs F53_n F53_ok mixed ha hn h

/- 54 bytes.Equal -/
@[simp] noncomputable def F54_r0 : CC := .reg [⟨some 4, none, (.assign (.const (.bool false)))⟩] [0, 1]
@[simp] noncomputable def F54_r1 : CC := .reg [⟨some 5, none, (.move (.tmp 0))⟩,
  ⟨some 6, none, (.convert 52 9 (.tmp 5))⟩,
  ⟨some 7, none, (.move (.tmp 1))⟩,
  ⟨some 8, none, (.convert 52 9 (.tmp 7))⟩,
  ⟨some 9, none, (.binOp .eql 9 (.tmp 6) (.tmp 8) 9)⟩,
  ⟨some 4, none, (.assign (.tmp 9))⟩] [4]
noncomputable def F54 : CC := (.seq F54_r0 (.seq F54_r1 .ret))
noncomputable def F54_inf : Nat → RI
  | 0 => ⟨[0, 1], [], []⟩
  | 1 => ⟨[4], [], []⟩
  | _ => ⟨[], [], []⟩
noncomputable def F54_c : Code := Try.f54.body.getD .skip
theorem F54_b : Try.f54.body = some F54_c := by kernel_rfl
theorem F54_rs : Try.f54.results.toList = ([.tmp 4] : List ResultVar) := by kernel_rfl
theorem F54_n : Try.f54.ntmps = 10 := by kernel_rfl
theorem F54_ok : toCC [] 10 F54_inf F54_c = some F54 := by kernel_rfl
theorem F54_in {args : List AV} {G : Hp} {post : AV → Hp → Prop} (ha : args.all AV.plain = true) (hn : args.length ≤ 10) (h : BDs args → awp Try.prog [] F54 (AEnds Try.prog [.tmp 4] post) (initT args) G) : ACalls Try.prog 54 args G post :=
  acalls_cc Try.func54 F54_b F54_rs F54_n F54_ok mixed ha hn h

/- 55 slices.rotateLeft[ostiary/shelf.slot[uint32, ostiary/plan.one]] -/
@[simp] noncomputable def F55_r0 : CC := .reg [⟨some 4, none, (.move (.tmp 0))⟩,
  ⟨some 5, none, (.move (.tmp 1))⟩,
  ⟨some 6, none, (.slice 95 (.tmp 4) none (some (.tmp 5)) none)⟩,
  ⟨some 7, none, (.call { callee := (.value (.func 57)), args := #[(.tmp 6)], argTypes := #[95] })⟩] [0, 1]
@[simp] noncomputable def F55_r1 : CC := .reg [⟨some 8, none, (.move (.tmp 0))⟩,
  ⟨some 9, none, (.move (.tmp 1))⟩,
  ⟨some 10, none, (.slice 95 (.tmp 8) (some (.tmp 9)) none none)⟩,
  ⟨some 11, none, (.call { callee := (.value (.func 57)), args := #[(.tmp 10)], argTypes := #[95] })⟩] [0]
@[simp] noncomputable def F55_r2 : CC := .reg [⟨some 12, none, (.move (.tmp 0))⟩,
  ⟨some 13, none, (.call { callee := (.value (.func 57)), args := #[(.tmp 12)], argTypes := #[95] })⟩] []
noncomputable def F55 : CC := (.seq F55_r0 (.seq F55_r1 F55_r2))
noncomputable def F55_inf : Nat → RI
  | 0 => ⟨[0, 1], [], []⟩
  | 1 => ⟨[0], [], []⟩
  | 2 => ⟨[], [], []⟩
  | _ => ⟨[], [], []⟩
noncomputable def F55_c : Code := Try.f55.body.getD .skip
theorem F55_b : Try.f55.body = some F55_c := by kernel_rfl
theorem F55_rs : Try.f55.results.toList = ([] : List ResultVar) := by kernel_rfl
theorem F55_n : Try.f55.ntmps = 14 := by kernel_rfl
theorem F55_ok : toCC [] 14 F55_inf F55_c = some F55 := by kernel_rfl
theorem F55_in {args : List AV} {G : Hp} {post : AV → Hp → Prop} (ha : args.all AV.plain = true) (hn : args.length ≤ 14) (h : BDs args → awp Try.prog [] F55 (AEnds Try.prog [] post) (initT args) G) : ACalls Try.prog 55 args G post :=
  acalls_cc Try.func55 F55_b F55_rs F55_n F55_ok mixed ha hn h

/- 56 ostiary/ostiaryref08.Fields -/
@[simp] noncomputable def F56_r0 : CC := .reg [⟨some 2, none, (.assign (.const (.string { data := #[] })))⟩] [0]
@[simp] noncomputable def F56_r1 : CC := .reg [⟨some 3, none, (.move (.tmp 0))⟩,
  ⟨some 4, none, (.binOp .lss 3 (.tmp 3) (.const (.int .i64 1)) 3)⟩,
  ⟨some 5, none, (.move (.tmp 4))⟩,
  ⟨some 6, some (5, false), (.move (.tmp 0))⟩,
  ⟨some 7, some (5, false), (.binOp .gtr 3 (.tmp 6) (.const (.int .i64 13)) 3)⟩,
  ⟨some 8, none, (.pick (.tmp 5) (.const (.bool true)) (.tmp 7))⟩] [0, 8]
@[simp] noncomputable def F56_r2 : CC := .reg [⟨some 2, none, (.assign (.const (.string { data := #[] })))⟩] [2]
@[simp] noncomputable def F56_r3 : CC := .reg [⟨some 9, none, (.buildSlice 122 14 #[(0, (.const (.string { data := #[] }))), (1, (.const (.string { data := #[117] }))), (2, (.const (.string { data := #[101, 115] }))), (3, (.const (.string { data := #[101, 112, 98, 102] }))), (4, (.const (.string { data := #[101, 115] }))), (5, (.const (.string { data := #[117] }))), (6, (.const (.string { data := #[112, 114] }))), (7, (.const (.string { data := #[101, 115] }))), (8, (.const (.string { data := #[101, 115] }))), (9, (.const (.string { data := #[101, 115, 112, 111, 119, 107] }))), (10, (.const (.string { data := #[101, 115] }))), (11, (.const (.string { data := #[101, 112, 102] }))), (12, (.const (.string { data := #[98] }))), (13, (.const (.string { data := #[112] })))])⟩,
  ⟨some 10, none, (.move (.tmp 0))⟩,
  ⟨some 11, none, (.indexAddr 122 (.tmp 9) (.tmp 10))⟩,
  ⟨some 12, none, (.load 9 (.tmp 11))⟩,
  ⟨some 2, none, (.assign (.tmp 12))⟩] [2]
noncomputable def F56 : CC := (.seq F56_r0 (.seq (.seq F56_r1 (.cond (.tmp 8) (.seq F56_r2 .ret) .skip)) (.seq F56_r3 .ret)))
noncomputable def F56_inf : Nat → RI
  | 0 => ⟨[0], [], []⟩
  | 1 => ⟨[0, 8], [], []⟩
  | 2 => ⟨[2], [], []⟩
  | 3 => ⟨[2], [], []⟩
  | _ => ⟨[], [], []⟩
noncomputable def F56_c : Code := Try.f56.body.getD .skip
theorem F56_b : Try.f56.body = some F56_c := by kernel_rfl
theorem F56_rs : Try.f56.results.toList = ([.tmp 2] : List ResultVar) := by kernel_rfl
theorem F56_n : Try.f56.ntmps = 13 := by kernel_rfl
theorem F56_ok : toCC [] 13 F56_inf F56_c = some F56 := by kernel_rfl
theorem F56_in {args : List AV} {G : Hp} {post : AV → Hp → Prop} (ha : args.all AV.plain = true) (hn : args.length ≤ 13) (h : BDs args → awp Try.prog [] F56 (AEnds Try.prog [.tmp 2] post) (initT args) G) : ACalls Try.prog 56 args G post :=
  acalls_cc Try.func56 F56_b F56_rs F56_n F56_ok mixed ha hn h

/- 57 slices.Reverse[[]ostiary/shelf.slot[uint32, ostiary/plan.one],ostiary/shelf.slot[uint32, ostiary/plan.one]] -/
@[simp] noncomputable def F57_r0 : CC := .reg [⟨some 4, none, (.move (.tmp 0))⟩,
  ⟨some 5, none, (.call { callee := (.builtin .len), args := #[(.tmp 4)], argTypes := #[95] })⟩,
  ⟨some 6, none, (.binOp .sub 3 (.tmp 5) (.const (.int .i64 1)) 3)⟩,
  ⟨some 2, none, (.assign (.const (.int .i64 0)))⟩,
  ⟨some 3, none, (.assign (.tmp 6))⟩] [0, 2, 3]
@[simp] noncomputable def F57_r1 : CC := .reg [⟨some 7, none, (.move (.tmp 2))⟩,
  ⟨some 8, none, (.move (.tmp 3))⟩,
  ⟨some 9, none, (.binOp .lss 3 (.tmp 7) (.tmp 8) 3)⟩] [0, 2, 3, 9]
@[simp] noncomputable def F57_r3 : CC := .drw [⟨0, ⟨some 14, none, (.move (.tmp 0))⟩, [], []⟩,
  ⟨1, ⟨some 15, none, (.move (.tmp 2))⟩, [], []⟩,
  ⟨2, ⟨some 16, none, (.move (.tmp 0))⟩, [], []⟩,
  ⟨3, ⟨some 17, none, (.move (.tmp 3))⟩, [], []⟩,
  ⟨4, ⟨some 18, none, (.move (.tmp 0))⟩, [], []⟩,
  ⟨5, ⟨some 19, none, (.move (.tmp 3))⟩, [], []⟩,
  ⟨6, ⟨some 20, none, (.indexAddr 95 (.tmp 18) (.tmp 19))⟩, [], []⟩,
  ⟨7, ⟨some 21, none, (.load 101 (.tmp 20))⟩, [], []⟩,
  ⟨8, ⟨some 22, none, (.move (.tmp 0))⟩, [], []⟩,
  ⟨9, ⟨some 23, none, (.move (.tmp 2))⟩, [], []⟩,
  ⟨10, ⟨some 24, none, (.indexAddr 95 (.tmp 22) (.tmp 23))⟩, [], []⟩,
  ⟨11, ⟨some 25, none, (.load 101 (.tmp 24))⟩, [], []⟩,
  ⟨12, ⟨some 26, none, (.indexAddr 95 (.tmp 14) (.tmp 15))⟩, [], []⟩,
  ⟨13, ⟨none, none, (.store 101 (.tmp 26) (.tmp 21))⟩, [], []⟩,
  ⟨14, ⟨some 27, none, (.indexAddr 95 (.tmp 16) (.tmp 17))⟩, [], []⟩,
  ⟨15, ⟨none, none, (.store 101 (.tmp 27) (.tmp 25))⟩, [], []⟩] [14, 15, 16, 17, 18, 19, 20, 21, 22, 23, 24, 25, 26, 27] [0, 2, 3]
@[simp] noncomputable def F57_r2 : CC := .reg [⟨some 10, none, (.move (.tmp 2))⟩,
  ⟨some 11, none, (.binOp .add 3 (.tmp 10) (.const (.int .i64 1)) 3)⟩,
  ⟨some 12, none, (.move (.tmp 3))⟩,
  ⟨some 13, none, (.binOp .sub 3 (.tmp 12) (.const (.int .i64 1)) 3)⟩,
  ⟨some 2, none, (.assign (.tmp 11))⟩,
  ⟨some 3, none, (.assign (.tmp 13))⟩] [0, 2, 3]
noncomputable def F57_l0 : CC := (.seq (.seq F57_r1 (.cond (.tmp 9) .skip (.exit 0))) (.seq (.block 1 F57_r3) F57_r2))
noncomputable def F57 : CC := (.seq F57_r0 (.block 0 (.loop F57_l0)))
noncomputable def F57_inf : Nat → RI
  | 0 => ⟨[0, 2, 3], [], []⟩
  | 1 => ⟨[0, 2, 3, 9], [], []⟩
  | 3 => ⟨[0, 2, 3], [0, 0, 0, 0, 0, 0, 48, 112, 0, 0, 768, 1792, 4083, 8179, 16383, 32767], [(0, []), (1, []), (2, []), (3, []), (4, []), (5, []), (6, []), (7, []), (8, []), (9, []), (10, []), (11, []), (12, []), (13, []), (14, []), (15, [])]⟩
  | 2 => ⟨[0, 2, 3], [], []⟩
  | _ => ⟨[], [], []⟩
noncomputable def F57_c : Code := Try.f57.body.getD .skip
theorem F57_b : Try.f57.body = some F57_c := by kernel_rfl
theorem F57_rs : Try.f57.results.toList = ([] : List ResultVar) := by kernel_rfl
theorem F57_n : Try.f57.ntmps = 28 := by kernel_rfl
theorem F57_ok : toCC [] 28 F57_inf F57_c = some F57 := by kernel_rfl
theorem F57_in {args : List AV} {G : Hp} {post : AV → Hp → Prop} (ha : args.all AV.plain = true) (hn : args.length ≤ 28) (h : BDs args → awp Try.prog [] F57 (AEnds Try.prog [] post) (initT args) G) : ACalls Try.prog 57 args G post :=
  acalls_cc Try.func57 F57_b F57_rs F57_n F57_ok mixed ha hn h
end Go.Proofs.Ytgideonigiokbaa
