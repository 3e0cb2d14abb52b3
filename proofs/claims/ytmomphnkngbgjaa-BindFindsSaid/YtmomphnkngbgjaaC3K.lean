import Derived.Test.YtmomphnkngbgjaaC0K
set_option linter.unusedVariables false
set_option linter.unusedSimpArgs false
set_option maxRecDepth 100000
namespace Go.Proofs.Ytmomphnkngbgjaa
open Go Go.Al

/- 27 ostiary/shelf.NewShelf[ostiary/api.Mac,ostiary/bind.Binding] -/
@[simp] noncomputable def F27_r0 : CC := .reg [⟨some 2, none, (.assign (.const (.pointer none)))⟩] [0]
@[simp] noncomputable def F27_r1 : CC := .reg [⟨some 3, none, (.move (.tmp 0))⟩,
  ⟨some 4, none, (.call { callee := (.builtin .max), args := #[(.tmp 3), (.const (.int .i64 0))], argTypes := #[3, 3] })⟩,
  ⟨some 5, none, (.build 93 #[(1, (.tmp 4))])⟩,
  ⟨some 6, none, (.box 93 (.tmp 5))⟩,
  ⟨some 2, none, (.assign (.tmp 6))⟩] [2]
noncomputable def F27 : CC := (.seq F27_r0 (.seq F27_r1 .ret))
noncomputable def F27_inf : Nat → RI
  | 0 => ⟨[0], [], []⟩
  | 1 => ⟨[2], [], []⟩
  | _ => ⟨[], [], []⟩
noncomputable def F27_c : Code := Try.f27.body.getD .skip
theorem F27_b : Try.f27.body = some F27_c := by kernel_rfl
theorem F27_rs : Try.f27.results.toList = ([.tmp 2] : List ResultVar) := by kernel_rfl
theorem F27_n : Try.f27.ntmps = 7 := by kernel_rfl
theorem F27_ok : toCC [6] 7 F27_inf F27_c = some F27 := by kernel_rfl
theorem F27_in {args : List AV} {G : Hp} {post : AV → Hp → Prop} (ha : args.all AV.plain = true) (hn : args.length ≤ 7) (h : BDs args → awp Try.prog [6] F27 (AEnds Try.prog [.tmp 2] post) (initT args) G) : ACalls Try.prog 27 args G post :=
  acalls_cc Try.func27 F27_b F27_rs F27_n F27_ok mixed ha hn h

/- 28 ostiary/ostiaryref25.Put -/
@[simp] noncomputable def F28_r0 : CC := .reg [⟨some 3, none, (.box 31 (.tmp 1))⟩,
  ⟨some 4, none, (.assign (.const (.slice none 0 0)))⟩,
  ⟨some 5, none, (.assign (.const (.slice none 0 0)))⟩,
  ⟨some 6, none, (.assign (.const (.bool false)))⟩] [0, 3]
@[simp] noncomputable def F28_r1 : CC := .reg [⟨some 13, none, (.load 31 (.tmp 3))⟩,
  ⟨some 14, none, (.call { callee := (.value (.func 25)), args := #[(.tmp 13)], argTypes := #[31] })⟩,
  ⟨some 15, none, (.unOp .not 4 (.tmp 14))⟩] [0, 3, 15]
@[simp] noncomputable def F28_r2 : CC := .reg [⟨some 16, none, (.move (.tmp 0))⟩,
  ⟨some 4, none, (.assign (.tmp 16))⟩,
  ⟨some 5, none, (.assign (.const (.slice none 0 0)))⟩,
  ⟨some 6, none, (.assign (.const (.bool false)))⟩] [4, 5, 6]
@[simp] noncomputable def F28_r3 : CC := .reg [⟨some 18, none, (.move (.tmp 0))⟩,
  ⟨some 19, none, (.load 31 (.tmp 3))⟩,
  ⟨some 20, none, (.call { callee := (.value (.func 32)), args := #[(.tmp 18), (.const (.int .i64 0)), (.tmp 19), (.const (.slice none 0 0)), (.const (.string { data := #[] })), (.const (.int .i64 0))], argTypes := #[29, 3, 31, 77, 9, 2] })⟩,
  ⟨some 17, none, (.move (.tmp 20))⟩,
  ⟨some 21, none, (.extract (.tmp 17) 0)⟩,
  ⟨some 22, none, (.extract (.tmp 17) 1)⟩,
  ⟨some 7, none, (.assign (.tmp 21))⟩,
  ⟨some 8, none, (.assign (.tmp 22))⟩] [3, 7, 8]
@[simp] noncomputable def F28_r4 : CC := .reg [⟨some 9, none, (.assign (.const (.slice none 0 0)))⟩] [3, 7, 8, 9]
@[simp] noncomputable def F28_r5 : CC := .reg [⟨some 10, none, (.assign (.const (.bool false)))⟩] [3, 7, 8, 9, 10]
@[simp] noncomputable def F28_r6 : CC := .reg [⟨some 23, none, (.move (.tmp 8))⟩,
  ⟨some 24, none, (.call { callee := (.builtin .len), args := #[(.tmp 23)], argTypes := #[29] })⟩,
  ⟨some 25, none, (.move (.const (.int .i64 0)))⟩] [3, 7, 9, 10, 23, 24, 25]
@[simp] noncomputable def F28_r7 : CC := .reg [⟨some 26, none, (.binOp .lss 3 (.tmp 25) (.tmp 24) 3)⟩] [3, 7, 9, 10, 23, 24, 25, 26]
@[simp] noncomputable def F28_r8 : CC := .reg [⟨some 27, none, (.indexAddr 29 (.tmp 23) (.tmp 25))⟩,
  ⟨some 28, none, (.load 31 (.tmp 27))⟩,
  ⟨some 12, none, (.alloc 31)⟩,
  ⟨none, none, (.store 31 (.tmp 12) (.tmp 28))⟩] [3, 7, 9, 10, 12, 23, 24, 25]
@[simp] noncomputable def F28_r9 : CC := .reg [⟨some 29, none, (.move (.tmp 10))⟩,
  ⟨some 30, none, (.unOp .not 4 (.tmp 29))⟩,
  ⟨some 31, none, (.move (.tmp 30))⟩,
  ⟨some 32, some (31, true), (.fieldAddr 31 (.tmp 3) 0)⟩,
  ⟨some 33, some (31, true), (.load 25 (.tmp 32))⟩,
  ⟨some 34, some (31, true), (.fieldAddr 31 (.tmp 12) 0)⟩,
  ⟨some 35, some (31, true), (.load 25 (.tmp 34))⟩,
  ⟨some 36, some (31, true), (.binOp .lss 25 (.tmp 33) (.tmp 35) 25)⟩,
  ⟨some 37, none, (.pick (.tmp 31) (.tmp 36) (.const (.bool false)))⟩] [3, 7, 9, 10, 12, 23, 24, 25, 37]
@[simp] noncomputable def F28_r10 : CC := .reg [⟨some 38, none, (.move (.tmp 9))⟩,
  ⟨some 39, none, (.load 31 (.tmp 3))⟩,
  ⟨some 40, none, (.buildSlice 29 1 #[(0, (.tmp 39))])⟩,
  ⟨some 41, none, (.call { callee := (.builtin .append), args := #[(.tmp 38), (.tmp 40)], argTypes := #[29, 29] })⟩,
  ⟨some 9, none, (.assign (.tmp 41))⟩] [3, 7, 9, 12, 23, 24, 25]
@[simp] noncomputable def F28_r11 : CC := .reg [⟨some 10, none, (.assign (.const (.bool true)))⟩] [3, 7, 9, 10, 12, 23, 24, 25]
@[simp] noncomputable def F28_r12 : CC := .reg [⟨some 42, none, (.move (.tmp 9))⟩,
  ⟨some 43, none, (.load 31 (.tmp 12))⟩,
  ⟨some 44, none, (.buildSlice 29 1 #[(0, (.tmp 43))])⟩,
  ⟨some 45, none, (.call { callee := (.builtin .append), args := #[(.tmp 42), (.tmp 44)], argTypes := #[29, 29] })⟩,
  ⟨some 9, none, (.assign (.tmp 45))⟩] [3, 7, 9, 10, 23, 24, 25]
@[simp] noncomputable def F28_r13 : CC := .reg [⟨some 46, none, (.binOp .add 3 (.tmp 25) (.const (.int .i64 1)) 3)⟩,
  ⟨some 25, none, (.move (.tmp 46))⟩] [3, 7, 9, 10, 23, 24, 25]
noncomputable def F28_l0 : CC := (.seq F28_r7 (.seq (.cond (.tmp 26) .skip (.exit 0)) (.seq (.block 1 (.seq F28_r8 (.seq (.seq F28_r9 (.cond (.tmp 37) (.seq F28_r10 F28_r11) .skip)) F28_r12))) F28_r13)))
@[simp] noncomputable def F28_r14 : CC := .reg [⟨some 47, none, (.move (.tmp 10))⟩,
  ⟨some 48, none, (.unOp .not 4 (.tmp 47))⟩] [3, 7, 9, 48]
@[simp] noncomputable def F28_r15 : CC := .reg [⟨some 49, none, (.move (.tmp 9))⟩,
  ⟨some 50, none, (.load 31 (.tmp 3))⟩,
  ⟨some 51, none, (.buildSlice 29 1 #[(0, (.tmp 50))])⟩,
  ⟨some 52, none, (.call { callee := (.builtin .append), args := #[(.tmp 49), (.tmp 51)], argTypes := #[29, 29] })⟩,
  ⟨some 9, none, (.assign (.tmp 52))⟩] [7, 9]
@[simp] noncomputable def F28_r16 : CC := .reg [⟨some 53, none, (.move (.tmp 9))⟩,
  ⟨some 54, none, (.move (.tmp 7))⟩,
  ⟨some 4, none, (.assign (.tmp 53))⟩,
  ⟨some 5, none, (.assign (.tmp 54))⟩,
  ⟨some 6, none, (.assign (.const (.bool true)))⟩] [4, 5, 6]
noncomputable def F28 : CC := (.seq F28_r0 (.seq (.seq F28_r1 (.cond (.tmp 15) (.seq F28_r2 .ret) .skip)) (.seq F28_r3 (.seq F28_r4 (.seq F28_r5 (.seq (.seq F28_r6 (.block 0 (.loop F28_l0))) (.seq (.seq F28_r14 (.cond (.tmp 48) F28_r15 .skip)) (.seq F28_r16 .ret))))))))
noncomputable def F28_inf : Nat → RI
  | 0 => ⟨[0, 3], [], []⟩
  | 1 => ⟨[0, 3, 15], [], []⟩
  | 2 => ⟨[4, 5, 6], [], []⟩
  | 3 => ⟨[3, 7, 8], [], []⟩
  | 4 => ⟨[3, 7, 8, 9], [], []⟩
  | 5 => ⟨[3, 7, 8, 9, 10], [], []⟩
  | 6 => ⟨[3, 7, 9, 10, 23, 24, 25], [], []⟩
  | 7 => ⟨[3, 7, 9, 10, 23, 24, 25, 26], [], []⟩
  | 8 => ⟨[3, 7, 9, 10, 12, 23, 24, 25], [], []⟩
  | 9 => ⟨[3, 7, 9, 10, 12, 23, 24, 25, 37], [], []⟩
  | 10 => ⟨[3, 7, 9, 12, 23, 24, 25], [], []⟩
  | 11 => ⟨[3, 7, 9, 10, 12, 23, 24, 25], [], []⟩
  | 12 => ⟨[3, 7, 9, 10, 23, 24, 25], [], []⟩
  | 13 => ⟨[3, 7, 9, 10, 23, 24, 25], [], []⟩
  | 14 => ⟨[3, 7, 9, 48], [], []⟩
  | 15 => ⟨[7, 9], [], []⟩
  | 16 => ⟨[4, 5, 6], [], []⟩
  | _ => ⟨[], [], []⟩
noncomputable def F28_c : Code := Try.f28.body.getD .skip
theorem F28_b : Try.f28.body = some F28_c := by kernel_rfl
theorem F28_rs : Try.f28.results.toList = ([.tmp 4, .tmp 5, .tmp 6] : List ResultVar) := by kernel_rfl
theorem F28_n : Try.f28.ntmps = 55 := by kernel_rfl
theorem F28_ok : toCC [] 55 F28_inf F28_c = some F28 := by kernel_rfl
theorem F28_in {args : List AV} {G : Hp} {post : AV → Hp → Prop} (ha : args.all AV.plain = true) (hn : args.length ≤ 55) (h : BDs args → awp Try.prog [] F28 (AEnds Try.prog [.tmp 4, .tmp 5, .tmp 6] post) (initT args) G) : ACalls Try.prog 28 args G post :=
  acalls_cc Try.func28 F28_b F28_rs F28_n F28_ok mixed ha hn h

/- 29 ostiary/ostiaryref25.Same -/
@[simp] noncomputable def F29_r0 : CC := .reg [⟨some 4, none, (.assign (.const (.bool false)))⟩] [0, 1]
@[simp] noncomputable def F29_r1 : CC := .reg [⟨some 6, none, (.move (.tmp 0))⟩,
  ⟨some 7, none, (.call { callee := (.builtin .len), args := #[(.tmp 6)], argTypes := #[29] })⟩,
  ⟨some 8, none, (.move (.tmp 1))⟩,
  ⟨some 9, none, (.call { callee := (.builtin .len), args := #[(.tmp 8)], argTypes := #[29] })⟩,
  ⟨some 10, none, (.binOp .neq 3 (.tmp 7) (.tmp 9) 3)⟩] [0, 1, 10]
@[simp] noncomputable def F29_r2 : CC := .reg [⟨some 4, none, (.assign (.const (.bool false)))⟩] [4]
@[simp] noncomputable def F29_r3 : CC := .reg [⟨some 11, none, (.move (.tmp 0))⟩,
  ⟨some 12, none, (.call { callee := (.builtin .len), args := #[(.tmp 11)], argTypes := #[29] })⟩,
  ⟨some 13, none, (.move (.const (.int .i64 0)))⟩] [0, 1, 12, 13]
@[simp] noncomputable def F29_r4 : CC := .reg [⟨some 14, none, (.binOp .lss 3 (.tmp 13) (.tmp 12) 3)⟩] [0, 1, 12, 13, 14]
@[simp] noncomputable def F29_r5 : CC := .reg [⟨some 15, none, (.move (.tmp 13))⟩,
  ⟨some 5, none, (.assign (.tmp 15))⟩] [0, 1, 5, 12, 13]
@[simp] noncomputable def F29_r6 : CC := .drw [⟨0, ⟨some 16, none, (.move (.tmp 0))⟩, [], []⟩,
  ⟨1, ⟨some 17, none, (.move (.tmp 5))⟩, [], []⟩,
  ⟨2, ⟨some 18, none, (.indexAddr 29 (.tmp 16) (.tmp 17))⟩, [], []⟩,
  ⟨3, ⟨some 19, none, (.load 31 (.tmp 18))⟩, [], []⟩,
  ⟨4, ⟨some 20, none, (.move (.tmp 1))⟩, [], []⟩,
  ⟨5, ⟨some 21, none, (.move (.tmp 5))⟩, [], []⟩,
  ⟨6, ⟨some 22, none, (.indexAddr 29 (.tmp 20) (.tmp 21))⟩, [], []⟩,
  ⟨7, ⟨some 23, none, (.load 31 (.tmp 22))⟩, [], []⟩,
  ⟨8, ⟨some 24, none, (.binOp .neq 31 (.tmp 19) (.tmp 23) 31)⟩, [], []⟩] [16, 17, 18, 19, 20, 21, 22, 23, 24] [0, 1, 12, 13, 24]
@[simp] noncomputable def F29_r7 : CC := .reg [⟨some 4, none, (.assign (.const (.bool false)))⟩] [4]
@[simp] noncomputable def F29_r8 : CC := .reg [⟨some 25, none, (.binOp .add 3 (.tmp 13) (.const (.int .i64 1)) 3)⟩,
  ⟨some 13, none, (.move (.tmp 25))⟩] [0, 1, 12, 13]
noncomputable def F29_l0 : CC := (.seq F29_r4 (.seq (.cond (.tmp 14) .skip (.exit 0)) (.seq (.block 1 (.seq F29_r5 (.seq F29_r6 (.cond (.tmp 24) (.seq F29_r7 .ret) .skip)))) F29_r8)))
@[simp] noncomputable def F29_r9 : CC := .reg [⟨some 4, none, (.assign (.const (.bool true)))⟩] [4]
noncomputable def F29 : CC := (.seq F29_r0 (.seq (.seq F29_r1 (.cond (.tmp 10) (.seq F29_r2 .ret) .skip)) (.seq (.seq F29_r3 (.block 0 (.loop F29_l0))) (.seq F29_r9 .ret))))
noncomputable def F29_inf : Nat → RI
  | 0 => ⟨[0, 1], [], []⟩
  | 1 => ⟨[0, 1, 10], [], []⟩
  | 2 => ⟨[4], [], []⟩
  | 3 => ⟨[0, 1, 12, 13], [], []⟩
  | 4 => ⟨[0, 1, 12, 13, 14], [], []⟩
  | 5 => ⟨[0, 1, 5, 12, 13], [], []⟩
  | 6 => ⟨[0, 1, 12, 13, 24], [0, 0, 3, 7, 0, 0, 48, 112, 255], [(0, []), (1, []), (2, []), (3, []), (4, []), (5, []), (6, []), (7, []), (8, [])]⟩
  | 7 => ⟨[4], [], []⟩
  | 8 => ⟨[0, 1, 12, 13], [], []⟩
  | 9 => ⟨[4], [], []⟩
  | _ => ⟨[], [], []⟩
noncomputable def F29_c : Code := Try.f29.body.getD .skip
theorem F29_b : Try.f29.body = some F29_c := by kernel_rfl
theorem F29_rs : Try.f29.results.toList = ([.tmp 4] : List ResultVar) := by kernel_rfl
theorem F29_n : Try.f29.ntmps = 26 := by kernel_rfl
theorem F29_ok : toCC [] 26 F29_inf F29_c = some F29 := by kernel_rfl
theorem F29_in {args : List AV} {G : Hp} {post : AV → Hp → Prop} (ha : args.all AV.plain = true) (hn : args.length ≤ 26) (h : BDs args → awp Try.prog [] F29 (AEnds Try.prog [.tmp 4] post) (initT args) G) : ACalls Try.prog 29 args G post :=
  acalls_cc Try.func29 F29_b F29_rs F29_n F29_ok mixed ha hn h

/- 30 ostiary/ostiarylaw25.Plain -/
@[simp] noncomputable def F30_r0 : CC := .reg [⟨some 2, none, (.assign (.const (.slice none 0 0)))⟩] [0]
@[simp] noncomputable def F30_r1 : CC := .reg [⟨some 3, none, (.assign (.const (.slice none 0 0)))⟩] [0, 3]
@[simp] noncomputable def F30_r2 : CC := .reg [⟨some 6, none, (.move (.tmp 0))⟩,
  ⟨some 7, none, (.call { callee := (.builtin .len), args := #[(.tmp 6)], argTypes := #[47] })⟩,
  ⟨some 8, none, (.move (.const (.int .i64 0)))⟩] [3, 6, 7, 8]
@[simp] noncomputable def F30_r3 : CC := .reg [⟨some 9, none, (.binOp .lss 3 (.tmp 8) (.tmp 7) 3)⟩] [3, 6, 7, 8, 9]
@[simp] noncomputable def F30_r4 : CC := .reg [⟨some 10, none, (.indexAddr 47 (.tmp 6) (.tmp 8))⟩,
  ⟨some 11, none, (.load 40 (.tmp 10))⟩,
  ⟨some 5, none, (.alloc 40)⟩,
  ⟨none, none, (.store 40 (.tmp 5) (.tmp 11))⟩] [3, 5, 6, 7, 8]
@[simp] noncomputable def F30_r5 : CC := .reg [⟨some 12, none, (.move (.tmp 3))⟩,
  ⟨some 13, none, (.load 40 (.tmp 5))⟩,
  ⟨some 14, none, (.call { callee := (.value (.func 26)), args := #[(.tmp 13)], argTypes := #[40] })⟩,
  ⟨some 15, none, (.buildSlice 29 1 #[(0, (.tmp 14))])⟩,
  ⟨some 16, none, (.call { callee := (.builtin .append), args := #[(.tmp 12), (.tmp 15)], argTypes := #[29, 29] })⟩,
  ⟨some 3, none, (.assign (.tmp 16))⟩] [3, 6, 7, 8]
@[simp] noncomputable def F30_r6 : CC := .reg [⟨some 17, none, (.binOp .add 3 (.tmp 8) (.const (.int .i64 1)) 3)⟩,
  ⟨some 8, none, (.move (.tmp 17))⟩] [3, 6, 7, 8]
noncomputable def F30_l0 : CC := (.seq F30_r3 (.seq (.cond (.tmp 9) .skip (.exit 0)) (.seq (.block 1 (.seq F30_r4 F30_r5)) F30_r6)))
@[simp] noncomputable def F30_r7 : CC := .reg [⟨some 18, none, (.move (.tmp 3))⟩,
  ⟨some 2, none, (.assign (.tmp 18))⟩] [2]
noncomputable def F30 : CC := (.seq F30_r0 (.seq F30_r1 (.seq (.seq F30_r2 (.block 0 (.loop F30_l0))) (.seq F30_r7 .ret))))
noncomputable def F30_inf : Nat → RI
  | 0 => ⟨[0], [], []⟩
  | 1 => ⟨[0, 3], [], []⟩
  | 2 => ⟨[3, 6, 7, 8], [], []⟩
  | 3 => ⟨[3, 6, 7, 8, 9], [], []⟩
  | 4 => ⟨[3, 5, 6, 7, 8], [], []⟩
  | 5 => ⟨[3, 6, 7, 8], [], []⟩
  | 6 => ⟨[3, 6, 7, 8], [], []⟩
  | 7 => ⟨[2], [], []⟩
  | _ => ⟨[], [], []⟩
noncomputable def F30_c : Code := Try.f30.body.getD .skip
theorem F30_b : Try.f30.body = some F30_c := by kernel_rfl
theorem F30_rs : Try.f30.results.toList = ([.tmp 2] : List ResultVar) := by kernel_rfl
theorem F30_n : Try.f30.ntmps = 19 := by kernel_rfl
theorem F30_ok : toCC [] 19 F30_inf F30_c = some F30 := by kernel_rfl
theorem F30_in {args : List AV} {G : Hp} {post : AV → Hp → Prop} (ha : args.all AV.plain = true) (hn : args.length ≤ 19) (h : BDs args → awp Try.prog [] F30 (AEnds Try.prog [.tmp 2] post) (initT args) G) : ACalls Try.prog 30 args G post :=
  acalls_cc Try.func30 F30_b F30_rs F30_n F30_ok mixed ha hn h

/- 31 ostiary/ostiaryref25.With -/
@[simp] noncomputable def F31_r0 : CC := .reg [⟨some 6, none, (.assign (.const (.slice none 0 0)))⟩,
  ⟨some 7, none, (.alloc 31)⟩,
  ⟨some 8, none, (.assign (.const (.bool false)))⟩] [0, 1, 2, 7]
@[simp] noncomputable def F31_r1 : CC := .reg [⟨some 9, none, (.assign (.const (.slice none 0 0)))⟩] [0, 1, 2, 7, 9]
@[simp] noncomputable def F31_r2 : CC := .reg [⟨some 14, none, (.build 31 #[])⟩,
  ⟨some 10, none, (.alloc 31)⟩,
  ⟨none, none, (.store 31 (.tmp 10) (.tmp 14))⟩] [0, 1, 2, 7, 9, 10]
@[simp] noncomputable def F31_r3 : CC := .reg [⟨some 11, none, (.assign (.const (.bool false)))⟩] [0, 1, 2, 7, 9, 10, 11]
@[simp] noncomputable def F31_r4 : CC := .reg [⟨some 15, none, (.move (.tmp 0))⟩,
  ⟨some 16, none, (.call { callee := (.builtin .len), args := #[(.tmp 15)], argTypes := #[29] })⟩,
  ⟨some 17, none, (.move (.const (.int .i64 0)))⟩] [1, 2, 7, 9, 10, 11, 15, 16, 17]
@[simp] noncomputable def F31_r5 : CC := .reg [⟨some 18, none, (.binOp .lss 3 (.tmp 17) (.tmp 16) 3)⟩] [1, 2, 7, 9, 10, 11, 15, 16, 17, 18]
@[simp] noncomputable def F31_r6 : CC := .reg [⟨some 19, none, (.indexAddr 29 (.tmp 15) (.tmp 17))⟩,
  ⟨some 20, none, (.load 31 (.tmp 19))⟩,
  ⟨some 13, none, (.alloc 31)⟩,
  ⟨none, none, (.store 31 (.tmp 13) (.tmp 20))⟩] [1, 2, 7, 9, 10, 11, 13, 15, 16, 17]
@[simp] noncomputable def F31_r7 : CC := .reg [⟨some 21, none, (.fieldAddr 31 (.tmp 13) 0)⟩,
  ⟨some 22, none, (.load 25 (.tmp 21))⟩,
  ⟨some 23, none, (.move (.tmp 1))⟩,
  ⟨some 24, none, (.binOp .eql 25 (.tmp 22) (.tmp 23) 25)⟩] [1, 2, 7, 9, 10, 11, 13, 15, 16, 17, 24]
@[simp] noncomputable def F31_r8 : CC := .reg [⟨some 25, none, (.load 31 (.tmp 13))⟩,
  ⟨none, none, (.store 31 (.tmp 10) (.tmp 25))⟩] [1, 2, 7, 9, 10, 13, 15, 16, 17]
@[simp] noncomputable def F31_r9 : CC := .reg [⟨some 11, none, (.assign (.const (.bool true)))⟩] [1, 2, 7, 9, 10, 11, 13, 15, 16, 17]
@[simp] noncomputable def F31_r10 : CC := .reg [⟨some 26, none, (.move (.tmp 2))⟩,
  ⟨some 27, none, (.fieldAddr 31 (.tmp 13) 4)⟩,
  ⟨none, none, (.store 9 (.tmp 27) (.tmp 26))⟩] [1, 2, 7, 9, 10, 11, 13, 15, 16, 17]
@[simp] noncomputable def F31_r11 : CC := .reg [⟨some 28, none, (.move (.tmp 9))⟩,
  ⟨some 29, none, (.load 31 (.tmp 13))⟩,
  ⟨some 30, none, (.buildSlice 29 1 #[(0, (.tmp 29))])⟩,
  ⟨some 31, none, (.call { callee := (.builtin .append), args := #[(.tmp 28), (.tmp 30)], argTypes := #[29, 29] })⟩,
  ⟨some 9, none, (.assign (.tmp 31))⟩] [1, 2, 7, 9, 10, 11, 15, 16, 17]
@[simp] noncomputable def F31_r12 : CC := .reg [⟨some 32, none, (.binOp .add 3 (.tmp 17) (.const (.int .i64 1)) 3)⟩,
  ⟨some 17, none, (.move (.tmp 32))⟩] [1, 2, 7, 9, 10, 11, 15, 16, 17]
noncomputable def F31_l0 : CC := (.seq (.seq F31_r5 .fz) (.seq (.cond (.tmp 18) .skip (.exit 0)) (.seq (.block 1 (.seq F31_r6 (.seq (.seq F31_r7 (.cond (.tmp 24) (.seq F31_r8 (.seq F31_r9 F31_r10)) .skip)) F31_r11))) F31_r12)))
@[simp] noncomputable def F31_r13 : CC := .drw [⟨0, ⟨some 33, none, (.move (.tmp 9))⟩, [], []⟩,
  ⟨1, ⟨some 34, none, (.load 31 (.tmp 10))⟩, [], []⟩,
  ⟨2, ⟨some 35, none, (.move (.tmp 11))⟩, [], []⟩,
  ⟨3, ⟨some 6, none, (.assign (.tmp 33))⟩, [], []⟩,
  ⟨4, ⟨none, none, (.store 31 (.tmp 7) (.tmp 34))⟩, [], []⟩,
  ⟨5, ⟨some 8, none, (.assign (.tmp 35))⟩, [], []⟩] [33, 34, 35, 6, 8] [6, 7, 8]
noncomputable def F31 : CC := (.seq F31_r0 (.seq F31_r1 (.seq F31_r2 (.seq F31_r3 (.seq (.seq F31_r4 (.block 0 (.loop F31_l0))) (.seq F31_r13 .ret))))))
noncomputable def F31_inf : Nat → RI
  | 0 => ⟨[0, 1, 2, 7], [], []⟩
  | 1 => ⟨[0, 1, 2, 7, 9], [], []⟩
  | 2 => ⟨[0, 1, 2, 7, 9, 10], [], []⟩
  | 3 => ⟨[0, 1, 2, 7, 9, 10, 11], [], []⟩
  | 4 => ⟨[1, 2, 7, 9, 10, 11, 15, 16, 17], [], []⟩
  | 5 => ⟨[1, 2, 7, 9, 10, 11, 15, 16, 17, 18], [], [(0, [])]⟩
  | 6 => ⟨[1, 2, 7, 9, 10, 11, 13, 15, 16, 17], [], []⟩
  | 7 => ⟨[1, 2, 7, 9, 10, 11, 13, 15, 16, 17, 24], [], []⟩
  | 8 => ⟨[1, 2, 7, 9, 10, 13, 15, 16, 17], [], []⟩
  | 9 => ⟨[1, 2, 7, 9, 10, 11, 13, 15, 16, 17], [], []⟩
  | 10 => ⟨[1, 2, 7, 9, 10, 11, 13, 15, 16, 17], [], []⟩
  | 11 => ⟨[1, 2, 7, 9, 10, 11, 15, 16, 17], [], []⟩
  | 12 => ⟨[1, 2, 7, 9, 10, 11, 15, 16, 17], [], []⟩
  | 13 => ⟨[6, 7, 8], [0, 0, 0, 1, 11, 31], [(0, []), (1, []), (2, []), (3, []), (4, []), (5, [])]⟩
  | _ => ⟨[], [], []⟩
noncomputable def F31_c : Code := Try.f31.body.getD .skip
theorem F31_b : Try.f31.body = some F31_c := by kernel_rfl
theorem F31_rs : Try.f31.results.toList = ([.tmp 6, .cell 7 31, .tmp 8] : List ResultVar) := by kernel_rfl
theorem F31_n : Try.f31.ntmps = 36 := by kernel_rfl
theorem F31_ok : toCC [] 36 F31_inf F31_c = some F31 := by kernel_rfl
theorem F31_in {args : List AV} {G : Hp} {post : AV → Hp → Prop} (ha : args.all AV.plain = true) (hn : args.length ≤ 36) (h : BDs args → awp Try.prog [] F31 (AEnds Try.prog [.tmp 6, .cell 7 31, .tmp 8] post) (initT args) G) : ACalls Try.prog 31 args G post :=
  acalls_cc Try.func31 F31_b F31_rs F31_n F31_ok mixed ha hn h

/- 32 ostiary/ostiaryref25.Part -/
@[simp] noncomputable def F32_r0 : CC := .reg [⟨some 8, none, (.box 31 (.tmp 2))⟩,
  ⟨some 12, none, (.assign (.const (.slice none 0 0)))⟩,
  ⟨some 13, none, (.assign (.const (.slice none 0 0)))⟩] [0, 1, 3, 4, 5, 8]
@[simp] noncomputable def F32_r1 : CC := .reg [⟨some 14, none, (.assign (.const (.slice none 0 0)))⟩,
  ⟨some 15, none, (.assign (.const (.slice none 0 0)))⟩] [0, 1, 3, 4, 5, 8, 14, 15]
@[simp] noncomputable def F32_r2 : CC := .reg [⟨some 21, none, (.move (.tmp 0))⟩,
  ⟨some 22, none, (.call { callee := (.builtin .len), args := #[(.tmp 21)], argTypes := #[29] })⟩,
  ⟨some 23, none, (.move (.const (.int .i64 0)))⟩] [1, 3, 4, 5, 8, 14, 15, 21, 22, 23]
@[simp] noncomputable def F32_r3 : CC := .reg [⟨some 24, none, (.binOp .lss 3 (.tmp 23) (.tmp 22) 3)⟩] [1, 3, 4, 5, 8, 14, 15, 21, 22, 23, 24]
@[simp] noncomputable def F32_r4 : CC := .reg [⟨some 25, none, (.indexAddr 29 (.tmp 21) (.tmp 23))⟩,
  ⟨some 26, none, (.load 31 (.tmp 25))⟩,
  ⟨some 17, none, (.alloc 31)⟩,
  ⟨none, none, (.store 31 (.tmp 17) (.tmp 26))⟩] [1, 3, 4, 5, 8, 14, 15, 17, 21, 22, 23]
@[simp] noncomputable def F32_r5 : CC := .reg [⟨some 18, none, (.assign (.const (.bool false)))⟩] [1, 3, 4, 5, 8, 14, 15, 17, 18, 21, 22, 23]
@[simp] noncomputable def F32_r6 : CC := .reg [⟨some 27, none, (.move (.tmp 1))⟩] [1, 3, 4, 5, 8, 14, 15, 17, 18, 21, 22, 23, 27]
@[simp] noncomputable def F32_r7 : CC := .reg [⟨some 29, none, (.binOp .eql 3 (.tmp 27) (.const (.int .i64 0)) 3)⟩,
  ⟨some 28, none, (.assign (.tmp 29))⟩] [1, 3, 4, 5, 8, 14, 15, 17, 18, 21, 22, 23, 27, 28]
@[simp] noncomputable def F32_r8 : CC := .reg [⟨some 30, none, (.fieldAddr 31 (.tmp 17) 0)⟩,
  ⟨some 31, none, (.load 25 (.tmp 30))⟩,
  ⟨some 32, none, (.fieldAddr 31 (.tmp 8) 0)⟩,
  ⟨some 33, none, (.load 25 (.tmp 32))⟩,
  ⟨some 34, none, (.binOp .eql 25 (.tmp 31) (.tmp 33) 25)⟩,
  ⟨some 35, none, (.move (.tmp 34))⟩,
  ⟨some 36, some (35, false), (.fieldAddr 31 (.tmp 17) 1)⟩,
  ⟨some 37, some (35, false), (.load 26 (.tmp 36))⟩,
  ⟨some 38, some (35, false), (.fieldAddr 31 (.tmp 8) 1)⟩,
  ⟨some 39, some (35, false), (.load 26 (.tmp 38))⟩,
  ⟨some 40, some (35, false), (.binOp .eql 26 (.tmp 37) (.tmp 39) 26)⟩,
  ⟨some 41, none, (.pick (.tmp 35) (.const (.bool true)) (.tmp 40))⟩,
  ⟨some 42, none, (.move (.tmp 41))⟩,
  ⟨some 43, some (42, false), (.fieldAddr 31 (.tmp 17) 2)⟩,
  ⟨some 44, some (42, false), (.load 24 (.tmp 43))⟩,
  ⟨some 45, some (42, false), (.fieldAddr 31 (.tmp 8) 2)⟩,
  ⟨some 46, some (42, false), (.load 24 (.tmp 45))⟩,
  ⟨some 47, some (42, false), (.binOp .eql 24 (.tmp 44) (.tmp 46) 24)⟩,
  ⟨some 48, none, (.pick (.tmp 42) (.const (.bool true)) (.tmp 47))⟩,
  ⟨some 18, none, (.assign (.tmp 48))⟩] [1, 3, 4, 5, 8, 14, 15, 17, 18, 21, 22, 23]
@[simp] noncomputable def F32_r9 : CC := .reg [⟨some 50, none, (.binOp .eql 3 (.tmp 27) (.const (.int .i64 1)) 3)⟩,
  ⟨some 49, none, (.assign (.tmp 50))⟩] [1, 3, 4, 5, 8, 14, 15, 17, 18, 21, 22, 23, 27, 49]
@[simp] noncomputable def F32_r10 : CC := .reg [⟨some 51, none, (.move (.tmp 3))⟩,
  ⟨some 52, none, (.call { callee := (.builtin .len), args := #[(.tmp 51)], argTypes := #[77] })⟩,
  ⟨some 53, none, (.move (.const (.int .i64 0)))⟩] [1, 3, 4, 5, 8, 14, 15, 17, 18, 21, 22, 23, 51, 52, 53]
@[simp] noncomputable def F32_r11 : CC := .reg [⟨some 54, none, (.binOp .lss 3 (.tmp 53) (.tmp 52) 3)⟩] [1, 3, 4, 5, 8, 14, 15, 17, 18, 21, 22, 23, 51, 52, 53, 54]
@[simp] noncomputable def F32_r12 : CC := .reg [⟨some 55, none, (.indexAddr 77 (.tmp 51) (.tmp 53))⟩,
  ⟨some 56, none, (.load 24 (.tmp 55))⟩,
  ⟨some 20, none, (.alloc 24)⟩,
  ⟨none, none, (.store 24 (.tmp 20) (.tmp 56))⟩] [1, 3, 4, 5, 8, 14, 15, 17, 18, 20, 21, 22, 23, 51, 52, 53]
@[simp] noncomputable def F32_r13 : CC := .reg [⟨some 57, none, (.move (.tmp 18))⟩,
  ⟨some 58, none, (.move (.tmp 57))⟩,
  ⟨some 59, some (58, false), (.load 24 (.tmp 20))⟩,
  ⟨some 60, some (58, false), (.fieldAddr 31 (.tmp 17) 2)⟩,
  ⟨some 61, some (58, false), (.load 24 (.tmp 60))⟩,
  ⟨some 62, some (58, false), (.binOp .eql 24 (.tmp 59) (.tmp 61) 24)⟩,
  ⟨some 63, none, (.pick (.tmp 58) (.const (.bool true)) (.tmp 62))⟩,
  ⟨some 18, none, (.assign (.tmp 63))⟩] [1, 3, 4, 5, 8, 14, 15, 17, 18, 21, 22, 23, 51, 52, 53]
@[simp] noncomputable def F32_r14 : CC := .reg [⟨some 64, none, (.binOp .add 3 (.tmp 53) (.const (.int .i64 1)) 3)⟩,
  ⟨some 53, none, (.move (.tmp 64))⟩] [1, 3, 4, 5, 8, 14, 15, 17, 18, 21, 22, 23, 51, 52, 53]
noncomputable def F32_l0 : CC := (.seq F32_r11 (.seq (.cond (.tmp 54) .skip (.exit 3)) (.seq (.block 4 (.seq F32_r12 F32_r13)) F32_r14)))
@[simp] noncomputable def F32_r15 : CC := .reg [⟨some 66, none, (.binOp .eql 3 (.tmp 27) (.const (.int .i64 2)) 3)⟩,
  ⟨some 65, none, (.assign (.tmp 66))⟩] [1, 3, 4, 5, 8, 14, 15, 17, 18, 21, 22, 23, 27, 65]
@[simp] noncomputable def F32_r16 : CC := .reg [⟨some 67, none, (.fieldAddr 31 (.tmp 17) 3)⟩,
  ⟨some 68, none, (.load 9 (.tmp 67))⟩,
  ⟨some 69, none, (.move (.tmp 4))⟩,
  ⟨some 70, none, (.binOp .eql 9 (.tmp 68) (.tmp 69) 9)⟩,
  ⟨some 18, none, (.assign (.tmp 70))⟩] [1, 3, 4, 5, 8, 14, 15, 17, 18, 21, 22, 23]
@[simp] noncomputable def F32_r17 : CC := .reg [⟨some 72, none, (.binOp .eql 3 (.tmp 27) (.const (.int .i64 3)) 3)⟩,
  ⟨some 71, none, (.assign (.tmp 72))⟩] [1, 3, 4, 5, 8, 14, 15, 17, 18, 21, 22, 23, 71]
@[simp] noncomputable def F32_r18 : CC := .reg [⟨some 73, none, (.fieldAddr 31 (.tmp 17) 5)⟩,
  ⟨some 74, none, (.load 2 (.tmp 73))⟩,
  ⟨some 75, none, (.move (.tmp 5))⟩,
  ⟨some 76, none, (.binOp .leq 2 (.tmp 74) (.tmp 75) 2)⟩,
  ⟨some 18, none, (.assign (.tmp 76))⟩] [1, 3, 4, 5, 8, 14, 15, 17, 18, 21, 22, 23]
@[simp] noncomputable def F32_r19 : CC := .reg [⟨some 77, none, (.move (.tmp 18))⟩] [1, 3, 4, 5, 8, 14, 15, 17, 21, 22, 23, 77]
@[simp] noncomputable def F32_r20 : CC := .reg [⟨some 78, none, (.move (.tmp 14))⟩,
  ⟨some 79, none, (.load 31 (.tmp 17))⟩,
  ⟨some 80, none, (.buildSlice 29 1 #[(0, (.tmp 79))])⟩,
  ⟨some 81, none, (.call { callee := (.builtin .append), args := #[(.tmp 78), (.tmp 80)], argTypes := #[29, 29] })⟩,
  ⟨some 14, none, (.assign (.tmp 81))⟩] [1, 3, 4, 5, 8, 14, 15, 21, 22, 23]
@[simp] noncomputable def F32_r21 : CC := .reg [⟨some 82, none, (.move (.tmp 15))⟩,
  ⟨some 83, none, (.load 31 (.tmp 17))⟩,
  ⟨some 84, none, (.buildSlice 29 1 #[(0, (.tmp 83))])⟩,
  ⟨some 85, none, (.call { callee := (.builtin .append), args := #[(.tmp 82), (.tmp 84)], argTypes := #[29, 29] })⟩,
  ⟨some 15, none, (.assign (.tmp 85))⟩] [1, 3, 4, 5, 8, 14, 15, 21, 22, 23]
@[simp] noncomputable def F32_r22 : CC := .reg [⟨some 86, none, (.binOp .add 3 (.tmp 23) (.const (.int .i64 1)) 3)⟩,
  ⟨some 23, none, (.move (.tmp 86))⟩] [1, 3, 4, 5, 8, 14, 15, 21, 22, 23]
noncomputable def F32_l1 : CC := (.seq (.seq F32_r3 .fz) (.seq (.cond (.tmp 24) .skip (.exit 0)) (.seq (.block 1 (.seq F32_r4 (.seq F32_r5 (.seq (.seq F32_r6 (.block 2 (.seq F32_r7 (.cond (.tmp 28) F32_r8 (.seq F32_r9 (.cond (.tmp 49) (.seq F32_r10 (.block 3 (.loop F32_l0))) (.seq F32_r15 (.cond (.tmp 65) F32_r16 (.seq F32_r17 (.cond (.tmp 71) F32_r18 .skip)))))))))) (.seq F32_r19 (.cond (.tmp 77) F32_r20 F32_r21)))))) F32_r22)))
@[simp] noncomputable def F32_r23 : CC := .reg [⟨some 87, none, (.move (.tmp 14))⟩,
  ⟨some 88, none, (.move (.tmp 15))⟩,
  ⟨some 12, none, (.assign (.tmp 87))⟩,
  ⟨some 13, none, (.assign (.tmp 88))⟩] [12, 13]
noncomputable def F32 : CC := (.seq F32_r0 (.seq F32_r1 (.seq (.seq F32_r2 (.block 0 (.loop F32_l1))) (.seq F32_r23 .ret))))
noncomputable def F32_inf : Nat → RI
  | 0 => ⟨[0, 1, 3, 4, 5, 8], [], []⟩
  | 1 => ⟨[0, 1, 3, 4, 5, 8, 14, 15], [], []⟩
  | 2 => ⟨[1, 3, 4, 5, 8, 14, 15, 21, 22, 23], [], []⟩
  | 3 => ⟨[1, 3, 4, 5, 8, 14, 15, 21, 22, 23, 24], [], [(0, [])]⟩
  | 4 => ⟨[1, 3, 4, 5, 8, 14, 15, 17, 21, 22, 23], [], []⟩
  | 5 => ⟨[1, 3, 4, 5, 8, 14, 15, 17, 18, 21, 22, 23], [], []⟩
  | 6 => ⟨[1, 3, 4, 5, 8, 14, 15, 17, 18, 21, 22, 23, 27], [], []⟩
  | 7 => ⟨[1, 3, 4, 5, 8, 14, 15, 17, 18, 21, 22, 23, 27, 28], [], []⟩
  | 8 => ⟨[1, 3, 4, 5, 8, 14, 15, 17, 18, 21, 22, 23], [], []⟩
  | 9 => ⟨[1, 3, 4, 5, 8, 14, 15, 17, 18, 21, 22, 23, 27, 49], [], []⟩
  | 10 => ⟨[1, 3, 4, 5, 8, 14, 15, 17, 18, 21, 22, 23, 51, 52, 53], [], []⟩
  | 11 => ⟨[1, 3, 4, 5, 8, 14, 15, 17, 18, 21, 22, 23, 51, 52, 53, 54], [], []⟩
  | 12 => ⟨[1, 3, 4, 5, 8, 14, 15, 17, 18, 20, 21, 22, 23, 51, 52, 53], [], []⟩
  | 13 => ⟨[1, 3, 4, 5, 8, 14, 15, 17, 18, 21, 22, 23, 51, 52, 53], [], []⟩
  | 14 => ⟨[1, 3, 4, 5, 8, 14, 15, 17, 18, 21, 22, 23, 51, 52, 53], [], []⟩
  | 15 => ⟨[1, 3, 4, 5, 8, 14, 15, 17, 18, 21, 22, 23, 27, 65], [], []⟩
  | 16 => ⟨[1, 3, 4, 5, 8, 14, 15, 17, 18, 21, 22, 23], [], []⟩
  | 17 => ⟨[1, 3, 4, 5, 8, 14, 15, 17, 18, 21, 22, 23, 71], [], []⟩
  | 18 => ⟨[1, 3, 4, 5, 8, 14, 15, 17, 18, 21, 22, 23], [], []⟩
  | 19 => ⟨[1, 3, 4, 5, 8, 14, 15, 17, 21, 22, 23, 77], [], []⟩
  | 20 => ⟨[1, 3, 4, 5, 8, 14, 15, 21, 22, 23], [], []⟩
  | 21 => ⟨[1, 3, 4, 5, 8, 14, 15, 21, 22, 23], [], []⟩
  | 22 => ⟨[1, 3, 4, 5, 8, 14, 15, 21, 22, 23], [], []⟩
  | 23 => ⟨[12, 13], [], []⟩
  | _ => ⟨[], [], []⟩
noncomputable def F32_c : Code := Try.f32.body.getD .skip
theorem F32_b : Try.f32.body = some F32_c := by kernel_rfl
theorem F32_rs : Try.f32.results.toList = ([.tmp 12, .tmp 13] : List ResultVar) := by kernel_rfl
theorem F32_n : Try.f32.ntmps = 89 := by kernel_rfl
theorem F32_ok : toCC [] 89 F32_inf F32_c = some F32 := by kernel_rfl
theorem F32_in {args : List AV} {G : Hp} {post : AV → Hp → Prop} (ha : args.all AV.plain = true) (hn : args.length ≤ 89) (h : BDs args → awp Try.prog [] F32 (AEnds Try.prog [.tmp 12, .tmp 13] post) (initT args) G) : ACalls Try.prog 32 args G post :=
  acalls_cc Try.func32 F32_b F32_rs F32_n F32_ok mixed ha hn h

/- 33 ostiary/ostiaryref25.Forget -/
@[simp] noncomputable def F33_r0 : CC := .reg [⟨some 4, none, (.assign (.const (.slice none 0 0)))⟩,
  ⟨some 5, none, (.assign (.const (.slice none 0 0)))⟩] [0, 1]
@[simp] noncomputable def F33_r1 : CC := .reg [⟨some 6, none, (.assign (.const (.slice none 0 0)))⟩,
  ⟨some 7, none, (.assign (.const (.slice none 0 0)))⟩] [0, 1, 6, 7]
@[simp] noncomputable def F33_r2 : CC := .reg [⟨some 10, none, (.move (.tmp 0))⟩,
  ⟨some 11, none, (.call { callee := (.builtin .len), args := #[(.tmp 10)], argTypes := #[29] })⟩,
  ⟨some 12, none, (.move (.const (.int .i64 0)))⟩] [1, 6, 7, 10, 11, 12]
@[simp] noncomputable def F33_r3 : CC := .reg [⟨some 13, none, (.binOp .lss 3 (.tmp 12) (.tmp 11) 3)⟩] [1, 6, 7, 10, 11, 12, 13]
@[simp] noncomputable def F33_r4 : CC := .reg [⟨some 14, none, (.indexAddr 29 (.tmp 10) (.tmp 12))⟩,
  ⟨some 15, none, (.load 31 (.tmp 14))⟩,
  ⟨some 9, none, (.alloc 31)⟩,
  ⟨none, none, (.store 31 (.tmp 9) (.tmp 15))⟩] [1, 6, 7, 9, 10, 11, 12]
@[simp] noncomputable def F33_r5 : CC := .reg [⟨some 16, none, (.move (.tmp 1))⟩,
  ⟨some 17, none, (.binOp .neq 9 (.tmp 16) (.const (.string { data := #[] })) 9)⟩,
  ⟨some 18, none, (.move (.tmp 17))⟩,
  ⟨some 19, some (18, true), (.fieldAddr 31 (.tmp 9) 3)⟩,
  ⟨some 20, some (18, true), (.load 9 (.tmp 19))⟩,
  ⟨some 21, some (18, true), (.move (.tmp 1))⟩,
  ⟨some 22, some (18, true), (.binOp .eql 9 (.tmp 20) (.tmp 21) 9)⟩,
  ⟨some 23, some (18, true), (.move (.tmp 22))⟩,
  ⟨some 24, some (23, false), (.fieldAddr 31 (.tmp 9) 4)⟩,
  ⟨some 25, some (23, false), (.load 9 (.tmp 24))⟩,
  ⟨some 26, some (23, false), (.move (.tmp 1))⟩,
  ⟨some 27, some (23, false), (.binOp .eql 9 (.tmp 25) (.tmp 26) 9)⟩,
  ⟨some 28, some (18, true), (.pick (.tmp 23) (.const (.bool true)) (.tmp 27))⟩,
  ⟨some 29, none, (.pick (.tmp 18) (.tmp 28) (.const (.bool false)))⟩] [1, 6, 7, 9, 10, 11, 12, 29]
@[simp] noncomputable def F33_r6 : CC := .reg [⟨some 30, none, (.move (.tmp 6))⟩,
  ⟨some 31, none, (.load 31 (.tmp 9))⟩,
  ⟨some 32, none, (.buildSlice 29 1 #[(0, (.tmp 31))])⟩,
  ⟨some 33, none, (.call { callee := (.builtin .append), args := #[(.tmp 30), (.tmp 32)], argTypes := #[29, 29] })⟩,
  ⟨some 6, none, (.assign (.tmp 33))⟩] [1, 6, 7, 9, 10, 11, 12]
@[simp] noncomputable def F33_r7 : CC := .reg [⟨some 34, none, (.move (.tmp 1))⟩,
  ⟨some 35, none, (.binOp .neq 9 (.tmp 34) (.const (.string { data := #[] })) 9)⟩,
  ⟨some 36, none, (.move (.tmp 35))⟩,
  ⟨some 37, some (36, true), (.fieldAddr 31 (.tmp 9) 3)⟩,
  ⟨some 38, some (36, true), (.load 9 (.tmp 37))⟩,
  ⟨some 39, some (36, true), (.move (.tmp 1))⟩,
  ⟨some 40, some (36, true), (.binOp .eql 9 (.tmp 38) (.tmp 39) 9)⟩,
  ⟨some 41, none, (.pick (.tmp 36) (.tmp 40) (.const (.bool false)))⟩] [1, 6, 7, 9, 10, 11, 12, 41]
@[simp] noncomputable def F33_r8 : CC := .reg [⟨some 42, none, (.fieldAddr 31 (.tmp 9) 4)⟩,
  ⟨some 43, none, (.load 9 (.tmp 42))⟩,
  ⟨some 44, none, (.move (.tmp 1))⟩,
  ⟨some 45, none, (.binOp .eql 9 (.tmp 43) (.tmp 44) 9)⟩] [1, 6, 7, 9, 10, 11, 12, 45]
@[simp] noncomputable def F33_r9 : CC := .reg [⟨some 46, none, (.fieldAddr 31 (.tmp 9) 4)⟩,
  ⟨none, none, (.store 9 (.tmp 46) (.const (.string { data := #[] })))⟩] [1, 6, 7, 9, 10, 11, 12]
@[simp] noncomputable def F33_r10 : CC := .reg [⟨some 47, none, (.move (.tmp 7))⟩,
  ⟨some 48, none, (.load 31 (.tmp 9))⟩,
  ⟨some 49, none, (.buildSlice 29 1 #[(0, (.tmp 48))])⟩,
  ⟨some 50, none, (.call { callee := (.builtin .append), args := #[(.tmp 47), (.tmp 49)], argTypes := #[29, 29] })⟩,
  ⟨some 7, none, (.assign (.tmp 50))⟩] [1, 6, 7, 10, 11, 12]
@[simp] noncomputable def F33_r11 : CC := .reg [⟨some 51, none, (.binOp .add 3 (.tmp 12) (.const (.int .i64 1)) 3)⟩,
  ⟨some 12, none, (.move (.tmp 51))⟩] [1, 6, 7, 10, 11, 12]
noncomputable def F33_l0 : CC := (.seq (.seq F33_r3 .fz) (.seq (.cond (.tmp 13) .skip (.exit 0)) (.seq (.block 1 (.seq F33_r4 (.seq (.seq F33_r5 (.cond (.tmp 29) F33_r6 .skip)) (.seq (.seq F33_r7 (.cond (.tmp 41) (.exit 1) .skip)) (.seq (.seq F33_r8 (.cond (.tmp 45) F33_r9 .skip)) F33_r10))))) F33_r11)))
@[simp] noncomputable def F33_r12 : CC := .reg [⟨some 52, none, (.move (.tmp 7))⟩,
  ⟨some 53, none, (.move (.tmp 6))⟩,
  ⟨some 4, none, (.assign (.tmp 52))⟩,
  ⟨some 5, none, (.assign (.tmp 53))⟩] [4, 5]
noncomputable def F33 : CC := (.seq F33_r0 (.seq F33_r1 (.seq (.seq F33_r2 (.block 0 (.loop F33_l0))) (.seq F33_r12 .ret))))
noncomputable def F33_inf : Nat → RI
  | 0 => ⟨[0, 1], [], []⟩
  | 1 => ⟨[0, 1, 6, 7], [], []⟩
  | 2 => ⟨[1, 6, 7, 10, 11, 12], [], []⟩
  | 3 => ⟨[1, 6, 7, 10, 11, 12, 13], [], [(0, [])]⟩
  | 4 => ⟨[1, 6, 7, 9, 10, 11, 12], [], []⟩
  | 5 => ⟨[1, 6, 7, 9, 10, 11, 12, 29], [], []⟩
  | 6 => ⟨[1, 6, 7, 9, 10, 11, 12], [], []⟩
  | 7 => ⟨[1, 6, 7, 9, 10, 11, 12, 41], [], []⟩
  | 8 => ⟨[1, 6, 7, 9, 10, 11, 12, 45], [], []⟩
  | 9 => ⟨[1, 6, 7, 9, 10, 11, 12], [], []⟩
  | 10 => ⟨[1, 6, 7, 10, 11, 12], [], []⟩
  | 11 => ⟨[1, 6, 7, 10, 11, 12], [], []⟩
  | 12 => ⟨[4, 5], [], []⟩
  | _ => ⟨[], [], []⟩
noncomputable def F33_c : Code := Try.f33.body.getD .skip
theorem F33_b : Try.f33.body = some F33_c := by kernel_rfl
theorem F33_rs : Try.f33.results.toList = ([.tmp 4, .tmp 5] : List ResultVar) := by kernel_rfl
theorem F33_n : Try.f33.ntmps = 54 := by kernel_rfl
theorem F33_ok : toCC [] 54 F33_inf F33_c = some F33 := by kernel_rfl
theorem F33_in {args : List AV} {G : Hp} {post : AV → Hp → Prop} (ha : args.all AV.plain = true) (hn : args.length ≤ 54) (h : BDs args → awp Try.prog [] F33 (AEnds Try.prog [.tmp 4, .tmp 5] post) (initT args) G) : ACalls Try.prog 33 args G post :=
  acalls_cc Try.func33 F33_b F33_rs F33_n F33_ok mixed ha hn h

/- 34 ostiary/ostiarylaw25.at -/
@[simp] noncomputable def F34_r0 : CC := .reg [⟨some 4, none, (.alloc 24)⟩] [0, 1, 4]
@[simp] noncomputable def F34_r1 : CC := .reg [⟨some 5, none, (.move (.tmp 0))⟩,
  ⟨some 6, none, (.move (.tmp 1))⟩,
  ⟨some 7, none, (.build 24 #[(0, (.tmp 5)), (1, (.tmp 6))])⟩,
  ⟨none, none, (.store 24 (.tmp 4) (.tmp 7))⟩] [4]
noncomputable def F34 : CC := (.seq F34_r0 (.seq F34_r1 .ret))
noncomputable def F34_inf : Nat → RI
  | 0 => ⟨[0, 1, 4], [], []⟩
  | 1 => ⟨[4], [], []⟩
  | _ => ⟨[], [], []⟩
noncomputable def F34_c : Code := Try.f34.body.getD .skip
theorem F34_b : Try.f34.body = some F34_c := by kernel_rfl
theorem F34_rs : Try.f34.results.toList = ([.cell 4 24] : List ResultVar) := by kernel_rfl
theorem F34_n : Try.f34.ntmps = 8 := by kernel_rfl
theorem F34_ok : toCC [] 8 F34_inf F34_c = some F34 := by kernel_rfl
theorem F34_in {args : List AV} {G : Hp} {post : AV → Hp → Prop} (ha : args.all AV.plain = true) (hn : args.length ≤ 8) (h : BDs args → awp Try.prog [] F34 (AEnds Try.prog [.cell 4 24] post) (initT args) G) : ACalls Try.prog 34 args G post :=
  acalls_cc Try.func34 F34_b F34_rs F34_n F34_ok mixed ha hn h

/- 35 (*ostiary/shelf.Shelf[ostiary/api.Mac, ostiary/bind.Binding]).Vals -/
@[simp] noncomputable def F35_r0 : CC := .reg [⟨some 2, none, (.assign (.const (.slice none 0 0)))⟩] [0]
@[simp] noncomputable def F35_r1 : CC := .reg [⟨some 3, none, (.assign (.const (.slice none 0 0)))⟩] [0, 3]
@[simp] noncomputable def F35_r2 : CC := .reg [⟨some 5, none, (.move (.tmp 0))⟩,
  ⟨some 6, none, (.call { callee := (.value (.func 53)), args := #[(.tmp 5)], argTypes := #[65] })⟩,
  ⟨some 7, none, (.move (.const (.int .i64 0)))⟩] [0, 3, 6, 7]
@[simp] noncomputable def F35_r3 : CC := .reg [⟨some 8, none, (.binOp .lss 3 (.tmp 7) (.tmp 6) 3)⟩] [0, 3, 6, 7, 8]
@[simp] noncomputable def F35_r4 : CC := .reg [⟨some 9, none, (.move (.tmp 7))⟩,
  ⟨some 4, none, (.assign (.tmp 9))⟩] [0, 3, 4, 6, 7]
@[simp] noncomputable def F35_r5 : CC := .reg [⟨some 10, none, (.move (.tmp 3))⟩,
  ⟨some 11, none, (.move (.tmp 0))⟩,
  ⟨some 12, none, (.nilCheck (.tmp 11))⟩,
  ⟨some 13, none, (.fieldAddr 93 (.tmp 12) 0)⟩,
  ⟨some 14, none, (.load 91 (.tmp 13))⟩,
  ⟨some 15, none, (.move (.tmp 4))⟩,
  ⟨some 16, none, (.indexAddr 91 (.tmp 14) (.tmp 15))⟩,
  ⟨some 17, none, (.fieldAddr 96 (.tmp 16) 1)⟩,
  ⟨some 18, none, (.load 40 (.tmp 17))⟩,
  ⟨some 19, none, (.buildSlice 47 1 #[(0, (.tmp 18))])⟩,
  ⟨some 20, none, (.call { callee := (.builtin .append), args := #[(.tmp 10), (.tmp 19)], argTypes := #[47, 47] })⟩,
  ⟨some 3, none, (.assign (.tmp 20))⟩] [0, 3, 6, 7]
@[simp] noncomputable def F35_r6 : CC := .reg [⟨some 21, none, (.binOp .add 3 (.tmp 7) (.const (.int .i64 1)) 3)⟩,
  ⟨some 7, none, (.move (.tmp 21))⟩] [0, 3, 6, 7]
noncomputable def F35_l0 : CC := (.seq F35_r3 (.seq (.cond (.tmp 8) .skip (.exit 0)) (.seq (.block 1 (.seq F35_r4 F35_r5)) F35_r6)))
@[simp] noncomputable def F35_r7 : CC := .reg [⟨some 22, none, (.move (.tmp 3))⟩,
  ⟨some 2, none, (.assign (.tmp 22))⟩] [2]
noncomputable def F35 : CC := (.seq F35_r0 (.seq F35_r1 (.seq (.seq F35_r2 (.block 0 (.loop F35_l0))) (.seq F35_r7 .ret))))
noncomputable def F35_inf : Nat → RI
  | 0 => ⟨[0], [], []⟩
  | 1 => ⟨[0, 3], [], []⟩
  | 2 => ⟨[0, 3, 6, 7], [], []⟩
  | 3 => ⟨[0, 3, 6, 7, 8], [], []⟩
  | 4 => ⟨[0, 3, 4, 6, 7], [], []⟩
  | 5 => ⟨[0, 3, 6, 7], [], []⟩
  | 6 => ⟨[0, 3, 6, 7], [], []⟩
  | 7 => ⟨[2], [], []⟩
  | _ => ⟨[], [], []⟩
noncomputable def F35_c : Code := Try.f35.body.getD .skip
theorem F35_b : Try.f35.body = some F35_c := by kernel_rfl
theorem F35_rs : Try.f35.results.toList = ([.tmp 2] : List ResultVar) := by kernel_rfl
theorem F35_n : Try.f35.ntmps = 23 := by kernel_rfl
theorem F35_ok : toCC [] 23 F35_inf F35_c = some F35 := by kernel_rfl
theorem F35_in {args : List AV} {G : Hp} {post : AV → Hp → Prop} (ha : args.all AV.plain = true) (hn : args.length ≤ 23) (h : BDs args → awp Try.prog [] F35 (AEnds Try.prog [.tmp 2] post) (initT args) G) : ACalls Try.prog 35 args G post :=
  acalls_cc Try.func35 F35_b F35_rs F35_n F35_ok mixed ha hn h

/- 36 ostiary/ostiaryref25.Check -/
@[simp] noncomputable def F36_r0 : CC := .reg [⟨some 5, none, (.box 24 (.tmp 1))⟩,
  ⟨some 8, none, (.alloc 31)⟩,
  ⟨some 9, none, (.assign (.const (.int .i64 0)))⟩] [0, 2, 3, 5, 8]
@[simp] noncomputable def F36_r1 : CC := .reg [⟨some 12, none, (.move (.tmp 0))⟩,
  ⟨some 13, none, (.call { callee := (.builtin .len), args := #[(.tmp 12)], argTypes := #[29] })⟩,
  ⟨some 14, none, (.move (.const (.int .i64 0)))⟩] [2, 3, 5, 8, 12, 13, 14]
@[simp] noncomputable def F36_r2 : CC := .reg [⟨some 15, none, (.binOp .lss 3 (.tmp 14) (.tmp 13) 3)⟩] [2, 3, 5, 8, 12, 13, 14, 15]
@[simp] noncomputable def F36_r3 : CC := .reg [⟨some 16, none, (.indexAddr 29 (.tmp 12) (.tmp 14))⟩,
  ⟨some 17, none, (.load 31 (.tmp 16))⟩,
  ⟨some 11, none, (.alloc 31)⟩,
  ⟨none, none, (.store 31 (.tmp 11) (.tmp 17))⟩] [2, 3, 5, 8, 11, 12, 13, 14]
@[simp] noncomputable def F36_r4 : CC := .reg [⟨some 18, none, (.fieldAddr 31 (.tmp 11) 2)⟩,
  ⟨some 19, none, (.load 24 (.tmp 18))⟩,
  ⟨some 20, none, (.load 24 (.tmp 5))⟩,
  ⟨some 21, none, (.binOp .neq 24 (.tmp 19) (.tmp 20) 24)⟩] [2, 3, 5, 8, 11, 12, 13, 14, 21]
@[simp] noncomputable def F36_r5 : CC := .reg [⟨some 22, none, (.fieldAddr 31 (.tmp 11) 0)⟩,
  ⟨some 23, none, (.load 25 (.tmp 22))⟩,
  ⟨some 24, none, (.move (.tmp 2))⟩,
  ⟨some 25, none, (.binOp .neq 25 (.tmp 23) (.tmp 24) 25)⟩,
  ⟨some 26, none, (.move (.tmp 25))⟩,
  ⟨some 27, some (26, false), (.fieldAddr 31 (.tmp 11) 1)⟩,
  ⟨some 28, some (26, false), (.load 26 (.tmp 27))⟩,
  ⟨some 29, some (26, false), (.move (.tmp 3))⟩,
  ⟨some 30, some (26, false), (.binOp .neq 26 (.tmp 28) (.tmp 29) 26)⟩,
  ⟨some 31, none, (.pick (.tmp 26) (.const (.bool true)) (.tmp 30))⟩] [8, 11, 31]
@[simp] noncomputable def F36_r6 : CC := .reg [⟨some 32, none, (.build 31 #[])⟩,
  ⟨none, none, (.store 31 (.tmp 8) (.tmp 32))⟩,
  ⟨some 9, none, (.assign (.const (.int .i64 40)))⟩] [8, 9]
@[simp] noncomputable def F36_r7 : CC := .reg [⟨some 33, none, (.fieldAddr 31 (.tmp 11) 4)⟩,
  ⟨some 34, none, (.load 9 (.tmp 33))⟩,
  ⟨some 35, none, (.binOp .eql 9 (.tmp 34) (.const (.string { data := #[] })) 9)⟩] [8, 11, 35]
@[simp] noncomputable def F36_r8 : CC := .reg [⟨some 36, none, (.load 31 (.tmp 11))⟩,
  ⟨none, none, (.store 31 (.tmp 8) (.tmp 36))⟩,
  ⟨some 9, none, (.assign (.const (.int .i64 41)))⟩] [8, 9]
@[simp] noncomputable def F36_r9 : CC := .reg [⟨some 37, none, (.load 31 (.tmp 11))⟩,
  ⟨none, none, (.store 31 (.tmp 8) (.tmp 37))⟩,
  ⟨some 9, none, (.assign (.const (.int .i64 0)))⟩] [8, 9]
@[simp] noncomputable def F36_r10 : CC := .reg [⟨some 38, none, (.binOp .add 3 (.tmp 14) (.const (.int .i64 1)) 3)⟩,
  ⟨some 14, none, (.move (.tmp 38))⟩] [2, 3, 5, 8, 12, 13, 14]
noncomputable def F36_l0 : CC := (.seq F36_r2 (.seq (.cond (.tmp 15) .skip (.exit 0)) (.seq (.block 1 (.seq F36_r3 (.seq (.seq F36_r4 (.cond (.tmp 21) (.exit 1) .skip)) (.seq (.seq F36_r5 (.cond (.tmp 31) (.seq F36_r6 .ret) .skip)) (.seq (.seq F36_r7 (.cond (.tmp 35) (.seq F36_r8 .ret) .skip)) (.seq F36_r9 .ret)))))) F36_r10)))
@[simp] noncomputable def F36_r11 : CC := .reg [⟨some 39, none, (.build 31 #[])⟩,
  ⟨none, none, (.store 31 (.tmp 8) (.tmp 39))⟩,
  ⟨some 9, none, (.assign (.const (.int .i64 2)))⟩] [8, 9]
noncomputable def F36 : CC := (.seq F36_r0 (.seq (.seq F36_r1 (.block 0 (.loop F36_l0))) (.seq F36_r11 .ret)))
noncomputable def F36_inf : Nat → RI
  | 0 => ⟨[0, 2, 3, 5, 8], [], []⟩
  | 1 => ⟨[2, 3, 5, 8, 12, 13, 14], [], []⟩
  | 2 => ⟨[2, 3, 5, 8, 12, 13, 14, 15], [], []⟩
  | 3 => ⟨[2, 3, 5, 8, 11, 12, 13, 14], [], []⟩
  | 4 => ⟨[2, 3, 5, 8, 11, 12, 13, 14, 21], [], []⟩
  | 5 => ⟨[8, 11, 31], [], []⟩
  | 6 => ⟨[8, 9], [], []⟩
  | 7 => ⟨[8, 11, 35], [], []⟩
  | 8 => ⟨[8, 9], [], []⟩
  | 9 => ⟨[8, 9], [], []⟩
  | 10 => ⟨[2, 3, 5, 8, 12, 13, 14], [], []⟩
  | 11 => ⟨[8, 9], [], []⟩
  | _ => ⟨[], [], []⟩
noncomputable def F36_c : Code := Try.f36.body.getD .skip
theorem F36_b : Try.f36.body = some F36_c := by kernel_rfl
theorem F36_rs : Try.f36.results.toList = ([.cell 8 31, .tmp 9] : List ResultVar) := by kernel_rfl
theorem F36_n : Try.f36.ntmps = 40 := by kernel_rfl
theorem F36_ok : toCC [] 40 F36_inf F36_c = some F36 := by kernel_rfl
theorem F36_in {args : List AV} {G : Hp} {post : AV → Hp → Prop} (ha : args.all AV.plain = true) (hn : args.length ≤ 40) (h : BDs args → awp Try.prog [] F36 (AEnds Try.prog [.cell 8 31, .tmp 9] post) (initT args) G) : ACalls Try.prog 36 args G post :=
  acalls_cc Try.func36 F36_b F36_rs F36_n F36_ok mixed ha hn h

/- 37 ostiary/ostiaryref25.Of -/
@[simp] noncomputable def F37_r0 : CC := .reg [⟨some 4, none, (.alloc 31)⟩,
  ⟨some 5, none, (.assign (.const (.bool false)))⟩] [0, 1, 4]
@[simp] noncomputable def F37_r1 : CC := .reg [⟨some 8, none, (.move (.tmp 0))⟩,
  ⟨some 9, none, (.call { callee := (.builtin .len), args := #[(.tmp 8)], argTypes := #[29] })⟩,
  ⟨some 10, none, (.move (.const (.int .i64 0)))⟩] [1, 4, 8, 9, 10]
@[simp] noncomputable def F37_r2 : CC := .reg [⟨some 11, none, (.binOp .lss 3 (.tmp 10) (.tmp 9) 3)⟩] [1, 4, 8, 9, 10, 11]
@[simp] noncomputable def F37_r3 : CC := .reg [⟨some 12, none, (.indexAddr 29 (.tmp 8) (.tmp 10))⟩,
  ⟨some 13, none, (.load 31 (.tmp 12))⟩,
  ⟨some 7, none, (.alloc 31)⟩,
  ⟨none, none, (.store 31 (.tmp 7) (.tmp 13))⟩] [1, 4, 7, 8, 9, 10]
@[simp] noncomputable def F37_r4 : CC := .reg [⟨some 14, none, (.fieldAddr 31 (.tmp 7) 1)⟩,
  ⟨some 15, none, (.load 26 (.tmp 14))⟩,
  ⟨some 16, none, (.move (.tmp 1))⟩,
  ⟨some 17, none, (.binOp .eql 26 (.tmp 15) (.tmp 16) 26)⟩] [1, 4, 7, 8, 9, 10, 17]
@[simp] noncomputable def F37_r5 : CC := .reg [⟨some 18, none, (.load 31 (.tmp 7))⟩,
  ⟨none, none, (.store 31 (.tmp 4) (.tmp 18))⟩,
  ⟨some 5, none, (.assign (.const (.bool true)))⟩] [4, 5]
@[simp] noncomputable def F37_r6 : CC := .reg [⟨some 19, none, (.binOp .add 3 (.tmp 10) (.const (.int .i64 1)) 3)⟩,
  ⟨some 10, none, (.move (.tmp 19))⟩] [1, 4, 8, 9, 10]
noncomputable def F37_l0 : CC := (.seq F37_r2 (.seq (.cond (.tmp 11) .skip (.exit 0)) (.seq (.block 1 (.seq F37_r3 (.seq F37_r4 (.cond (.tmp 17) (.seq F37_r5 .ret) .skip)))) F37_r6)))
@[simp] noncomputable def F37_r7 : CC := .reg [⟨some 20, none, (.build 31 #[])⟩,
  ⟨none, none, (.store 31 (.tmp 4) (.tmp 20))⟩,
  ⟨some 5, none, (.assign (.const (.bool false)))⟩] [4, 5]
noncomputable def F37 : CC := (.seq F37_r0 (.seq (.seq F37_r1 (.block 0 (.loop F37_l0))) (.seq F37_r7 .ret)))
noncomputable def F37_inf : Nat → RI
  | 0 => ⟨[0, 1, 4], [], []⟩
  | 1 => ⟨[1, 4, 8, 9, 10], [], []⟩
  | 2 => ⟨[1, 4, 8, 9, 10, 11], [], []⟩
  | 3 => ⟨[1, 4, 7, 8, 9, 10], [], []⟩
  | 4 => ⟨[1, 4, 7, 8, 9, 10, 17], [], []⟩
  | 5 => ⟨[4, 5], [], []⟩
  | 6 => ⟨[1, 4, 8, 9, 10], [], []⟩
  | 7 => ⟨[4, 5], [], []⟩
  | _ => ⟨[], [], []⟩
noncomputable def F37_c : Code := Try.f37.body.getD .skip
theorem F37_b : Try.f37.body = some F37_c := by kernel_rfl
theorem F37_rs : Try.f37.results.toList = ([.cell 4 31, .tmp 5] : List ResultVar) := by kernel_rfl
theorem F37_n : Try.f37.ntmps = 21 := by kernel_rfl
theorem F37_ok : toCC [] 21 F37_inf F37_c = some F37 := by kernel_rfl
theorem F37_in {args : List AV} {G : Hp} {post : AV → Hp → Prop} (ha : args.all AV.plain = true) (hn : args.length ≤ 21) (h : BDs args → awp Try.prog [] F37 (AEnds Try.prog [.cell 4 31, .tmp 5] post) (initT args) G) : ACalls Try.prog 37 args G post :=
  acalls_cc Try.func37 F37_b F37_rs F37_n F37_ok mixed ha hn h

/- 38 ostiary/ostiaryref25.At -/
@[simp] noncomputable def F38_r0 : CC := .reg [⟨some 3, none, (.box 24 (.tmp 1))⟩,
  ⟨some 4, none, (.alloc 31)⟩,
  ⟨some 5, none, (.assign (.const (.bool false)))⟩] [0, 3, 4]
@[simp] noncomputable def F38_r1 : CC := .reg [⟨some 8, none, (.move (.tmp 0))⟩,
  ⟨some 9, none, (.call { callee := (.builtin .len), args := #[(.tmp 8)], argTypes := #[29] })⟩,
  ⟨some 10, none, (.move (.const (.int .i64 0)))⟩] [3, 4, 8, 9, 10]
@[simp] noncomputable def F38_r2 : CC := .reg [⟨some 11, none, (.binOp .lss 3 (.tmp 10) (.tmp 9) 3)⟩] [3, 4, 8, 9, 10, 11]
@[simp] noncomputable def F38_r3 : CC := .reg [⟨some 12, none, (.indexAddr 29 (.tmp 8) (.tmp 10))⟩,
  ⟨some 13, none, (.load 31 (.tmp 12))⟩,
  ⟨some 7, none, (.alloc 31)⟩,
  ⟨none, none, (.store 31 (.tmp 7) (.tmp 13))⟩] [3, 4, 7, 8, 9, 10]
@[simp] noncomputable def F38_r4 : CC := .reg [⟨some 14, none, (.fieldAddr 31 (.tmp 7) 2)⟩,
  ⟨some 15, none, (.load 24 (.tmp 14))⟩,
  ⟨some 16, none, (.load 24 (.tmp 3))⟩,
  ⟨some 17, none, (.binOp .eql 24 (.tmp 15) (.tmp 16) 24)⟩] [3, 4, 7, 8, 9, 10, 17]
@[simp] noncomputable def F38_r5 : CC := .reg [⟨some 18, none, (.load 31 (.tmp 7))⟩,
  ⟨none, none, (.store 31 (.tmp 4) (.tmp 18))⟩,
  ⟨some 5, none, (.assign (.const (.bool true)))⟩] [4, 5]
@[simp] noncomputable def F38_r6 : CC := .reg [⟨some 19, none, (.binOp .add 3 (.tmp 10) (.const (.int .i64 1)) 3)⟩,
  ⟨some 10, none, (.move (.tmp 19))⟩] [3, 4, 8, 9, 10]
noncomputable def F38_l0 : CC := (.seq F38_r2 (.seq (.cond (.tmp 11) .skip (.exit 0)) (.seq (.block 1 (.seq F38_r3 (.seq F38_r4 (.cond (.tmp 17) (.seq F38_r5 .ret) .skip)))) F38_r6)))
@[simp] noncomputable def F38_r7 : CC := .reg [⟨some 20, none, (.build 31 #[])⟩,
  ⟨none, none, (.store 31 (.tmp 4) (.tmp 20))⟩,
  ⟨some 5, none, (.assign (.const (.bool false)))⟩] [4, 5]
noncomputable def F38 : CC := (.seq F38_r0 (.seq (.seq F38_r1 (.block 0 (.loop F38_l0))) (.seq F38_r7 .ret)))
noncomputable def F38_inf : Nat → RI
  | 0 => ⟨[0, 3, 4], [], []⟩
  | 1 => ⟨[3, 4, 8, 9, 10], [], []⟩
  | 2 => ⟨[3, 4, 8, 9, 10, 11], [], []⟩
  | 3 => ⟨[3, 4, 7, 8, 9, 10], [], []⟩
  | 4 => ⟨[3, 4, 7, 8, 9, 10, 17], [], []⟩
  | 5 => ⟨[4, 5], [], []⟩
  | 6 => ⟨[3, 4, 8, 9, 10], [], []⟩
  | 7 => ⟨[4, 5], [], []⟩
  | _ => ⟨[], [], []⟩
noncomputable def F38_c : Code := Try.f38.body.getD .skip
theorem F38_b : Try.f38.body = some F38_c := by kernel_rfl
theorem F38_rs : Try.f38.results.toList = ([.cell 4 31, .tmp 5] : List ResultVar) := by kernel_rfl
theorem F38_n : Try.f38.ntmps = 21 := by kernel_rfl
theorem F38_ok : toCC [] 21 F38_inf F38_c = some F38 := by kernel_rfl
theorem F38_in {args : List AV} {G : Hp} {post : AV → Hp → Prop} (ha : args.all AV.plain = true) (hn : args.length ≤ 21) (h : BDs args → awp Try.prog [] F38 (AEnds Try.prog [.cell 4 31, .tmp 5] post) (initT args) G) : ACalls Try.prog 38 args G post :=
  acalls_cc Try.func38 F38_b F38_rs F38_n F38_ok mixed ha hn h
end Go.Proofs.Ytmomphnkngbgjaa
