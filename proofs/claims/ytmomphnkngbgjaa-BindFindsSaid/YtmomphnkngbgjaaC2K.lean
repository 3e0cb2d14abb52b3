import Derived.Test.YtmomphnkngbgjaaC0K
set_option linter.unusedVariables false
set_option linter.unusedSimpArgs false
set_option maxRecDepth 100000
namespace Go.Proofs.Ytmomphnkngbgjaa
open Go Go.Al

/- 15 ostiary/ostiarylaw25.same -/
@[simp] noncomputable def F15_r0 : CC := .reg [⟨some 5, none, (.box 33 (.tmp 2))⟩,
  ⟨some 6, none, (.assign (.const (.bool false)))⟩] [0, 1, 5]
@[simp] noncomputable def F15_r1 : CC := .reg [⟨some 20, none, (.move (.tmp 0))⟩,
  ⟨some 21, none, (.fieldAddr 33 (.tmp 5) 1)⟩,
  ⟨some 22, none, (.fieldAddr 31 (.tmp 21) 2)⟩,
  ⟨some 23, none, (.load 24 (.tmp 22))⟩,
  ⟨some 24, none, (.fieldAddr 33 (.tmp 5) 1)⟩,
  ⟨some 25, none, (.fieldAddr 31 (.tmp 24) 0)⟩,
  ⟨some 26, none, (.load 25 (.tmp 25))⟩,
  ⟨some 27, none, (.fieldAddr 33 (.tmp 5) 1)⟩,
  ⟨some 28, none, (.fieldAddr 31 (.tmp 27) 1)⟩,
  ⟨some 29, none, (.load 26 (.tmp 28))⟩,
  ⟨some 30, none, (.call { callee := (.value (.func 11)), args := #[(.tmp 20), (.tmp 23), (.tmp 26), (.tmp 29)], argTypes := #[27, 24, 37, 38] })⟩,
  ⟨some 19, none, (.move (.tmp 30))⟩,
  ⟨some 31, none, (.extract (.tmp 19) 0)⟩,
  ⟨some 32, none, (.extract (.tmp 19) 1)⟩,
  ⟨some 7, none, (.alloc 40)⟩,
  ⟨none, none, (.store 40 (.tmp 7) (.tmp 31))⟩,
  ⟨some 8, none, (.assign (.tmp 32))⟩] [0, 1, 5, 7, 8]
@[simp] noncomputable def F15_r2 : CC := .reg [⟨some 34, none, (.move (.tmp 1))⟩,
  ⟨some 35, none, (.fieldAddr 33 (.tmp 5) 1)⟩,
  ⟨some 36, none, (.fieldAddr 31 (.tmp 35) 2)⟩,
  ⟨some 37, none, (.load 24 (.tmp 36))⟩,
  ⟨some 38, none, (.fieldAddr 33 (.tmp 5) 1)⟩,
  ⟨some 39, none, (.fieldAddr 31 (.tmp 38) 0)⟩,
  ⟨some 40, none, (.load 25 (.tmp 39))⟩,
  ⟨some 41, none, (.fieldAddr 33 (.tmp 5) 1)⟩,
  ⟨some 42, none, (.fieldAddr 31 (.tmp 41) 1)⟩,
  ⟨some 43, none, (.load 26 (.tmp 42))⟩,
  ⟨some 44, none, (.call { callee := (.value (.func 36)), args := #[(.tmp 34), (.tmp 37), (.tmp 40), (.tmp 43)], argTypes := #[29, 24, 25, 26] })⟩,
  ⟨some 33, none, (.move (.tmp 44))⟩,
  ⟨some 45, none, (.extract (.tmp 33) 0)⟩,
  ⟨some 46, none, (.extract (.tmp 33) 1)⟩,
  ⟨some 9, none, (.alloc 31)⟩,
  ⟨none, none, (.store 31 (.tmp 9) (.tmp 45))⟩,
  ⟨some 10, none, (.assign (.tmp 46))⟩] [0, 1, 5, 7, 8, 9, 10]
@[simp] noncomputable def F15_r3 : CC := .reg [⟨some 48, none, (.move (.tmp 0))⟩,
  ⟨some 49, none, (.fieldAddr 33 (.tmp 5) 1)⟩,
  ⟨some 50, none, (.fieldAddr 31 (.tmp 49) 1)⟩,
  ⟨some 51, none, (.load 26 (.tmp 50))⟩,
  ⟨some 52, none, (.call { callee := (.value (.func 19)), args := #[(.tmp 48), (.tmp 51)], argTypes := #[27, 38] })⟩,
  ⟨some 47, none, (.move (.tmp 52))⟩,
  ⟨some 53, none, (.extract (.tmp 47) 0)⟩,
  ⟨some 54, none, (.extract (.tmp 47) 1)⟩,
  ⟨some 11, none, (.alloc 40)⟩,
  ⟨none, none, (.store 40 (.tmp 11) (.tmp 53))⟩,
  ⟨some 12, none, (.assign (.tmp 54))⟩] [0, 1, 5, 7, 8, 9, 10, 11, 12]
@[simp] noncomputable def F15_r4 : CC := .reg [⟨some 56, none, (.move (.tmp 1))⟩,
  ⟨some 57, none, (.fieldAddr 33 (.tmp 5) 1)⟩,
  ⟨some 58, none, (.fieldAddr 31 (.tmp 57) 1)⟩,
  ⟨some 59, none, (.load 26 (.tmp 58))⟩,
  ⟨some 60, none, (.call { callee := (.value (.func 37)), args := #[(.tmp 56), (.tmp 59)], argTypes := #[29, 26] })⟩,
  ⟨some 55, none, (.move (.tmp 60))⟩,
  ⟨some 61, none, (.extract (.tmp 55) 0)⟩,
  ⟨some 62, none, (.extract (.tmp 55) 1)⟩,
  ⟨some 13, none, (.alloc 31)⟩,
  ⟨none, none, (.store 31 (.tmp 13) (.tmp 61))⟩,
  ⟨some 14, none, (.assign (.tmp 62))⟩] [0, 1, 5, 7, 8, 9, 10, 11, 12, 13, 14]
@[simp] noncomputable def F15_r5 : CC := .reg [⟨some 64, none, (.move (.tmp 0))⟩,
  ⟨some 65, none, (.fieldAddr 33 (.tmp 5) 2)⟩,
  ⟨some 66, none, (.load 24 (.tmp 65))⟩,
  ⟨some 67, none, (.call { callee := (.value (.func 20)), args := #[(.tmp 64), (.tmp 66)], argTypes := #[27, 24] })⟩,
  ⟨some 63, none, (.move (.tmp 67))⟩,
  ⟨some 68, none, (.extract (.tmp 63) 0)⟩,
  ⟨some 69, none, (.extract (.tmp 63) 1)⟩,
  ⟨some 15, none, (.alloc 40)⟩,
  ⟨none, none, (.store 40 (.tmp 15) (.tmp 68))⟩,
  ⟨some 16, none, (.assign (.tmp 69))⟩] [0, 1, 5, 7, 8, 9, 10, 11, 12, 13, 14, 15, 16]
@[simp] noncomputable def F15_r6 : CC := .reg [⟨some 71, none, (.move (.tmp 1))⟩,
  ⟨some 72, none, (.fieldAddr 33 (.tmp 5) 2)⟩,
  ⟨some 73, none, (.load 24 (.tmp 72))⟩,
  ⟨some 74, none, (.call { callee := (.value (.func 38)), args := #[(.tmp 71), (.tmp 73)], argTypes := #[29, 24] })⟩,
  ⟨some 70, none, (.move (.tmp 74))⟩,
  ⟨some 75, none, (.extract (.tmp 70) 0)⟩,
  ⟨some 76, none, (.extract (.tmp 70) 1)⟩,
  ⟨some 17, none, (.alloc 31)⟩,
  ⟨none, none, (.store 31 (.tmp 17) (.tmp 75))⟩,
  ⟨some 18, none, (.assign (.tmp 76))⟩] [0, 1, 7, 8, 9, 10, 11, 12, 13, 14, 15, 16, 17, 18]
@[simp] noncomputable def F15_r7 : CC := .drw [⟨0, ⟨some 77, none, (.load 40 (.tmp 7))⟩, [], []⟩,
  ⟨2, ⟨some 79, none, (.load 31 (.tmp 9))⟩, [], []⟩,
  ⟨1, ⟨some 78, none, (.call { callee := (.value (.func 26)), args := #[(.tmp 77)], argTypes := #[40] })⟩, [2], [⟨some 79, none, (.load 31 (.tmp 9))⟩]⟩,
  ⟨3, ⟨some 80, none, (.binOp .eql 31 (.tmp 78) (.tmp 79) 31)⟩, [], []⟩,
  ⟨4, ⟨some 81, none, (.move (.tmp 80))⟩, [], []⟩,
  ⟨5, ⟨some 82, some (81, true), (.move (.tmp 8))⟩, [], []⟩,
  ⟨6, ⟨some 83, some (81, true), (.move (.tmp 10))⟩, [], []⟩,
  ⟨7, ⟨some 84, some (81, true), (.binOp .eql 41 (.tmp 82) (.tmp 83) 41)⟩, [], []⟩,
  ⟨8, ⟨some 85, none, (.pick (.tmp 81) (.tmp 84) (.const (.bool false)))⟩, [], []⟩,
  ⟨9, ⟨some 86, none, (.move (.tmp 85))⟩, [], []⟩,
  ⟨10, ⟨some 87, some (86, true), (.load 40 (.tmp 11))⟩, [], []⟩,
  ⟨12, ⟨some 89, some (86, true), (.load 31 (.tmp 13))⟩, [], []⟩,
  ⟨11, ⟨some 88, some (86, true), (.call { callee := (.value (.func 26)), args := #[(.tmp 87)], argTypes := #[40] })⟩, [12], [⟨some 89, some (86, true), (.load 31 (.tmp 13))⟩]⟩,
  ⟨13, ⟨some 90, some (86, true), (.binOp .eql 31 (.tmp 88) (.tmp 89) 31)⟩, [], []⟩,
  ⟨14, ⟨some 91, none, (.pick (.tmp 86) (.tmp 90) (.const (.bool false)))⟩, [], []⟩,
  ⟨15, ⟨some 92, none, (.move (.tmp 91))⟩, [], []⟩,
  ⟨16, ⟨some 93, some (92, true), (.move (.tmp 12))⟩, [], []⟩,
  ⟨17, ⟨some 94, some (92, true), (.move (.tmp 14))⟩, [], []⟩,
  ⟨18, ⟨some 95, some (92, true), (.binOp .eql 4 (.tmp 93) (.tmp 94) 4)⟩, [], []⟩,
  ⟨19, ⟨some 96, none, (.pick (.tmp 92) (.tmp 95) (.const (.bool false)))⟩, [], []⟩,
  ⟨20, ⟨some 97, none, (.move (.tmp 96))⟩, [], []⟩,
  ⟨21, ⟨some 98, some (97, true), (.load 40 (.tmp 15))⟩, [], []⟩,
  ⟨23, ⟨some 100, some (97, true), (.load 31 (.tmp 17))⟩, [], []⟩,
  ⟨22, ⟨some 99, some (97, true), (.call { callee := (.value (.func 26)), args := #[(.tmp 98)], argTypes := #[40] })⟩, [23], [⟨some 100, some (97, true), (.load 31 (.tmp 17))⟩]⟩,
  ⟨24, ⟨some 101, some (97, true), (.binOp .eql 31 (.tmp 99) (.tmp 100) 31)⟩, [], []⟩,
  ⟨25, ⟨some 102, none, (.pick (.tmp 97) (.tmp 101) (.const (.bool false)))⟩, [], []⟩,
  ⟨26, ⟨some 103, none, (.move (.tmp 102))⟩, [], []⟩,
  ⟨27, ⟨some 104, some (103, true), (.move (.tmp 16))⟩, [], []⟩,
  ⟨28, ⟨some 105, some (103, true), (.move (.tmp 18))⟩, [], []⟩,
  ⟨29, ⟨some 106, some (103, true), (.binOp .eql 4 (.tmp 104) (.tmp 105) 4)⟩, [], []⟩,
  ⟨30, ⟨some 107, none, (.pick (.tmp 103) (.tmp 106) (.const (.bool false)))⟩, [], []⟩,
  ⟨31, ⟨some 108, none, (.move (.tmp 107))⟩, [], []⟩,
  ⟨32, ⟨some 109, some (108, true), (.move (.tmp 0))⟩, [], []⟩,
  ⟨35, ⟨some 112, some (108, true), (.move (.tmp 1))⟩, [], []⟩,
  ⟨33, ⟨some 110, some (108, true), (.call { callee := (.value (.func 14)), args := #[(.tmp 109)], argTypes := #[27] })⟩, [], []⟩,
  ⟨34, ⟨some 111, some (108, true), (.call { callee := (.value (.func 30)), args := #[(.tmp 110)], argTypes := #[47] })⟩, [], []⟩,
  ⟨36, ⟨some 113, some (108, true), (.call { callee := (.value (.func 29)), args := #[(.tmp 111), (.tmp 112)], argTypes := #[29, 29] })⟩, [], []⟩,
  ⟨37, ⟨some 114, none, (.pick (.tmp 108) (.tmp 113) (.const (.bool false)))⟩, [], []⟩,
  ⟨38, ⟨some 6, none, (.assign (.tmp 114))⟩, [], []⟩] [77, 79, 78, 80, 81, 82, 83, 84, 85, 86, 87, 89, 88, 90, 91, 92, 93, 94, 95, 96, 97, 98, 100, 99, 101, 102, 103, 104, 105, 106, 107, 108, 109, 112, 110, 111, 113, 114, 6] [6]
noncomputable def F15 : CC := (.seq F15_r0 (.seq F15_r1 (.seq F15_r2 (.seq F15_r3 (.seq F15_r4 (.seq F15_r5 (.seq F15_r6 (.seq F15_r7 .ret))))))))
noncomputable def F15_inf : Nat → RI
  | 0 => ⟨[0, 1, 5], [], []⟩
  | 1 => ⟨[0, 1, 5, 7, 8], [], []⟩
  | 2 => ⟨[0, 1, 5, 7, 8, 9, 10], [], []⟩
  | 3 => ⟨[0, 1, 5, 7, 8, 9, 10, 11, 12], [], []⟩
  | 4 => ⟨[0, 1, 5, 7, 8, 9, 10, 11, 12, 13, 14], [], []⟩
  | 5 => ⟨[0, 1, 5, 7, 8, 9, 10, 11, 12, 13, 14, 15, 16], [], []⟩
  | 6 => ⟨[0, 1, 7, 8, 9, 10, 11, 12, 13, 14, 15, 16, 17, 18], [], []⟩
  | 7 => ⟨[6], [0, 1, 0, 7, 15, 31, 31, 127, 255, 511, 1023, 2047, 1023, 8191, 16383, 32767, 65535, 65535, 262143, 524287, 1048575, 2097151, 4194303, 2097151, 16777215, 33554431, 67108863, 134217727, 134217727, 536870911, 1073741823, 2147483647, 4294967295, 8589934591, 17179869183, 4294967295, 68719476735, 137438953471, 274877906943], [(0, []), (2, []), (1, [2]), (3, []), (4, []), (5, []), (6, []), (7, []), (8, []), (9, []), (10, []), (12, []), (11, [12]), (13, []), (14, []), (15, []), (16, []), (17, []), (18, []), (19, []), (20, []), (21, []), (23, []), (22, [23]), (24, []), (25, []), (26, []), (27, []), (28, []), (29, []), (30, []), (31, []), (32, []), (35, []), (33, []), (34, []), (36, []), (37, []), (38, [])]⟩
  | _ => ⟨[], [], []⟩
noncomputable def F15_c : Code := Try.f15.body.getD .skip
theorem F15_b : Try.f15.body = some F15_c := by kernel_rfl
theorem F15_rs : Try.f15.results.toList = ([.tmp 6] : List ResultVar) := by kernel_rfl
theorem F15_n : Try.f15.ntmps = 115 := by kernel_rfl
theorem F15_ok : toCC [] 115 F15_inf F15_c = some F15 := by kernel_rfl
theorem F15_in {args : List AV} {G : Hp} {post : AV → Hp → Prop} (ha : args.all AV.plain = true) (hn : args.length ≤ 115) (h : BDs args → awp Try.prog [] F15 (AEnds Try.prog [.tmp 6] post) (initT args) G) : ACalls Try.prog 15 args G post :=
  acalls_cc Try.func15 F15_b F15_rs F15_n F15_ok mixed ha hn h

/- 16 (*ostiary/bind.Table).Put -/
@[simp] noncomputable def F16_r0 : CC := .reg [⟨some 3, none, (.box 40 (.tmp 1))⟩,
  ⟨some 4, none, (.assign (.const (.slice none 0 0)))⟩,
  ⟨some 5, none, (.assign (.const (.int .i64 0)))⟩] [0, 3]
@[simp] noncomputable def F16_r1 : CC := .reg [⟨some 8, none, (.move (.tmp 0))⟩,
  ⟨some 9, none, (.binOp .eql 27 (.tmp 8) (.const (.pointer none)) 27)⟩,
  ⟨some 7, none, (.assign (.tmp 9))⟩] [0, 3, 7]
@[simp] noncomputable def F16_r2 : CC := .reg [⟨some 4, none, (.assign (.const (.slice none 0 0)))⟩,
  ⟨some 5, none, (.assign (.const (.int .i64 11)))⟩] [4, 5]
@[simp] noncomputable def F16_r3 : CC := .reg [⟨some 11, none, (.load 40 (.tmp 3))⟩,
  ⟨some 12, none, (.call { callee := (.value (.func 39)), args := #[(.tmp 11)], argTypes := #[40] })⟩,
  ⟨some 13, none, (.unOp .not 4 (.tmp 12))⟩,
  ⟨some 10, none, (.assign (.tmp 13))⟩] [0, 3, 10]
@[simp] noncomputable def F16_r4 : CC := .reg [⟨some 4, none, (.assign (.const (.slice none 0 0)))⟩,
  ⟨some 5, none, (.assign (.const (.int .i64 1)))⟩] [4, 5]
@[simp] noncomputable def F16_r5 : CC := .reg [⟨some 14, none, (.move (.tmp 0))⟩,
  ⟨some 15, none, (.makeFunc (.func 41) #[] #[(.tmp 3)])⟩,
  ⟨some 16, none, (.call { callee := (.value (.func 40)), args := #[(.tmp 14), (.tmp 15)], argTypes := #[27, 86] })⟩,
  ⟨some 6, none, (.assign (.tmp 16))⟩] [0, 3, 6]
@[simp] noncomputable def F16_r6 : CC := .drw [⟨0, ⟨some 17, none, (.move (.tmp 0))⟩, [], []⟩,
  ⟨1, ⟨some 18, none, (.nilCheck (.tmp 17))⟩, [], []⟩,
  ⟨2, ⟨some 19, none, (.fieldAddr 68 (.tmp 18) 0)⟩, [], []⟩,
  ⟨3, ⟨some 20, none, (.load 65 (.tmp 19))⟩, [], []⟩,
  ⟨4, ⟨some 21, none, (.fieldAddr 40 (.tmp 3) 0)⟩, [], []⟩,
  ⟨5, ⟨some 22, none, (.load 37 (.tmp 21))⟩, [], []⟩,
  ⟨6, ⟨some 23, none, (.load 40 (.tmp 3))⟩, [], []⟩,
  ⟨7, ⟨some 24, none, (.call { callee := (.value (.func 42)), args := #[(.tmp 20), (.tmp 22), (.tmp 23)], argTypes := #[65, 37, 40] })⟩, [], []⟩] [17, 18, 19, 20, 21, 22, 23, 24] [6]
@[simp] noncomputable def F16_r7 : CC := .reg [⟨some 25, none, (.move (.tmp 6))⟩,
  ⟨some 4, none, (.assign (.tmp 25))⟩,
  ⟨some 5, none, (.assign (.const (.int .i64 0)))⟩] [4, 5]
noncomputable def F16 : CC := (.seq F16_r0 (.seq (.block 0 (.seq F16_r1 (.cond (.tmp 7) (.seq F16_r2 .ret) (.seq F16_r3 (.cond (.tmp 10) (.seq F16_r4 .ret) .skip))))) (.seq F16_r5 (.seq F16_r6 (.seq F16_r7 .ret)))))
noncomputable def F16_inf : Nat → RI
  | 0 => ⟨[0, 3], [], []⟩
  | 1 => ⟨[0, 3, 7], [], []⟩
  | 2 => ⟨[4, 5], [], []⟩
  | 3 => ⟨[0, 3, 10], [], []⟩
  | 4 => ⟨[4, 5], [], []⟩
  | 5 => ⟨[0, 3, 6], [], []⟩
  | 6 => ⟨[6], [0, 1, 3, 7, 0, 16, 0, 127], [(0, []), (1, []), (2, []), (3, []), (4, []), (5, []), (6, []), (7, [])]⟩
  | 7 => ⟨[4, 5], [], []⟩
  | _ => ⟨[], [], []⟩
noncomputable def F16_c : Code := Try.f16.body.getD .skip
theorem F16_b : Try.f16.body = some F16_c := by kernel_rfl
theorem F16_rs : Try.f16.results.toList = ([.tmp 4, .tmp 5] : List ResultVar) := by kernel_rfl
theorem F16_n : Try.f16.ntmps = 26 := by kernel_rfl
theorem F16_ok : toCC [3] 26 F16_inf F16_c = some F16 := by kernel_rfl
theorem F16_in {args : List AV} {G : Hp} {post : AV → Hp → Prop} (ha : args.all AV.plain = true) (hn : args.length ≤ 26) (h : BDs args → awp Try.prog [3] F16 (AEnds Try.prog [.tmp 4, .tmp 5] post) (initT args) G) : ACalls Try.prog 16 args G post :=
  acalls_cc Try.func16 F16_b F16_rs F16_n F16_ok mixed ha hn h

/- 17 ostiary/ostiarylaw25.Ours -/
@[simp] noncomputable def F17_r0 : CC := .reg [⟨some 1, none, (.box 31 (.tmp 0))⟩,
  ⟨some 2, none, (.alloc 40)⟩] [1, 2]
@[simp] noncomputable def F17_r1 : CC := .reg [⟨some 3, none, (.fieldAddr 31 (.tmp 1) 0)⟩,
  ⟨some 4, none, (.load 25 (.tmp 3))⟩,
  ⟨some 5, none, (.fieldAddr 31 (.tmp 1) 1)⟩,
  ⟨some 6, none, (.load 26 (.tmp 5))⟩,
  ⟨some 7, none, (.fieldAddr 31 (.tmp 1) 2)⟩,
  ⟨some 8, none, (.load 24 (.tmp 7))⟩,
  ⟨some 9, none, (.fieldAddr 31 (.tmp 1) 3)⟩,
  ⟨some 10, none, (.load 9 (.tmp 9))⟩,
  ⟨some 11, none, (.fieldAddr 31 (.tmp 1) 4)⟩,
  ⟨some 12, none, (.load 9 (.tmp 11))⟩,
  ⟨some 13, none, (.fieldAddr 31 (.tmp 1) 5)⟩,
  ⟨some 14, none, (.load 2 (.tmp 13))⟩,
  ⟨some 15, none, (.build 40 #[(0, (.tmp 4)), (1, (.tmp 6)), (2, (.tmp 8)), (3, (.tmp 10)), (4, (.tmp 12)), (5, (.tmp 14))])⟩,
  ⟨none, none, (.store 40 (.tmp 2) (.tmp 15))⟩] [2]
noncomputable def F17 : CC := (.seq F17_r0 (.seq F17_r1 .ret))
noncomputable def F17_inf : Nat → RI
  | 0 => ⟨[1, 2], [], []⟩
  | 1 => ⟨[2], [], []⟩
  | _ => ⟨[], [], []⟩
noncomputable def F17_c : Code := Try.f17.body.getD .skip
theorem F17_b : Try.f17.body = some F17_c := by kernel_rfl
theorem F17_rs : Try.f17.results.toList = ([.cell 2 40] : List ResultVar) := by kernel_rfl
theorem F17_n : Try.f17.ntmps = 16 := by kernel_rfl
theorem F17_ok : toCC [] 16 F17_inf F17_c = some F17 := by kernel_rfl
theorem F17_in {args : List AV} {G : Hp} {post : AV → Hp → Prop} (ha : args.all AV.plain = true) (hn : args.length ≤ 16) (h : BDs args → awp Try.prog [] F17 (AEnds Try.prog [.cell 2 40] post) (initT args) G) : ACalls Try.prog 17 args G post :=
  acalls_cc Try.func17 F17_b F17_rs F17_n F17_ok mixed ha hn h

/- 18 (*ostiary/bind.Table).Logout -/
@[simp] noncomputable def F18_r0 : CC := .reg [⟨some 4, none, (.alloc 40)⟩,
  ⟨some 5, none, (.assign (.const (.bool false)))⟩] [0, 1, 4]
@[simp] noncomputable def F18_r1 : CC := .reg [⟨some 9, none, (.move (.tmp 0))⟩,
  ⟨some 10, none, (.binOp .eql 27 (.tmp 9) (.const (.pointer none)) 27)⟩] [0, 1, 4, 10]
@[simp] noncomputable def F18_r2 : CC := .reg [⟨some 11, none, (.build 40 #[])⟩,
  ⟨none, none, (.store 40 (.tmp 4) (.tmp 11))⟩,
  ⟨some 5, none, (.assign (.const (.bool false)))⟩] [4, 5]
@[simp] noncomputable def F18_r3 : CC := .reg [⟨some 13, none, (.move (.tmp 0))⟩,
  ⟨some 14, none, (.nilCheck (.tmp 13))⟩,
  ⟨some 15, none, (.fieldAddr 68 (.tmp 14) 0)⟩,
  ⟨some 16, none, (.load 65 (.tmp 15))⟩,
  ⟨some 17, none, (.move (.tmp 1))⟩,
  ⟨some 18, none, (.call { callee := (.value (.func 43)), args := #[(.tmp 16), (.tmp 17)], argTypes := #[65, 37] })⟩,
  ⟨some 12, none, (.move (.tmp 18))⟩,
  ⟨some 19, none, (.extract (.tmp 12) 0)⟩,
  ⟨some 20, none, (.extract (.tmp 12) 1)⟩,
  ⟨some 6, none, (.alloc 40)⟩,
  ⟨none, none, (.store 40 (.tmp 6) (.tmp 19))⟩,
  ⟨some 7, none, (.assign (.tmp 20))⟩] [0, 1, 4, 6, 7]
@[simp] noncomputable def F18_r4 : CC := .reg [⟨some 21, none, (.move (.tmp 7))⟩,
  ⟨some 22, none, (.unOp .not 4 (.tmp 21))⟩,
  ⟨some 23, none, (.move (.tmp 22))⟩,
  ⟨some 24, some (23, false), (.fieldAddr 40 (.tmp 6) 4)⟩,
  ⟨some 25, some (23, false), (.load 9 (.tmp 24))⟩,
  ⟨some 26, some (23, false), (.binOp .eql 9 (.tmp 25) (.const (.string { data := #[] })) 9)⟩,
  ⟨some 27, none, (.pick (.tmp 23) (.const (.bool true)) (.tmp 26))⟩] [0, 1, 4, 6, 27]
@[simp] noncomputable def F18_r5 : CC := .reg [⟨some 28, none, (.build 40 #[])⟩,
  ⟨none, none, (.store 40 (.tmp 4) (.tmp 28))⟩,
  ⟨some 5, none, (.assign (.const (.bool false)))⟩] [4, 5]
@[simp] noncomputable def F18_r6 : CC := .reg [⟨some 29, none, (.load 40 (.tmp 6))⟩,
  ⟨some 8, none, (.alloc 40)⟩,
  ⟨none, none, (.store 40 (.tmp 8) (.tmp 29))⟩] [0, 1, 4, 6, 8]
@[simp] noncomputable def F18_r7 : CC := .reg [⟨some 30, none, (.fieldAddr 40 (.tmp 8) 4)⟩,
  ⟨none, none, (.store 9 (.tmp 30) (.const (.string { data := #[] })))⟩] [0, 1, 4, 6, 8]
@[simp] noncomputable def F18_r8 : CC := .drw [⟨0, ⟨some 31, none, (.move (.tmp 0))⟩, [], []⟩,
  ⟨1, ⟨some 32, none, (.nilCheck (.tmp 31))⟩, [], []⟩,
  ⟨2, ⟨some 33, none, (.fieldAddr 68 (.tmp 32) 0)⟩, [], []⟩,
  ⟨3, ⟨some 34, none, (.load 65 (.tmp 33))⟩, [], []⟩,
  ⟨4, ⟨some 35, none, (.move (.tmp 1))⟩, [], []⟩,
  ⟨5, ⟨some 36, none, (.load 40 (.tmp 8))⟩, [], []⟩,
  ⟨6, ⟨some 37, none, (.call { callee := (.value (.func 42)), args := #[(.tmp 34), (.tmp 35), (.tmp 36)], argTypes := #[65, 37, 40] })⟩, [], []⟩] [31, 32, 33, 34, 35, 36, 37] [4, 6]
@[simp] noncomputable def F18_r9 : CC := .reg [⟨some 38, none, (.load 40 (.tmp 6))⟩,
  ⟨none, none, (.store 40 (.tmp 4) (.tmp 38))⟩,
  ⟨some 5, none, (.assign (.const (.bool true)))⟩] [4, 5]
noncomputable def F18 : CC := (.seq F18_r0 (.seq (.seq F18_r1 (.cond (.tmp 10) (.seq F18_r2 .ret) .skip)) (.seq F18_r3 (.seq (.seq F18_r4 (.cond (.tmp 27) (.seq F18_r5 .ret) .skip)) (.seq F18_r6 (.seq F18_r7 (.seq F18_r8 (.seq F18_r9 .ret))))))))
noncomputable def F18_inf : Nat → RI
  | 0 => ⟨[0, 1, 4], [], []⟩
  | 1 => ⟨[0, 1, 4, 10], [], []⟩
  | 2 => ⟨[4, 5], [], []⟩
  | 3 => ⟨[0, 1, 4, 6, 7], [], []⟩
  | 4 => ⟨[0, 1, 4, 6, 27], [], []⟩
  | 5 => ⟨[4, 5], [], []⟩
  | 6 => ⟨[0, 1, 4, 6, 8], [], []⟩
  | 7 => ⟨[0, 1, 4, 6, 8], [], []⟩
  | 8 => ⟨[4, 6], [0, 1, 3, 7, 0, 0, 63], [(0, []), (1, []), (2, []), (3, []), (4, []), (5, []), (6, [])]⟩
  | 9 => ⟨[4, 5], [], []⟩
  | _ => ⟨[], [], []⟩
noncomputable def F18_c : Code := Try.f18.body.getD .skip
theorem F18_b : Try.f18.body = some F18_c := by kernel_rfl
theorem F18_rs : Try.f18.results.toList = ([.cell 4 40, .tmp 5] : List ResultVar) := by kernel_rfl
theorem F18_n : Try.f18.ntmps = 39 := by kernel_rfl
theorem F18_ok : toCC [] 39 F18_inf F18_c = some F18 := by kernel_rfl
theorem F18_in {args : List AV} {G : Hp} {post : AV → Hp → Prop} (ha : args.all AV.plain = true) (hn : args.length ≤ 39) (h : BDs args → awp Try.prog [] F18 (AEnds Try.prog [.cell 4 40, .tmp 5] post) (initT args) G) : ACalls Try.prog 18 args G post :=
  acalls_cc Try.func18 F18_b F18_rs F18_n F18_ok mixed ha hn h

/- 19 (*ostiary/bind.Table).Of -/
@[simp] noncomputable def F19_r0 : CC := .reg [⟨some 3, none, (.box 38 (.tmp 1))⟩,
  ⟨some 4, none, (.alloc 40)⟩,
  ⟨some 5, none, (.assign (.const (.bool false)))⟩] [0, 3, 4]
@[simp] noncomputable def F19_r1 : CC := .reg [⟨some 6, none, (.move (.tmp 0))⟩,
  ⟨some 7, none, (.makeFunc (.func 45) #[] #[(.tmp 3)])⟩,
  ⟨some 8, none, (.call { callee := (.value (.func 44)), args := #[(.tmp 6), (.tmp 7)], argTypes := #[27, 86] })⟩,
  ⟨some 9, none, (.extract (.tmp 8) 0)⟩,
  ⟨some 10, none, (.extract (.tmp 8) 1)⟩,
  ⟨none, none, (.store 40 (.tmp 4) (.tmp 9))⟩,
  ⟨some 5, none, (.assign (.tmp 10))⟩] [4, 5]
noncomputable def F19 : CC := (.seq F19_r0 (.seq F19_r1 .ret))
noncomputable def F19_inf : Nat → RI
  | 0 => ⟨[0, 3, 4], [], []⟩
  | 1 => ⟨[4, 5], [], []⟩
  | _ => ⟨[], [], []⟩
noncomputable def F19_c : Code := Try.f19.body.getD .skip
theorem F19_b : Try.f19.body = some F19_c := by kernel_rfl
theorem F19_rs : Try.f19.results.toList = ([.cell 4 40, .tmp 5] : List ResultVar) := by kernel_rfl
theorem F19_n : Try.f19.ntmps = 11 := by kernel_rfl
theorem F19_ok : toCC [3] 11 F19_inf F19_c = some F19 := by kernel_rfl
theorem F19_in {args : List AV} {G : Hp} {post : AV → Hp → Prop} (ha : args.all AV.plain = true) (hn : args.length ≤ 11) (h : BDs args → awp Try.prog [3] F19 (AEnds Try.prog [.cell 4 40, .tmp 5] post) (initT args) G) : ACalls Try.prog 19 args G post :=
  acalls_cc Try.func19 F19_b F19_rs F19_n F19_ok mixed ha hn h

/- 20 (*ostiary/bind.Table).At -/
@[simp] noncomputable def F20_r0 : CC := .reg [⟨some 3, none, (.box 24 (.tmp 1))⟩,
  ⟨some 4, none, (.alloc 40)⟩,
  ⟨some 5, none, (.assign (.const (.bool false)))⟩] [0, 3, 4]
@[simp] noncomputable def F20_r1 : CC := .reg [⟨some 6, none, (.move (.tmp 0))⟩,
  ⟨some 7, none, (.makeFunc (.func 46) #[] #[(.tmp 3)])⟩,
  ⟨some 8, none, (.call { callee := (.value (.func 44)), args := #[(.tmp 6), (.tmp 7)], argTypes := #[27, 86] })⟩,
  ⟨some 9, none, (.extract (.tmp 8) 0)⟩,
  ⟨some 10, none, (.extract (.tmp 8) 1)⟩,
  ⟨none, none, (.store 40 (.tmp 4) (.tmp 9))⟩,
  ⟨some 5, none, (.assign (.tmp 10))⟩] [4, 5]
noncomputable def F20 : CC := (.seq F20_r0 (.seq F20_r1 .ret))
noncomputable def F20_inf : Nat → RI
  | 0 => ⟨[0, 3, 4], [], []⟩
  | 1 => ⟨[4, 5], [], []⟩
  | _ => ⟨[], [], []⟩
noncomputable def F20_c : Code := Try.f20.body.getD .skip
theorem F20_b : Try.f20.body = some F20_c := by kernel_rfl
theorem F20_rs : Try.f20.results.toList = ([.cell 4 40, .tmp 5] : List ResultVar) := by kernel_rfl
theorem F20_n : Try.f20.ntmps = 11 := by kernel_rfl
theorem F20_ok : toCC [3] 11 F20_inf F20_c = some F20 := by kernel_rfl
theorem F20_in {args : List AV} {G : Hp} {post : AV → Hp → Prop} (ha : args.all AV.plain = true) (hn : args.length ≤ 11) (h : BDs args → awp Try.prog [3] F20 (AEnds Try.prog [.cell 4 40, .tmp 5] post) (initT args) G) : ACalls Try.prog 20 args G post :=
  acalls_cc Try.func20 F20_b F20_rs F20_n F20_ok mixed ha hn h

/- 21 (*ostiary/bind.Table).Login -/
@[simp] noncomputable def F21_r0 : CC := .reg [⟨some 6, none, (.assign (.const (.bool false)))⟩] [0, 1, 2]
@[simp] noncomputable def F21_r1 : CC := .reg [⟨some 9, none, (.move (.tmp 0))⟩,
  ⟨some 10, none, (.binOp .eql 27 (.tmp 9) (.const (.pointer none)) 27)⟩,
  ⟨some 11, none, (.move (.tmp 10))⟩,
  ⟨some 12, some (11, false), (.move (.tmp 2))⟩,
  ⟨some 13, some (11, false), (.call { callee := (.value (.func 47)), args := #[(.tmp 12)], argTypes := #[9] })⟩,
  ⟨some 14, some (11, false), (.unOp .not 4 (.tmp 13))⟩,
  ⟨some 15, none, (.pick (.tmp 11) (.const (.bool true)) (.tmp 14))⟩] [0, 1, 2, 15]
@[simp] noncomputable def F21_r2 : CC := .reg [⟨some 6, none, (.assign (.const (.bool false)))⟩] [6]
@[simp] noncomputable def F21_r3 : CC := .reg [⟨some 17, none, (.move (.tmp 0))⟩,
  ⟨some 18, none, (.nilCheck (.tmp 17))⟩,
  ⟨some 19, none, (.fieldAddr 68 (.tmp 18) 0)⟩,
  ⟨some 20, none, (.load 65 (.tmp 19))⟩,
  ⟨some 21, none, (.move (.tmp 1))⟩,
  ⟨some 22, none, (.call { callee := (.value (.func 43)), args := #[(.tmp 20), (.tmp 21)], argTypes := #[65, 37] })⟩,
  ⟨some 16, none, (.move (.tmp 22))⟩,
  ⟨some 23, none, (.extract (.tmp 16) 0)⟩,
  ⟨some 24, none, (.extract (.tmp 16) 1)⟩,
  ⟨some 7, none, (.alloc 40)⟩,
  ⟨none, none, (.store 40 (.tmp 7) (.tmp 23))⟩,
  ⟨some 8, none, (.assign (.tmp 24))⟩] [0, 1, 2, 7, 8]
@[simp] noncomputable def F21_r4 : CC := .reg [⟨some 25, none, (.move (.tmp 8))⟩] [0, 1, 2, 7, 8, 25]
@[simp] noncomputable def F21_r5 : CC := .reg [⟨some 26, none, (.move (.tmp 2))⟩,
  ⟨some 27, none, (.fieldAddr 40 (.tmp 7) 4)⟩,
  ⟨none, none, (.store 9 (.tmp 27) (.tmp 26))⟩] [0, 1, 7, 8]
@[simp] noncomputable def F21_r6 : CC := .drw [⟨0, ⟨some 28, none, (.move (.tmp 0))⟩, [], []⟩,
  ⟨1, ⟨some 29, none, (.nilCheck (.tmp 28))⟩, [], []⟩,
  ⟨2, ⟨some 30, none, (.fieldAddr 68 (.tmp 29) 0)⟩, [], []⟩,
  ⟨3, ⟨some 31, none, (.load 65 (.tmp 30))⟩, [], []⟩,
  ⟨4, ⟨some 32, none, (.move (.tmp 1))⟩, [], []⟩,
  ⟨5, ⟨some 33, none, (.load 40 (.tmp 7))⟩, [], []⟩,
  ⟨6, ⟨some 34, none, (.call { callee := (.value (.func 42)), args := #[(.tmp 31), (.tmp 32), (.tmp 33)], argTypes := #[65, 37, 40] })⟩, [], []⟩] [28, 29, 30, 31, 32, 33, 34] [8]
@[simp] noncomputable def F21_r7 : CC := .reg [⟨some 35, none, (.move (.tmp 8))⟩,
  ⟨some 6, none, (.assign (.tmp 35))⟩] [6]
noncomputable def F21 : CC := (.seq F21_r0 (.seq (.seq F21_r1 (.cond (.tmp 15) (.seq F21_r2 .ret) .skip)) (.seq F21_r3 (.seq (.seq F21_r4 (.cond (.tmp 25) (.seq F21_r5 F21_r6) .skip)) (.seq F21_r7 .ret)))))
noncomputable def F21_inf : Nat → RI
  | 0 => ⟨[0, 1, 2], [], []⟩
  | 1 => ⟨[0, 1, 2, 15], [], []⟩
  | 2 => ⟨[6], [], []⟩
  | 3 => ⟨[0, 1, 2, 7, 8], [], []⟩
  | 4 => ⟨[0, 1, 2, 7, 8, 25], [], []⟩
  | 5 => ⟨[0, 1, 7, 8], [], []⟩
  | 6 => ⟨[8], [0, 1, 3, 7, 0, 0, 63], [(0, []), (1, []), (2, []), (3, []), (4, []), (5, []), (6, [])]⟩
  | 7 => ⟨[6], [], []⟩
  | _ => ⟨[], [], []⟩
noncomputable def F21_c : Code := Try.f21.body.getD .skip
theorem F21_b : Try.f21.body = some F21_c := by kernel_rfl
theorem F21_rs : Try.f21.results.toList = ([.tmp 6] : List ResultVar) := by kernel_rfl
theorem F21_n : Try.f21.ntmps = 36 := by kernel_rfl
theorem F21_ok : toCC [] 36 F21_inf F21_c = some F21 := by kernel_rfl
theorem F21_in {args : List AV} {G : Hp} {post : AV → Hp → Prop} (ha : args.all AV.plain = true) (hn : args.length ≤ 36) (h : BDs args → awp Try.prog [] F21 (AEnds Try.prog [.tmp 6] post) (initT args) G) : ACalls Try.prog 21 args G post :=
  acalls_cc Try.func21 F21_b F21_rs F21_n F21_ok mixed ha hn h

/- 22 (*ostiary/bind.Table).Leave -/
@[simp] noncomputable def F22_r0 : CC := .reg [⟨some 3, none, (.box 77 (.tmp 1))⟩,
  ⟨some 4, none, (.assign (.const (.slice none 0 0)))⟩] [0, 3]
@[simp] noncomputable def F22_r1 : CC := .reg [⟨some 5, none, (.move (.tmp 0))⟩,
  ⟨some 6, none, (.makeFunc (.func 48) #[] #[(.tmp 3)])⟩,
  ⟨some 7, none, (.call { callee := (.value (.func 40)), args := #[(.tmp 5), (.tmp 6)], argTypes := #[27, 86] })⟩,
  ⟨some 4, none, (.assign (.tmp 7))⟩] [4]
noncomputable def F22 : CC := (.seq F22_r0 (.seq F22_r1 .ret))
noncomputable def F22_inf : Nat → RI
  | 0 => ⟨[0, 3], [], []⟩
  | 1 => ⟨[4], [], []⟩
  | _ => ⟨[], [], []⟩
noncomputable def F22_c : Code := Try.f22.body.getD .skip
theorem F22_b : Try.f22.body = some F22_c := by kernel_rfl
theorem F22_rs : Try.f22.results.toList = ([.tmp 4] : List ResultVar) := by kernel_rfl
theorem F22_n : Try.f22.ntmps = 8 := by kernel_rfl
theorem F22_ok : toCC [3] 8 F22_inf F22_c = some F22 := by kernel_rfl
theorem F22_in {args : List AV} {G : Hp} {post : AV → Hp → Prop} (ha : args.all AV.plain = true) (hn : args.length ≤ 8) (h : BDs args → awp Try.prog [3] F22 (AEnds Try.prog [.tmp 4] post) (initT args) G) : ACalls Try.prog 22 args G post :=
  acalls_cc Try.func22 F22_b F22_rs F22_n F22_ok mixed ha hn h

/- 23 (*ostiary/bind.Table).Forget -/
@[simp] noncomputable def F23_r0 : CC := .reg [⟨some 3, none, (.box 9 (.tmp 1))⟩,
  ⟨some 4, none, (.assign (.const (.slice none 0 0)))⟩] [0, 3]
@[simp] noncomputable def F23_r1 : CC := .reg [⟨some 5, none, (.assign (.const (.slice none 0 0)))⟩] [0, 3, 5]
@[simp] noncomputable def F23_r2 : CC := .reg [⟨some 10, none, (.move (.tmp 0))⟩,
  ⟨some 11, none, (.call { callee := (.value (.func 14)), args := #[(.tmp 10)], argTypes := #[27] })⟩,
  ⟨some 12, none, (.call { callee := (.builtin .len), args := #[(.tmp 11)], argTypes := #[47] })⟩,
  ⟨some 13, none, (.move (.const (.int .i64 0)))⟩] [0, 3, 5, 11, 12, 13]
@[simp] noncomputable def F23_r3 : CC := .reg [⟨some 14, none, (.binOp .lss 3 (.tmp 13) (.tmp 12) 3)⟩] [0, 3, 5, 11, 12, 13, 14]
@[simp] noncomputable def F23_r4 : CC := .reg [⟨some 15, none, (.indexAddr 47 (.tmp 11) (.tmp 13))⟩,
  ⟨some 16, none, (.load 40 (.tmp 15))⟩,
  ⟨some 7, none, (.alloc 40)⟩,
  ⟨none, none, (.store 40 (.tmp 7) (.tmp 16))⟩] [0, 3, 5, 7, 11, 12, 13]
@[simp] noncomputable def F23_r5 : CC := .reg [⟨some 17, none, (.load 9 (.tmp 3))⟩,
  ⟨some 18, none, (.binOp .neq 9 (.tmp 17) (.const (.string { data := #[] })) 9)⟩,
  ⟨some 19, none, (.move (.tmp 18))⟩,
  ⟨some 20, some (19, true), (.fieldAddr 40 (.tmp 7) 3)⟩,
  ⟨some 21, some (19, true), (.load 9 (.tmp 20))⟩,
  ⟨some 22, some (19, true), (.load 9 (.tmp 3))⟩,
  ⟨some 23, some (19, true), (.binOp .eql 9 (.tmp 21) (.tmp 22) 9)⟩,
  ⟨some 24, some (19, true), (.move (.tmp 23))⟩,
  ⟨some 25, some (24, false), (.fieldAddr 40 (.tmp 7) 4)⟩,
  ⟨some 26, some (24, false), (.load 9 (.tmp 25))⟩,
  ⟨some 27, some (24, false), (.load 9 (.tmp 3))⟩,
  ⟨some 28, some (24, false), (.binOp .eql 9 (.tmp 26) (.tmp 27) 9)⟩,
  ⟨some 29, some (19, true), (.pick (.tmp 24) (.const (.bool true)) (.tmp 28))⟩,
  ⟨some 30, none, (.pick (.tmp 19) (.tmp 29) (.const (.bool false)))⟩] [0, 3, 5, 7, 11, 12, 13, 30]
@[simp] noncomputable def F23_r6 : CC := .reg [⟨some 31, none, (.move (.tmp 5))⟩,
  ⟨some 32, none, (.load 40 (.tmp 7))⟩,
  ⟨some 33, none, (.buildSlice 47 1 #[(0, (.tmp 32))])⟩,
  ⟨some 34, none, (.call { callee := (.builtin .append), args := #[(.tmp 31), (.tmp 33)], argTypes := #[47, 47] })⟩,
  ⟨some 5, none, (.assign (.tmp 34))⟩] [0, 3, 5, 11, 12, 13]
@[simp] noncomputable def F23_r7 : CC := .reg [⟨some 35, none, (.binOp .add 3 (.tmp 13) (.const (.int .i64 1)) 3)⟩,
  ⟨some 13, none, (.move (.tmp 35))⟩] [0, 3, 5, 11, 12, 13]
noncomputable def F23_l0 : CC := (.seq (.seq F23_r3 .fz) (.seq (.cond (.tmp 14) .skip (.exit 0)) (.seq (.block 1 (.seq F23_r4 (.seq F23_r5 (.cond (.tmp 30) F23_r6 .skip)))) F23_r7)))
@[simp] noncomputable def F23_r8 : CC := .reg [⟨some 36, none, (.move (.tmp 0))⟩,
  ⟨some 37, none, (.makeFunc (.func 50) #[] #[(.tmp 3)])⟩,
  ⟨some 38, none, (.call { callee := (.value (.func 40)), args := #[(.tmp 36), (.tmp 37)], argTypes := #[27, 86] })⟩] [0, 3, 5]
@[simp] noncomputable def F23_r9 : CC := .reg [⟨some 39, none, (.move (.tmp 5))⟩,
  ⟨some 40, none, (.call { callee := (.builtin .len), args := #[(.tmp 39)], argTypes := #[47] })⟩,
  ⟨some 41, none, (.move (.const (.int .i64 0)))⟩] [0, 3, 5, 39, 40, 41]
@[simp] noncomputable def F23_r10 : CC := .reg [⟨some 42, none, (.binOp .lss 3 (.tmp 41) (.tmp 40) 3)⟩] [0, 3, 5, 39, 40, 41, 42]
@[simp] noncomputable def F23_r11 : CC := .reg [⟨some 43, none, (.indexAddr 47 (.tmp 39) (.tmp 41))⟩,
  ⟨some 44, none, (.load 40 (.tmp 43))⟩,
  ⟨some 9, none, (.alloc 40)⟩,
  ⟨none, none, (.store 40 (.tmp 9) (.tmp 44))⟩] [0, 3, 5, 9, 39, 40, 41]
@[simp] noncomputable def F23_r12 : CC := .reg [⟨some 45, none, (.fieldAddr 40 (.tmp 9) 3)⟩,
  ⟨some 46, none, (.load 9 (.tmp 45))⟩,
  ⟨some 47, none, (.load 9 (.tmp 3))⟩,
  ⟨some 48, none, (.binOp .neq 9 (.tmp 46) (.tmp 47) 9)⟩] [0, 3, 5, 9, 39, 40, 41, 48]
@[simp] noncomputable def F23_r13 : CC := .reg [⟨some 49, none, (.move (.tmp 0))⟩,
  ⟨some 50, none, (.fieldAddr 40 (.tmp 9) 0)⟩,
  ⟨some 51, none, (.load 37 (.tmp 50))⟩,
  ⟨some 52, none, (.call { callee := (.value (.func 18)), args := #[(.tmp 49), (.tmp 51)], argTypes := #[27, 37] })⟩] [0, 3, 5, 39, 40, 41]
@[simp] noncomputable def F23_r14 : CC := .reg [⟨some 53, none, (.binOp .add 3 (.tmp 41) (.const (.int .i64 1)) 3)⟩,
  ⟨some 41, none, (.move (.tmp 53))⟩] [0, 3, 5, 39, 40, 41]
noncomputable def F23_l1 : CC := (.seq F23_r10 (.seq (.cond (.tmp 42) .skip (.exit 2)) (.seq (.block 3 (.seq F23_r11 (.seq F23_r12 (.cond (.tmp 48) F23_r13 .skip)))) F23_r14)))
@[simp] noncomputable def F23_r15 : CC := .reg [⟨some 54, none, (.move (.tmp 5))⟩,
  ⟨some 4, none, (.assign (.tmp 54))⟩] [4]
noncomputable def F23 : CC := (.seq F23_r0 (.seq F23_r1 (.seq (.seq F23_r2 (.block 0 (.loop F23_l0))) (.seq F23_r8 (.seq (.seq F23_r9 (.block 2 (.loop F23_l1))) (.seq F23_r15 .ret))))))
noncomputable def F23_inf : Nat → RI
  | 0 => ⟨[0, 3], [], []⟩
  | 1 => ⟨[0, 3, 5], [], []⟩
  | 2 => ⟨[0, 3, 5, 11, 12, 13], [], []⟩
  | 3 => ⟨[0, 3, 5, 11, 12, 13, 14], [], [(0, [])]⟩
  | 4 => ⟨[0, 3, 5, 7, 11, 12, 13], [], []⟩
  | 5 => ⟨[0, 3, 5, 7, 11, 12, 13, 30], [], []⟩
  | 6 => ⟨[0, 3, 5, 11, 12, 13], [], []⟩
  | 7 => ⟨[0, 3, 5, 11, 12, 13], [], []⟩
  | 8 => ⟨[0, 3, 5], [], []⟩
  | 9 => ⟨[0, 3, 5, 39, 40, 41], [], []⟩
  | 10 => ⟨[0, 3, 5, 39, 40, 41, 42], [], []⟩
  | 11 => ⟨[0, 3, 5, 9, 39, 40, 41], [], []⟩
  | 12 => ⟨[0, 3, 5, 9, 39, 40, 41, 48], [], []⟩
  | 13 => ⟨[0, 3, 5, 39, 40, 41], [], []⟩
  | 14 => ⟨[0, 3, 5, 39, 40, 41], [], []⟩
  | 15 => ⟨[4], [], []⟩
  | _ => ⟨[], [], []⟩
noncomputable def F23_c : Code := Try.f23.body.getD .skip
theorem F23_b : Try.f23.body = some F23_c := by kernel_rfl
theorem F23_rs : Try.f23.results.toList = ([.tmp 4] : List ResultVar) := by kernel_rfl
theorem F23_n : Try.f23.ntmps = 55 := by kernel_rfl
theorem F23_ok : toCC [3] 55 F23_inf F23_c = some F23 := by kernel_rfl
theorem F23_in {args : List AV} {G : Hp} {post : AV → Hp → Prop} (ha : args.all AV.plain = true) (hn : args.length ≤ 55) (h : BDs args → awp Try.prog [3] F23 (AEnds Try.prog [.tmp 4] post) (initT args) G) : ACalls Try.prog 23 args G post :=
  acalls_cc Try.func23 F23_b F23_rs F23_n F23_ok mixed ha hn h

/- 24 (*ostiary/bind.Table).Tick -/
@[simp] noncomputable def F24_r0 : CC := .reg [⟨some 3, none, (.box 2 (.tmp 1))⟩,
  ⟨some 4, none, (.assign (.const (.slice none 0 0)))⟩] [0, 3]
@[simp] noncomputable def F24_r1 : CC := .reg [⟨some 5, none, (.move (.tmp 0))⟩,
  ⟨some 6, none, (.makeFunc (.func 51) #[] #[(.tmp 3)])⟩,
  ⟨some 7, none, (.call { callee := (.value (.func 40)), args := #[(.tmp 5), (.tmp 6)], argTypes := #[27, 86] })⟩,
  ⟨some 4, none, (.assign (.tmp 7))⟩] [4]
noncomputable def F24 : CC := (.seq F24_r0 (.seq F24_r1 .ret))
noncomputable def F24_inf : Nat → RI
  | 0 => ⟨[0, 3], [], []⟩
  | 1 => ⟨[4], [], []⟩
  | _ => ⟨[], [], []⟩
noncomputable def F24_c : Code := Try.f24.body.getD .skip
theorem F24_b : Try.f24.body = some F24_c := by kernel_rfl
theorem F24_rs : Try.f24.results.toList = ([.tmp 4] : List ResultVar) := by kernel_rfl
theorem F24_n : Try.f24.ntmps = 8 := by kernel_rfl
theorem F24_ok : toCC [3] 8 F24_inf F24_c = some F24 := by kernel_rfl
theorem F24_in {args : List AV} {G : Hp} {post : AV → Hp → Prop} (ha : args.all AV.plain = true) (hn : args.length ≤ 8) (h : BDs args → awp Try.prog [3] F24 (AEnds Try.prog [.tmp 4] post) (initT args) G) : ACalls Try.prog 24 args G post :=
  acalls_cc Try.func24 F24_b F24_rs F24_n F24_ok mixed ha hn h

/- 25 ostiary/ostiaryref25.May -/
@[simp] noncomputable def F25_r0 : CC := .reg [⟨some 1, none, (.box 31 (.tmp 0))⟩,
  ⟨some 2, none, (.assign (.const (.bool false)))⟩] [1]
@[simp] noncomputable def F25_r1 : CC := .reg [⟨some 3, none, (.fieldAddr 31 (.tmp 1) 0)⟩,
  ⟨some 4, none, (.load 25 (.tmp 3))⟩,
  ⟨some 5, none, (.binOp .lss 25 (.tmp 4) (.const (.int .u64 281474976710655)) 25)⟩,
  ⟨some 6, none, (.move (.tmp 5))⟩,
  ⟨some 7, some (6, true), (.fieldAddr 31 (.tmp 1) 2)⟩,
  ⟨some 8, some (6, true), (.load 24 (.tmp 7))⟩,
  ⟨some 9, some (6, true), (.call { callee := (.value (.func 52)), args := #[(.tmp 8)], argTypes := #[24] })⟩,
  ⟨some 10, none, (.pick (.tmp 6) (.tmp 9) (.const (.bool false)))⟩,
  ⟨some 11, none, (.move (.tmp 10))⟩,
  ⟨some 12, some (11, true), (.fieldAddr 31 (.tmp 1) 3)⟩,
  ⟨some 13, some (11, true), (.load 9 (.tmp 12))⟩,
  ⟨some 14, some (11, true), (.call { callee := (.value (.func 12)), args := #[(.tmp 13)], argTypes := #[9] })⟩,
  ⟨some 15, none, (.pick (.tmp 11) (.tmp 14) (.const (.bool false)))⟩,
  ⟨some 16, none, (.move (.tmp 15))⟩,
  ⟨some 17, some (16, true), (.fieldAddr 31 (.tmp 1) 4)⟩,
  ⟨some 18, some (16, true), (.load 9 (.tmp 17))⟩,
  ⟨some 19, some (16, true), (.binOp .eql 9 (.tmp 18) (.const (.string { data := #[] })) 9)⟩,
  ⟨some 20, some (16, true), (.move (.tmp 19))⟩,
  ⟨some 21, some (20, false), (.fieldAddr 31 (.tmp 1) 4)⟩,
  ⟨some 22, some (20, false), (.load 9 (.tmp 21))⟩,
  ⟨some 23, some (20, false), (.call { callee := (.value (.func 12)), args := #[(.tmp 22)], argTypes := #[9] })⟩,
  ⟨some 24, some (16, true), (.pick (.tmp 20) (.const (.bool true)) (.tmp 23))⟩,
  ⟨some 25, none, (.pick (.tmp 16) (.tmp 24) (.const (.bool false)))⟩,
  ⟨some 2, none, (.assign (.tmp 25))⟩] [2]
noncomputable def F25 : CC := (.seq F25_r0 (.seq F25_r1 .ret))
noncomputable def F25_inf : Nat → RI
  | 0 => ⟨[1], [], []⟩
  | 1 => ⟨[2], [], []⟩
  | _ => ⟨[], [], []⟩
noncomputable def F25_c : Code := Try.f25.body.getD .skip
theorem F25_b : Try.f25.body = some F25_c := by kernel_rfl
theorem F25_rs : Try.f25.results.toList = ([.tmp 2] : List ResultVar) := by kernel_rfl
theorem F25_n : Try.f25.ntmps = 26 := by kernel_rfl
theorem F25_ok : toCC [] 26 F25_inf F25_c = some F25 := by kernel_rfl
theorem F25_in {args : List AV} {G : Hp} {post : AV → Hp → Prop} (ha : args.all AV.plain = true) (hn : args.length ≤ 26) (h : BDs args → awp Try.prog [] F25 (AEnds Try.prog [.tmp 2] post) (initT args) G) : ACalls Try.prog 25 args G post :=
  acalls_cc Try.func25 F25_b F25_rs F25_n F25_ok mixed ha hn h

/- 26 ostiary/ostiarylaw25.plain -/
@[simp] noncomputable def F26_r0 : CC := .reg [⟨some 1, none, (.box 40 (.tmp 0))⟩,
  ⟨some 2, none, (.alloc 31)⟩] [1, 2]
@[simp] noncomputable def F26_r1 : CC := .reg [⟨some 3, none, (.fieldAddr 40 (.tmp 1) 0)⟩,
  ⟨some 4, none, (.load 37 (.tmp 3))⟩,
  ⟨some 5, none, (.fieldAddr 40 (.tmp 1) 1)⟩,
  ⟨some 6, none, (.load 38 (.tmp 5))⟩,
  ⟨some 7, none, (.fieldAddr 40 (.tmp 1) 2)⟩,
  ⟨some 8, none, (.load 24 (.tmp 7))⟩,
  ⟨some 9, none, (.fieldAddr 40 (.tmp 1) 3)⟩,
  ⟨some 10, none, (.load 9 (.tmp 9))⟩,
  ⟨some 11, none, (.fieldAddr 40 (.tmp 1) 4)⟩,
  ⟨some 12, none, (.load 9 (.tmp 11))⟩,
  ⟨some 13, none, (.fieldAddr 40 (.tmp 1) 5)⟩,
  ⟨some 14, none, (.load 2 (.tmp 13))⟩,
  ⟨some 15, none, (.build 31 #[(0, (.tmp 4)), (1, (.tmp 6)), (2, (.tmp 8)), (3, (.tmp 10)), (4, (.tmp 12)), (5, (.tmp 14))])⟩,
  ⟨none, none, (.store 31 (.tmp 2) (.tmp 15))⟩] [2]
noncomputable def F26 : CC := (.seq F26_r0 (.seq F26_r1 .ret))
noncomputable def F26_inf : Nat → RI
  | 0 => ⟨[1, 2], [], []⟩
  | 1 => ⟨[2], [], []⟩
  | _ => ⟨[], [], []⟩
noncomputable def F26_c : Code := Try.f26.body.getD .skip
theorem F26_b : Try.f26.body = some F26_c := by kernel_rfl
theorem F26_rs : Try.f26.results.toList = ([.cell 2 31] : List ResultVar) := by kernel_rfl
theorem F26_n : Try.f26.ntmps = 16 := by kernel_rfl
theorem F26_ok : toCC [] 16 F26_inf F26_c = some F26 := by kernel_rfl
theorem F26_in {args : List AV} {G : Hp} {post : AV → Hp → Prop} (ha : args.all AV.plain = true) (hn : args.length ≤ 16) (h : BDs args → awp Try.prog [] F26 (AEnds Try.prog [.cell 2 31] post) (initT args) G) : ACalls Try.prog 26 args G post :=
  acalls_cc Try.func26 F26_b F26_rs F26_n F26_ok mixed ha hn h
end Go.Proofs.Ytmomphnkngbgjaa
