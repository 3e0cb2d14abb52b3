import Derived.Test.YtgideonigiokbaaC0K
set_option linter.unusedVariables false
set_option linter.unusedSimpArgs false
set_option maxRecDepth 100000
namespace Go.Proofs.Ytgideonigiokbaa
open Go Go.Al

/- 3 ostiary/ostiarylaw27.PlanOrder -/
@[simp] noncomputable def F3_r0 : CC := .reg [⟨some 4, none, (.box 34 (.tmp 0))⟩,
  ⟨some 5, none, (.box 35 (.tmp 1))⟩,
  ⟨some 8, none, (.assign (.const (.bool false)))⟩] [2, 3, 4, 5]
@[simp] noncomputable def F3_r1 : CC := .reg [⟨some 19, none, (.load 34 (.tmp 4))⟩,
  ⟨some 20, none, (.call { callee := (.value (.func 7)), args := #[(.tmp 19)], argTypes := #[34] })⟩,
  ⟨none, none, (.store 34 (.tmp 4) (.tmp 20))⟩] [2, 3, 4, 5]
@[simp] noncomputable def F3_r2 : CC := .reg [⟨some 21, none, (.move (.tmp 2))⟩,
  ⟨some 22, none, (.call { callee := (.value (.func 8)), args := #[(.tmp 21)], argTypes := #[2] })⟩,
  ⟨some 9, none, (.assign (.tmp 22))⟩] [3, 4, 5, 9]
@[simp] noncomputable def F3_r3 : CC := .drw [⟨0, ⟨some 23, none, (.move (.tmp 9))⟩, [], []⟩,
  ⟨1, ⟨some 24, none, (.load 34 (.tmp 4))⟩, [], []⟩,
  ⟨3, ⟨some 26, none, (.load 35 (.tmp 5))⟩, [], []⟩,
  ⟨2, ⟨some 25, none, (.call { callee := (.value (.func 10)), args := #[(.tmp 24)], argTypes := #[34] })⟩, [3], [⟨some 26, none, (.load 35 (.tmp 5))⟩]⟩,
  ⟨4, ⟨some 27, none, (.call { callee := (.value (.func 9)), args := #[(.tmp 23), (.tmp 25), (.tmp 26), (.const (.int .i64 5)), (.const (.int .i64 50))], argTypes := #[38, 44, 46, 3, 3] })⟩, [], []⟩,
  ⟨5, ⟨some 28, none, (.binOp .neq 40 (.tmp 27) (.const (.int .i64 0)) 40)⟩, [], []⟩] [23, 24, 26, 25, 27, 28] [3, 4, 9, 28]
@[simp] noncomputable def F3_r4 : CC := .reg [⟨some 29, none, (.move (.tmp 9))⟩,
  ⟨some 30, none, (.call { callee := (.value (.func 11)), args := #[(.tmp 29)], argTypes := #[38] })⟩,
  ⟨some 31, none, (.call { callee := (.builtin .len), args := #[(.tmp 30)], argTypes := #[47] })⟩,
  ⟨some 32, none, (.binOp .eql 3 (.tmp 31) (.const (.int .i64 0)) 3)⟩,
  ⟨some 33, none, (.move (.tmp 32))⟩,
  ⟨some 34, some (33, true), (.call { callee := (.value (.func 12)), args := #[], argTypes := #[] })⟩,
  ⟨some 35, none, (.pick (.tmp 33) (.tmp 34) (.const (.bool false)))⟩,
  ⟨some 8, none, (.assign (.tmp 35))⟩] [8]
@[simp] noncomputable def F3_r5 : CC := .reg [⟨some 10, none, (.assign (.const (.int .i64 0)))⟩] [3, 4, 9, 10]
@[simp] noncomputable def F3_r6 : CC := .reg [⟨some 36, none, (.fieldAddr 34 (.tmp 4) 9)⟩,
  ⟨some 37, none, (.load 32 (.tmp 36))⟩,
  ⟨some 38, none, (.call { callee := (.builtin .len), args := #[(.tmp 37)], argTypes := #[32] })⟩,
  ⟨some 39, none, (.binOp .sub 3 (.tmp 38) (.const (.int .i64 1)) 3)⟩,
  ⟨some 11, none, (.assign (.tmp 39))⟩] [3, 4, 9, 10, 11]
@[simp] noncomputable def F3_r7 : CC := .reg [⟨some 40, none, (.move (.tmp 11))⟩,
  ⟨some 41, none, (.binOp .geq 3 (.tmp 40) (.const (.int .i64 0)) 3)⟩] [3, 4, 9, 10, 11, 41]
@[simp] noncomputable def F3_r9 : CC := .reg [⟨some 12, none, (.assign (.const (.int .i64 1)))⟩] [3, 4, 9, 10, 11, 12]
@[simp] noncomputable def F3_r10 : CC := .reg [⟨some 44, none, (.move (.tmp 11))⟩,
  ⟨some 45, none, (.move (.tmp 3))⟩,
  ⟨some 46, none, (.call { callee := (.builtin .len), args := #[(.tmp 45)], argTypes := #[36] })⟩,
  ⟨some 47, none, (.binOp .lss 3 (.tmp 44) (.tmp 46) 3)⟩] [3, 4, 9, 10, 11, 12, 47]
@[simp] noncomputable def F3_r11 : CC := .reg [⟨some 48, none, (.move (.tmp 12))⟩,
  ⟨some 49, none, (.move (.tmp 3))⟩,
  ⟨some 50, none, (.move (.tmp 11))⟩,
  ⟨some 51, none, (.indexAddr 36 (.tmp 49) (.tmp 50))⟩,
  ⟨some 52, none, (.load 3 (.tmp 51))⟩,
  ⟨some 53, none, (.binOp .and 3 (.tmp 52) (.const (.int .i64 3)) 3)⟩,
  ⟨some 54, none, (.binOp .add 3 (.tmp 48) (.tmp 53) 3)⟩,
  ⟨some 12, none, (.assign (.tmp 54))⟩] [3, 4, 9, 10, 11, 12]
@[simp] noncomputable def F3_r12 : CC := .reg [⟨some 13, none, (.assign (.const (.slice none 0 0)))⟩] [3, 4, 9, 10, 11, 12, 13]
@[simp] noncomputable def F3_r13 : CC := .reg [⟨some 14, none, (.assign (.const (.int .i64 0)))⟩] [3, 4, 9, 10, 11, 12, 13, 14]
@[simp] noncomputable def F3_r14 : CC := .reg [⟨some 55, none, (.move (.tmp 14))⟩,
  ⟨some 56, none, (.move (.tmp 12))⟩,
  ⟨some 57, none, (.binOp .lss 3 (.tmp 55) (.tmp 56) 3)⟩] [3, 4, 9, 10, 11, 12, 13, 14, 57]
@[simp] noncomputable def F3_r16 : CC := .reg [⟨some 60, none, (.move (.tmp 9))⟩,
  ⟨some 61, none, (.move (.tmp 10))⟩,
  ⟨some 62, none, (.call { callee := (.value (.func 13)), args := #[(.tmp 60), (.tmp 61)], argTypes := #[38, 2] })⟩,
  ⟨some 13, none, (.assign (.tmp 62))⟩] [3, 4, 9, 10, 11, 12, 13, 14]
@[simp] noncomputable def F3_r17 : CC := .reg [⟨some 63, none, (.move (.tmp 10))⟩,
  ⟨some 64, none, (.binOp .add 2 (.tmp 63) (.const (.int .i64 65535)) 2)⟩,
  ⟨some 10, none, (.assign (.tmp 64))⟩] [3, 4, 9, 10, 11, 12, 13, 14]
@[simp] noncomputable def F3_r18 : CC := .drw [⟨0, ⟨some 65, none, (.move (.tmp 13))⟩, [], []⟩,
  ⟨1, ⟨some 66, none, (.call { callee := (.builtin .len), args := #[(.tmp 65)], argTypes := #[50] })⟩, [], []⟩,
  ⟨2, ⟨some 67, none, (.binOp .neq 3 (.tmp 66) (.const (.int .i64 1)) 3)⟩, [], []⟩,
  ⟨3, ⟨some 68, none, (.move (.tmp 67))⟩, [], []⟩,
  ⟨4, ⟨some 69, some (68, false), (.move (.tmp 13))⟩, [], []⟩,
  ⟨5, ⟨some 70, some (68, false), (.indexAddr 50 (.tmp 69) (.const (.int .i64 0)))⟩, [], []⟩,
  ⟨6, ⟨some 71, some (68, false), (.fieldAddr 54 (.tmp 70) 1)⟩, [], []⟩,
  ⟨7, ⟨some 72, some (68, false), (.load 3 (.tmp 71))⟩, [], []⟩,
  ⟨8, ⟨some 73, some (68, false), (.fieldAddr 34 (.tmp 4) 9)⟩, [], []⟩,
  ⟨9, ⟨some 74, some (68, false), (.load 32 (.tmp 73))⟩, [], []⟩,
  ⟨10, ⟨some 75, some (68, false), (.move (.tmp 11))⟩, [], []⟩,
  ⟨11, ⟨some 76, some (68, false), (.indexAddr 32 (.tmp 74) (.tmp 75))⟩, [], []⟩,
  ⟨12, ⟨some 77, some (68, false), (.fieldAddr 56 (.tmp 76) 0)⟩, [], []⟩,
  ⟨13, ⟨some 78, some (68, false), (.load 3 (.tmp 77))⟩, [], []⟩,
  ⟨14, ⟨some 79, some (68, false), (.binOp .neq 3 (.tmp 72) (.tmp 78) 3)⟩, [], []⟩,
  ⟨15, ⟨some 80, none, (.pick (.tmp 68) (.const (.bool true)) (.tmp 79))⟩, [], []⟩,
  ⟨16, ⟨some 81, none, (.move (.tmp 80))⟩, [], []⟩,
  ⟨17, ⟨some 82, some (81, false), (.move (.tmp 13))⟩, [], []⟩,
  ⟨18, ⟨some 83, some (81, false), (.indexAddr 50 (.tmp 82) (.const (.int .i64 0)))⟩, [], []⟩,
  ⟨19, ⟨some 84, some (81, false), (.fieldAddr 54 (.tmp 83) 5)⟩, [], []⟩,
  ⟨20, ⟨some 85, some (81, false), (.load 3 (.tmp 84))⟩, [], []⟩,
  ⟨21, ⟨some 86, some (81, false), (.fieldAddr 34 (.tmp 4) 9)⟩, [], []⟩,
  ⟨22, ⟨some 87, some (81, false), (.load 32 (.tmp 86))⟩, [], []⟩,
  ⟨23, ⟨some 88, some (81, false), (.move (.tmp 11))⟩, [], []⟩,
  ⟨24, ⟨some 89, some (81, false), (.indexAddr 32 (.tmp 87) (.tmp 88))⟩, [], []⟩,
  ⟨25, ⟨some 90, some (81, false), (.fieldAddr 56 (.tmp 89) 1)⟩, [], []⟩,
  ⟨26, ⟨some 91, some (81, false), (.load 3 (.tmp 90))⟩, [], []⟩,
  ⟨27, ⟨some 92, some (81, false), (.binOp .neq 3 (.tmp 85) (.tmp 91) 3)⟩, [], []⟩,
  ⟨28, ⟨some 93, none, (.pick (.tmp 81) (.const (.bool true)) (.tmp 92))⟩, [], []⟩,
  ⟨29, ⟨some 94, none, (.move (.tmp 93))⟩, [], []⟩,
  ⟨30, ⟨some 95, some (94, false), (.move (.tmp 13))⟩, [], []⟩,
  ⟨31, ⟨some 96, some (94, false), (.indexAddr 50 (.tmp 95) (.const (.int .i64 0)))⟩, [], []⟩,
  ⟨32, ⟨some 97, some (94, false), (.fieldAddr 54 (.tmp 96) 6)⟩, [], []⟩,
  ⟨33, ⟨some 98, some (94, false), (.load 3 (.tmp 97))⟩, [], []⟩,
  ⟨34, ⟨some 99, some (94, false), (.fieldAddr 34 (.tmp 4) 9)⟩, [], []⟩,
  ⟨35, ⟨some 100, some (94, false), (.load 32 (.tmp 99))⟩, [], []⟩,
  ⟨36, ⟨some 101, some (94, false), (.move (.tmp 11))⟩, [], []⟩,
  ⟨37, ⟨some 102, some (94, false), (.indexAddr 32 (.tmp 100) (.tmp 101))⟩, [], []⟩,
  ⟨38, ⟨some 103, some (94, false), (.fieldAddr 56 (.tmp 102) 2)⟩, [], []⟩,
  ⟨39, ⟨some 104, some (94, false), (.load 3 (.tmp 103))⟩, [], []⟩,
  ⟨40, ⟨some 105, some (94, false), (.binOp .neq 3 (.tmp 98) (.tmp 104) 3)⟩, [], []⟩,
  ⟨41, ⟨some 106, none, (.pick (.tmp 94) (.const (.bool true)) (.tmp 105))⟩, [], []⟩,
  ⟨42, ⟨some 107, none, (.move (.tmp 106))⟩, [], []⟩,
  ⟨43, ⟨some 108, some (107, false), (.move (.tmp 13))⟩, [], []⟩,
  ⟨44, ⟨some 109, some (107, false), (.indexAddr 50 (.tmp 108) (.const (.int .i64 0)))⟩, [], []⟩,
  ⟨45, ⟨some 110, some (107, false), (.fieldAddr 54 (.tmp 109) 8)⟩, [], []⟩,
  ⟨46, ⟨some 111, some (107, false), (.load 4 (.tmp 110))⟩, [], []⟩,
  ⟨47, ⟨some 112, some (107, false), (.move (.tmp 11))⟩, [], []⟩,
  ⟨48, ⟨some 113, some (107, false), (.binOp .eql 3 (.tmp 112) (.const (.int .i64 0)) 3)⟩, [], []⟩,
  ⟨49, ⟨some 114, some (107, false), (.binOp .neq 4 (.tmp 111) (.tmp 113) 4)⟩, [], []⟩,
  ⟨50, ⟨some 115, none, (.pick (.tmp 107) (.const (.bool true)) (.tmp 114))⟩, [], []⟩,
  ⟨51, ⟨some 116, none, (.move (.tmp 115))⟩, [], []⟩,
  ⟨52, ⟨some 117, some (116, false), (.move (.tmp 13))⟩, [], []⟩,
  ⟨53, ⟨some 118, some (116, false), (.indexAddr 50 (.tmp 117) (.const (.int .i64 0)))⟩, [], []⟩,
  ⟨54, ⟨some 119, some (116, false), (.fieldAddr 54 (.tmp 118) 9)⟩, [], []⟩,
  ⟨55, ⟨some 120, some (116, false), (.load 4 (.tmp 119))⟩, [], []⟩,
  ⟨56, ⟨some 121, some (116, false), (.move (.tmp 11))⟩, [], []⟩,
  ⟨57, ⟨some 122, some (116, false), (.fieldAddr 34 (.tmp 4) 9)⟩, [], []⟩,
  ⟨58, ⟨some 123, some (116, false), (.load 32 (.tmp 122))⟩, [], []⟩,
  ⟨59, ⟨some 124, some (116, false), (.call { callee := (.builtin .len), args := #[(.tmp 123)], argTypes := #[32] })⟩, [], []⟩,
  ⟨60, ⟨some 125, some (116, false), (.binOp .sub 3 (.tmp 124) (.const (.int .i64 1)) 3)⟩, [], []⟩,
  ⟨61, ⟨some 126, some (116, false), (.binOp .eql 3 (.tmp 121) (.tmp 125) 3)⟩, [], []⟩,
  ⟨62, ⟨some 127, some (116, false), (.binOp .neq 4 (.tmp 120) (.tmp 126) 4)⟩, [], []⟩,
  ⟨63, ⟨some 128, none, (.pick (.tmp 116) (.const (.bool true)) (.tmp 127))⟩, [], []⟩] [65, 66, 67, 68, 69, 70, 71, 72, 73, 74, 75, 76, 77, 78, 79, 80, 81, 82, 83, 84, 85, 86, 87, 88, 89, 90, 91, 92, 93, 94, 95, 96, 97, 98, 99, 100, 101, 102, 103, 104, 105, 106, 107, 108, 109, 110, 111, 112, 113, 114, 115, 116, 117, 118, 119, 120, 121, 122, 123, 124, 125, 126, 127, 128] [3, 4, 9, 10, 11, 12, 13, 14, 128]
@[simp] noncomputable def F3_r19 : CC := .reg [⟨some 8, none, (.assign (.const (.bool false)))⟩] [8]
@[simp] noncomputable def F3_r15 : CC := .reg [⟨some 58, none, (.move (.tmp 14))⟩,
  ⟨some 59, none, (.binOp .add 3 (.tmp 58) (.const (.int .i64 1)) 3)⟩,
  ⟨some 14, none, (.assign (.tmp 59))⟩] [3, 4, 9, 10, 11, 12, 13, 14]
noncomputable def F3_l0 : CC := (.seq (.seq F3_r14 (.cond (.tmp 57) .skip (.exit 2))) (.seq (.block 3 (.seq F3_r16 (.seq F3_r17 (.seq F3_r18 (.cond (.tmp 128) (.seq F3_r19 .ret) .skip))))) F3_r15))
@[simp] noncomputable def F3_r20 : CC := .drw [⟨0, ⟨some 130, none, (.move (.tmp 9))⟩, [], []⟩,
  ⟨1, ⟨some 131, none, (.move (.tmp 13))⟩, [], []⟩,
  ⟨2, ⟨some 132, none, (.indexAddr 50 (.tmp 131) (.const (.int .i64 0)))⟩, [], []⟩,
  ⟨3, ⟨some 133, none, (.fieldAddr 54 (.tmp 132) 1)⟩, [], []⟩,
  ⟨4, ⟨some 134, none, (.load 3 (.tmp 133))⟩, [], []⟩,
  ⟨5, ⟨some 135, none, (.move (.tmp 13))⟩, [], []⟩,
  ⟨6, ⟨some 136, none, (.indexAddr 50 (.tmp 135) (.const (.int .i64 0)))⟩, [], []⟩,
  ⟨7, ⟨some 137, none, (.fieldAddr 54 (.tmp 136) 2)⟩, [], []⟩,
  ⟨8, ⟨some 138, none, (.load 22 (.tmp 137))⟩, [], []⟩,
  ⟨9, ⟨some 139, none, (.move (.tmp 13))⟩, [], []⟩,
  ⟨10, ⟨some 140, none, (.indexAddr 50 (.tmp 139) (.const (.int .i64 0)))⟩, [], []⟩,
  ⟨11, ⟨some 141, none, (.fieldAddr 54 (.tmp 140) 3)⟩, [], []⟩,
  ⟨12, ⟨some 142, none, (.load 22 (.tmp 141))⟩, [], []⟩,
  ⟨13, ⟨some 143, none, (.move (.tmp 13))⟩, [], []⟩,
  ⟨14, ⟨some 144, none, (.indexAddr 50 (.tmp 143) (.const (.int .i64 0)))⟩, [], []⟩,
  ⟨15, ⟨some 145, none, (.fieldAddr 54 (.tmp 144) 4)⟩, [], []⟩,
  ⟨16, ⟨some 146, none, (.load 22 (.tmp 145))⟩, [], []⟩,
  ⟨17, ⟨some 147, none, (.call { callee := (.value (.func 14)), args := #[(.tmp 130), (.tmp 134), (.tmp 138), (.tmp 142), (.tmp 146)], argTypes := #[38, 3, 22, 22, 22] })⟩, [], []⟩,
  ⟨18, ⟨some 129, none, (.move (.tmp 147))⟩, [], []⟩,
  ⟨19, ⟨some 148, none, (.extract (.tmp 129) 0)⟩, [], []⟩,
  ⟨20, ⟨some 149, none, (.extract (.tmp 129) 1)⟩, [], []⟩,
  ⟨21, ⟨some 15, none, (.assign (.tmp 148))⟩, [], []⟩,
  ⟨22, ⟨some 16, none, (.assign (.tmp 149))⟩, [], []⟩] [130, 131, 132, 133, 134, 135, 136, 137, 138, 139, 140, 141, 142, 143, 144, 145, 146, 147, 129, 148, 149, 15, 16] [3, 4, 9, 10, 11, 13, 15, 16]
@[simp] noncomputable def F3_r21 : CC := .reg [⟨some 150, none, (.move (.tmp 15))⟩,
  ⟨some 151, none, (.fieldAddr 34 (.tmp 4) 0)⟩,
  ⟨some 152, none, (.load 22 (.tmp 151))⟩,
  ⟨some 153, none, (.binOp .neq 22 (.tmp 150) (.tmp 152) 22)⟩,
  ⟨some 154, none, (.move (.tmp 153))⟩,
  ⟨some 155, some (154, false), (.move (.tmp 16))⟩,
  ⟨some 156, some (154, false), (.move (.tmp 11))⟩,
  ⟨some 157, some (154, false), (.binOp .eql 3 (.tmp 156) (.const (.int .i64 0)) 3)⟩,
  ⟨some 158, some (154, false), (.binOp .neq 4 (.tmp 155) (.tmp 157) 4)⟩,
  ⟨some 159, none, (.pick (.tmp 154) (.const (.bool true)) (.tmp 158))⟩] [3, 4, 9, 10, 11, 13, 159]
@[simp] noncomputable def F3_r22 : CC := .reg [⟨some 8, none, (.assign (.const (.bool false)))⟩] [8]
@[simp] noncomputable def F3_r23 : CC := .drw [⟨0, ⟨some 161, none, (.move (.tmp 9))⟩, [], []⟩,
  ⟨1, ⟨some 162, none, (.move (.tmp 13))⟩, [], []⟩,
  ⟨2, ⟨some 163, none, (.indexAddr 50 (.tmp 162) (.const (.int .i64 0)))⟩, [], []⟩,
  ⟨3, ⟨some 164, none, (.fieldAddr 54 (.tmp 163) 1)⟩, [], []⟩,
  ⟨4, ⟨some 165, none, (.load 3 (.tmp 164))⟩, [], []⟩,
  ⟨5, ⟨some 166, none, (.move (.tmp 13))⟩, [], []⟩,
  ⟨6, ⟨some 167, none, (.indexAddr 50 (.tmp 166) (.const (.int .i64 0)))⟩, [], []⟩,
  ⟨7, ⟨some 168, none, (.fieldAddr 54 (.tmp 167) 2)⟩, [], []⟩,
  ⟨8, ⟨some 169, none, (.load 22 (.tmp 168))⟩, [], []⟩,
  ⟨9, ⟨some 170, none, (.move (.tmp 13))⟩, [], []⟩,
  ⟨10, ⟨some 171, none, (.indexAddr 50 (.tmp 170) (.const (.int .i64 0)))⟩, [], []⟩,
  ⟨11, ⟨some 172, none, (.fieldAddr 54 (.tmp 171) 3)⟩, [], []⟩,
  ⟨12, ⟨some 173, none, (.load 22 (.tmp 172))⟩, [], []⟩,
  ⟨13, ⟨some 174, none, (.move (.tmp 13))⟩, [], []⟩,
  ⟨14, ⟨some 175, none, (.indexAddr 50 (.tmp 174) (.const (.int .i64 0)))⟩, [], []⟩,
  ⟨15, ⟨some 176, none, (.fieldAddr 54 (.tmp 175) 4)⟩, [], []⟩,
  ⟨16, ⟨some 177, none, (.load 22 (.tmp 176))⟩, [], []⟩,
  ⟨17, ⟨some 178, none, (.call { callee := (.value (.func 14)), args := #[(.tmp 161), (.tmp 165), (.tmp 169), (.tmp 173), (.tmp 177)], argTypes := #[38, 3, 22, 22, 22] })⟩, [], []⟩,
  ⟨18, ⟨some 160, none, (.move (.tmp 178))⟩, [], []⟩,
  ⟨19, ⟨some 179, none, (.extract (.tmp 160) 0)⟩, [], []⟩,
  ⟨20, ⟨some 180, none, (.extract (.tmp 160) 1)⟩, [], []⟩,
  ⟨21, ⟨some 17, none, (.assign (.tmp 179))⟩, [], []⟩,
  ⟨22, ⟨some 18, none, (.assign (.tmp 180))⟩, [], []⟩] [161, 162, 163, 164, 165, 166, 167, 168, 169, 170, 171, 172, 173, 174, 175, 176, 177, 178, 160, 179, 180, 17, 18] [3, 4, 9, 10, 11, 17, 18]
@[simp] noncomputable def F3_r24 : CC := .reg [⟨some 181, none, (.move (.tmp 17))⟩,
  ⟨some 182, none, (.binOp .neq 22 (.tmp 181) (.const (.int .u32 0)) 22)⟩,
  ⟨some 183, none, (.move (.tmp 182))⟩,
  ⟨some 184, some (183, false), (.move (.tmp 18))⟩,
  ⟨some 185, none, (.pick (.tmp 183) (.const (.bool true)) (.tmp 184))⟩] [3, 4, 9, 10, 11, 185]
@[simp] noncomputable def F3_r25 : CC := .reg [⟨some 8, none, (.assign (.const (.bool false)))⟩] [8]
@[simp] noncomputable def F3_r8 : CC := .reg [⟨some 42, none, (.move (.tmp 11))⟩,
  ⟨some 43, none, (.binOp .sub 3 (.tmp 42) (.const (.int .i64 1)) 3)⟩,
  ⟨some 11, none, (.assign (.tmp 43))⟩] [3, 4, 9, 10, 11]
noncomputable def F3_l1 : CC := (.seq (.seq F3_r7 (.cond (.tmp 41) .skip (.exit 0))) (.seq (.block 1 (.seq F3_r9 (.seq (.seq F3_r10 (.cond (.tmp 47) F3_r11 .skip)) (.seq F3_r12 (.seq (.seq F3_r13 (.block 2 (.loop F3_l0))) (.seq F3_r20 (.seq (.seq F3_r21 (.cond (.tmp 159) (.seq F3_r22 .ret) .skip)) (.seq F3_r23 (.seq F3_r24 (.cond (.tmp 185) (.seq F3_r25 .ret) .skip)))))))))) F3_r8))
@[simp] noncomputable def F3_r26 : CC := .reg [⟨some 186, none, (.move (.tmp 9))⟩,
  ⟨some 187, none, (.call { callee := (.value (.func 11)), args := #[(.tmp 186)], argTypes := #[38] })⟩,
  ⟨some 188, none, (.call { callee := (.builtin .len), args := #[(.tmp 187)], argTypes := #[47] })⟩,
  ⟨some 189, none, (.binOp .eql 3 (.tmp 188) (.const (.int .i64 0)) 3)⟩,
  ⟨some 190, none, (.move (.tmp 189))⟩,
  ⟨some 191, some (190, true), (.move (.tmp 9))⟩,
  ⟨some 192, some (190, true), (.move (.tmp 10))⟩,
  ⟨some 193, some (190, true), (.call { callee := (.value (.func 13)), args := #[(.tmp 191), (.tmp 192)], argTypes := #[38, 2] })⟩,
  ⟨some 194, some (190, true), (.call { callee := (.builtin .len), args := #[(.tmp 193)], argTypes := #[50] })⟩,
  ⟨some 195, some (190, true), (.binOp .eql 3 (.tmp 194) (.const (.int .i64 0)) 3)⟩,
  ⟨some 196, none, (.pick (.tmp 190) (.tmp 195) (.const (.bool false)))⟩,
  ⟨some 197, none, (.move (.tmp 196))⟩,
  ⟨some 198, some (197, true), (.call { callee := (.value (.func 12)), args := #[], argTypes := #[] })⟩,
  ⟨some 199, none, (.pick (.tmp 197) (.tmp 198) (.const (.bool false)))⟩,
  ⟨some 8, none, (.assign (.tmp 199))⟩] [8]
noncomputable def F3 : CC := (.seq F3_r0 (.seq F3_r1 (.seq F3_r2 (.seq (.seq F3_r3 (.cond (.tmp 28) (.seq F3_r4 .ret) .skip)) (.seq F3_r5 (.seq (.seq F3_r6 (.block 0 (.loop F3_l1))) (.seq F3_r26 .ret)))))))
noncomputable def F3_inf : Nat → RI
  | 0 => ⟨[2, 3, 4, 5], [], []⟩
  | 1 => ⟨[2, 3, 4, 5], [], []⟩
  | 2 => ⟨[3, 4, 5, 9], [], []⟩
  | 3 => ⟨[3, 4, 9, 28], [0, 0, 2, 0, 15, 31], [(0, []), (1, []), (3, []), (2, [3]), (4, []), (5, [])]⟩
  | 4 => ⟨[8], [], []⟩
  | 5 => ⟨[3, 4, 9, 10], [], []⟩
  | 6 => ⟨[3, 4, 9, 10, 11], [], []⟩
  | 7 => ⟨[3, 4, 9, 10, 11, 41], [], []⟩
  | 9 => ⟨[3, 4, 9, 10, 11, 12], [], []⟩
  | 10 => ⟨[3, 4, 9, 10, 11, 12, 47], [], []⟩
  | 11 => ⟨[3, 4, 9, 10, 11, 12], [], []⟩
  | 12 => ⟨[3, 4, 9, 10, 11, 12, 13], [], []⟩
  | 13 => ⟨[3, 4, 9, 10, 11, 12, 13, 14], [], []⟩
  | 14 => ⟨[3, 4, 9, 10, 11, 12, 13, 14, 57], [], []⟩
  | 16 => ⟨[3, 4, 9, 10, 11, 12, 13, 14], [], []⟩
  | 17 => ⟨[3, 4, 9, 10, 11, 12, 13, 14], [], []⟩
  | 18 => ⟨[3, 4, 9, 10, 11, 12, 13, 14, 128], [0, 1, 3, 7, 15, 31, 63, 127, 15, 271, 15, 1807, 3855, 7951, 16383, 32767, 65535, 131071, 262143, 524287, 1048575, 131071, 2228223, 131071, 14811135, 31588351, 65142783, 134217727, 268435455, 536870911, 1073741823, 2147483647, 4294967295, 8589934591, 1073741823, 18253611007, 1073741823, 121332826111, 258771779583, 533649686527, 1099511627775, 2199023255551, 4398046511103, 8796093022207, 17592186044415, 35184372088831, 70368744177663, 8796093022207, 149533581377535, 562949953421311, 1125899906842623, 2251799813685247, 4503599627370495, 9007199254740991, 18014398509481983, 36028797018963967, 4503599627370495, 4503599627370495, 148618787703226367, 436849163854938111, 1013309916158361599, 2238289014803136511, 4611686018427387903, 9223372036854775807], [(0, []), (1, []), (2, []), (3, []), (4, []), (5, []), (6, []), (7, []), (8, []), (9, []), (10, []), (11, []), (12, []), (13, []), (14, []), (15, []), (16, []), (17, []), (18, []), (19, []), (20, []), (21, []), (22, []), (23, []), (24, []), (25, []), (26, []), (27, []), (28, []), (29, []), (30, []), (31, []), (32, []), (33, []), (34, []), (35, []), (36, []), (37, []), (38, []), (39, []), (40, []), (41, []), (42, []), (43, []), (44, []), (45, []), (46, []), (47, []), (48, []), (49, []), (50, []), (51, []), (52, []), (53, []), (54, []), (55, []), (56, []), (57, []), (58, []), (59, []), (60, []), (61, []), (62, []), (63, [])]⟩
  | 19 => ⟨[8], [], []⟩
  | 15 => ⟨[3, 4, 9, 10, 11, 12, 13, 14], [], []⟩
  | 20 => ⟨[3, 4, 9, 10, 11, 13, 15, 16], [0, 0, 2, 6, 14, 0, 32, 96, 224, 0, 512, 1536, 3584, 0, 8192, 24576, 57344, 131071, 262143, 524287, 524287, 1048575, 4194303], [(0, []), (1, []), (2, []), (3, []), (4, []), (5, []), (6, []), (7, []), (8, []), (9, []), (10, []), (11, []), (12, []), (13, []), (14, []), (15, []), (16, []), (17, []), (18, []), (19, []), (20, []), (21, []), (22, [])]⟩
  | 21 => ⟨[3, 4, 9, 10, 11, 13, 159], [], []⟩
  | 22 => ⟨[8], [], []⟩
  | 23 => ⟨[3, 4, 9, 10, 11, 17, 18], [0, 0, 2, 6, 14, 0, 32, 96, 224, 0, 512, 1536, 3584, 0, 8192, 24576, 57344, 131071, 262143, 524287, 524287, 1048575, 4194303], [(0, []), (1, []), (2, []), (3, []), (4, []), (5, []), (6, []), (7, []), (8, []), (9, []), (10, []), (11, []), (12, []), (13, []), (14, []), (15, []), (16, []), (17, []), (18, []), (19, []), (20, []), (21, []), (22, [])]⟩
  | 24 => ⟨[3, 4, 9, 10, 11, 185], [], []⟩
  | 25 => ⟨[8], [], []⟩
  | 8 => ⟨[3, 4, 9, 10, 11], [], []⟩
  | 26 => ⟨[8], [], []⟩
  | _ => ⟨[], [], []⟩
noncomputable def F3_c : Code := Try.f3.body.getD .skip
theorem F3_b : Try.f3.body = some F3_c := by kernel_rfl
theorem F3_rs : Try.f3.results.toList = ([.tmp 8] : List ResultVar) := by kernel_rfl
theorem F3_n : Try.f3.ntmps = 200 := by kernel_rfl
theorem F3_ok : toCC [] 200 F3_inf F3_c = some F3 := by kernel_rfl
theorem F3_in {args : List AV} {G : Hp} {post : AV → Hp → Prop} (ha : args.all AV.plain = true) (hn : args.length ≤ 200) (h : BDs args → awp Try.prog [] F3 (AEnds Try.prog [.tmp 8] post) (initT args) G) : ACalls Try.prog 3 args G post :=
  acalls_cc Try.func3 F3_b F3_rs F3_n F3_ok mixed ha hn h

/- 4 ostiary/ostiarylaw27.PlanRetry -/
@[simp] noncomputable def F4_r0 : CC := .reg [⟨some 4, none, (.box 34 (.tmp 0))⟩,
  ⟨some 5, none, (.box 35 (.tmp 1))⟩,
  ⟨some 8, none, (.assign (.const (.bool false)))⟩] [2, 3, 4, 5]
@[simp] noncomputable def F4_r1 : CC := .reg [⟨some 15, none, (.load 34 (.tmp 4))⟩,
  ⟨some 16, none, (.call { callee := (.value (.func 7)), args := #[(.tmp 15)], argTypes := #[34] })⟩,
  ⟨none, none, (.store 34 (.tmp 4) (.tmp 16))⟩] [2, 3, 4, 5]
@[simp] noncomputable def F4_r2 : CC := .reg [⟨some 17, none, (.move (.tmp 2))⟩,
  ⟨some 18, none, (.binOp .and 2 (.tmp 17) (.const (.int .i64 63)) 2)⟩,
  ⟨some 2, none, (.assign (.tmp 18))⟩] [2, 3, 4, 5]
@[simp] noncomputable def F4_r3 : CC := .reg [⟨some 19, none, (.move (.tmp 2))⟩,
  ⟨some 20, none, (.call { callee := (.value (.func 8)), args := #[(.tmp 19)], argTypes := #[2] })⟩,
  ⟨some 9, none, (.assign (.tmp 20))⟩] [2, 3, 4, 5, 9]
@[simp] noncomputable def F4_r4 : CC := .reg [⟨some 21, none, (.move (.tmp 2))⟩,
  ⟨some 22, none, (.binOp .lss 2 (.tmp 21) (.const (.int .i64 1)) 2)⟩] [2, 3, 4, 5, 9, 22]
@[simp] noncomputable def F4_r5 : CC := .reg [⟨some 2, none, (.assign (.const (.int .i64 1)))⟩] [2, 3, 4, 5, 9]
@[simp] noncomputable def F4_r6 : CC := .drw [⟨0, ⟨some 23, none, (.move (.tmp 9))⟩, [], []⟩,
  ⟨1, ⟨some 24, none, (.load 34 (.tmp 4))⟩, [], []⟩,
  ⟨3, ⟨some 26, none, (.load 35 (.tmp 5))⟩, [], []⟩,
  ⟨2, ⟨some 25, none, (.call { callee := (.value (.func 10)), args := #[(.tmp 24)], argTypes := #[34] })⟩, [3], [⟨some 26, none, (.load 35 (.tmp 5))⟩]⟩,
  ⟨4, ⟨some 27, none, (.call { callee := (.value (.func 9)), args := #[(.tmp 23), (.tmp 25), (.tmp 26), (.const (.int .i64 0)), (.const (.int .i64 0))], argTypes := #[38, 44, 46, 3, 3] })⟩, [], []⟩,
  ⟨5, ⟨some 28, none, (.binOp .neq 40 (.tmp 27) (.const (.int .i64 0)) 40)⟩, [], []⟩] [23, 24, 26, 25, 27, 28] [2, 3, 9, 28]
@[simp] noncomputable def F4_r7 : CC := .reg [⟨some 29, none, (.call { callee := (.value (.func 12)), args := #[], argTypes := #[] })⟩,
  ⟨some 8, none, (.assign (.tmp 29))⟩] [8]
@[simp] noncomputable def F4_r8 : CC := .reg [⟨some 30, none, (.move (.tmp 9))⟩,
  ⟨some 31, none, (.call { callee := (.value (.func 13)), args := #[(.tmp 30), (.const (.int .i64 0))], argTypes := #[38, 2] })⟩,
  ⟨some 32, none, (.call { callee := (.builtin .len), args := #[(.tmp 31)], argTypes := #[50] })⟩,
  ⟨some 33, none, (.binOp .neq 3 (.tmp 32) (.const (.int .i64 1)) 3)⟩] [2, 3, 9, 33]
@[simp] noncomputable def F4_r9 : CC := .reg [⟨some 8, none, (.assign (.const (.bool false)))⟩] [8]
@[simp] noncomputable def F4_r10 : CC := .reg [⟨some 10, none, (.assign (.const (.int .i64 0)))⟩,
  ⟨some 11, none, (.assign (.const (.int .i64 0)))⟩] [2, 3, 9, 10, 11]
@[simp] noncomputable def F4_r11 : CC := .reg [⟨some 34, none, (.move (.tmp 3))⟩,
  ⟨some 35, none, (.call { callee := (.builtin .len), args := #[(.tmp 34)], argTypes := #[36] })⟩,
  ⟨some 36, none, (.move (.const (.int .i64 0)))⟩] [2, 9, 10, 11, 34, 35, 36]
@[simp] noncomputable def F4_r12 : CC := .reg [⟨some 37, none, (.binOp .lss 3 (.tmp 36) (.tmp 35) 3)⟩] [2, 9, 10, 11, 34, 35, 36, 37]
@[simp] noncomputable def F4_r13 : CC := .reg [⟨some 38, none, (.move (.tmp 36))⟩,
  ⟨some 39, none, (.indexAddr 36 (.tmp 34) (.tmp 36))⟩,
  ⟨some 40, none, (.load 3 (.tmp 39))⟩,
  ⟨some 12, none, (.assign (.tmp 38))⟩,
  ⟨some 13, none, (.assign (.tmp 40))⟩] [2, 9, 10, 11, 12, 13, 34, 35, 36]
@[simp] noncomputable def F4_r14 : CC := .reg [⟨some 41, none, (.move (.tmp 12))⟩,
  ⟨some 42, none, (.binOp .geq 3 (.tmp 41) (.const (.int .i64 30)) 3)⟩] [2, 9, 10, 11, 13, 34, 35, 36, 42]
@[simp] noncomputable def F4_r15 : CC := .reg [⟨some 43, none, (.move (.tmp 10))⟩,
  ⟨some 44, none, (.move (.tmp 13))⟩,
  ⟨some 45, none, (.binOp .and 3 (.tmp 44) (.const (.int .i64 15)) 3)⟩,
  ⟨some 46, none, (.binOp .add 2 (.tmp 43) (.tmp 45) 2)⟩,
  ⟨some 10, none, (.assign (.tmp 46))⟩] [2, 9, 10, 11, 34, 35, 36]
@[simp] noncomputable def F4_r16 : CC := .reg [⟨some 47, none, (.move (.tmp 9))⟩,
  ⟨some 48, none, (.move (.tmp 10))⟩,
  ⟨some 49, none, (.call { callee := (.value (.func 13)), args := #[(.tmp 47), (.tmp 48)], argTypes := #[38, 2] })⟩,
  ⟨some 50, none, (.call { callee := (.builtin .len), args := #[(.tmp 49)], argTypes := #[50] })⟩,
  ⟨some 14, none, (.assign (.tmp 50))⟩] [2, 9, 10, 11, 14, 34, 35, 36]
@[simp] noncomputable def F4_r17 : CC := .reg [⟨some 51, none, (.move (.tmp 14))⟩,
  ⟨some 52, none, (.binOp .eql 3 (.tmp 51) (.const (.int .i64 1)) 3)⟩,
  ⟨some 53, none, (.move (.tmp 10))⟩,
  ⟨some 54, none, (.move (.tmp 11))⟩,
  ⟨some 55, none, (.binOp .sub 2 (.tmp 53) (.tmp 54) 2)⟩,
  ⟨some 56, none, (.move (.tmp 2))⟩,
  ⟨some 57, none, (.binOp .geq 2 (.tmp 55) (.tmp 56) 2)⟩,
  ⟨some 58, none, (.binOp .neq 4 (.tmp 52) (.tmp 57) 4)⟩,
  ⟨some 59, none, (.move (.tmp 58))⟩,
  ⟨some 60, some (59, false), (.move (.tmp 14))⟩,
  ⟨some 61, some (59, false), (.binOp .gtr 3 (.tmp 60) (.const (.int .i64 1)) 3)⟩,
  ⟨some 62, none, (.pick (.tmp 59) (.const (.bool true)) (.tmp 61))⟩] [2, 9, 10, 11, 14, 34, 35, 36, 62]
@[simp] noncomputable def F4_r18 : CC := .reg [⟨some 8, none, (.assign (.const (.bool false)))⟩] [8]
@[simp] noncomputable def F4_r19 : CC := .reg [⟨some 63, none, (.move (.tmp 14))⟩,
  ⟨some 64, none, (.binOp .eql 3 (.tmp 63) (.const (.int .i64 1)) 3)⟩] [2, 9, 10, 11, 34, 35, 36, 64]
@[simp] noncomputable def F4_r20 : CC := .reg [⟨some 65, none, (.move (.tmp 10))⟩,
  ⟨some 11, none, (.assign (.tmp 65))⟩] [2, 9, 10, 11, 34, 35, 36]
@[simp] noncomputable def F4_r21 : CC := .reg [⟨some 66, none, (.binOp .add 3 (.tmp 36) (.const (.int .i64 1)) 3)⟩,
  ⟨some 36, none, (.move (.tmp 66))⟩] [2, 9, 10, 11, 34, 35, 36]
noncomputable def F4_l0 : CC := (.seq F4_r12 (.seq (.cond (.tmp 37) .skip (.exit 0)) (.seq (.block 1 (.seq F4_r13 (.seq (.seq F4_r14 (.cond (.tmp 42) (.exit 0) .skip)) (.seq F4_r15 (.seq F4_r16 (.seq (.seq F4_r17 (.cond (.tmp 62) (.seq F4_r18 .ret) .skip)) (.seq F4_r19 (.cond (.tmp 64) F4_r20 .skip)))))))) F4_r21)))
@[simp] noncomputable def F4_r22 : CC := .reg [⟨some 67, none, (.call { callee := (.value (.func 12)), args := #[], argTypes := #[] })⟩,
  ⟨some 8, none, (.assign (.tmp 67))⟩] [8]
noncomputable def F4 : CC := (.seq F4_r0 (.seq F4_r1 (.seq F4_r2 (.seq F4_r3 (.seq (.seq F4_r4 (.cond (.tmp 22) F4_r5 .skip)) (.seq (.seq F4_r6 (.cond (.tmp 28) (.seq F4_r7 .ret) .skip)) (.seq (.seq F4_r8 (.cond (.tmp 33) (.seq F4_r9 .ret) .skip)) (.seq F4_r10 (.seq (.seq F4_r11 (.block 0 (.loop F4_l0))) (.seq F4_r22 .ret))))))))))
noncomputable def F4_inf : Nat → RI
  | 0 => ⟨[2, 3, 4, 5], [], []⟩
  | 1 => ⟨[2, 3, 4, 5], [], []⟩
  | 2 => ⟨[2, 3, 4, 5], [], []⟩
  | 3 => ⟨[2, 3, 4, 5, 9], [], []⟩
  | 4 => ⟨[2, 3, 4, 5, 9, 22], [], []⟩
  | 5 => ⟨[2, 3, 4, 5, 9], [], []⟩
  | 6 => ⟨[2, 3, 9, 28], [0, 0, 2, 0, 15, 31], [(0, []), (1, []), (3, []), (2, [3]), (4, []), (5, [])]⟩
  | 7 => ⟨[8], [], []⟩
  | 8 => ⟨[2, 3, 9, 33], [], []⟩
  | 9 => ⟨[8], [], []⟩
  | 10 => ⟨[2, 3, 9, 10, 11], [], []⟩
  | 11 => ⟨[2, 9, 10, 11, 34, 35, 36], [], []⟩
  | 12 => ⟨[2, 9, 10, 11, 34, 35, 36, 37], [], []⟩
  | 13 => ⟨[2, 9, 10, 11, 12, 13, 34, 35, 36], [], []⟩
  | 14 => ⟨[2, 9, 10, 11, 13, 34, 35, 36, 42], [], []⟩
  | 15 => ⟨[2, 9, 10, 11, 34, 35, 36], [], []⟩
  | 16 => ⟨[2, 9, 10, 11, 14, 34, 35, 36], [], []⟩
  | 17 => ⟨[2, 9, 10, 11, 14, 34, 35, 36, 62], [], []⟩
  | 18 => ⟨[8], [], []⟩
  | 19 => ⟨[2, 9, 10, 11, 34, 35, 36, 64], [], []⟩
  | 20 => ⟨[2, 9, 10, 11, 34, 35, 36], [], []⟩
  | 21 => ⟨[2, 9, 10, 11, 34, 35, 36], [], []⟩
  | 22 => ⟨[8], [], []⟩
  | _ => ⟨[], [], []⟩
noncomputable def F4_c : Code := Try.f4.body.getD .skip
theorem F4_b : Try.f4.body = some F4_c := by kernel_rfl
theorem F4_rs : Try.f4.results.toList = ([.tmp 8] : List ResultVar) := by kernel_rfl
theorem F4_n : Try.f4.ntmps = 68 := by kernel_rfl
theorem F4_ok : toCC [] 68 F4_inf F4_c = some F4 := by kernel_rfl
theorem F4_in {args : List AV} {G : Hp} {post : AV → Hp → Prop} (ha : args.all AV.plain = true) (hn : args.length ≤ 68) (h : BDs args → awp Try.prog [] F4 (AEnds Try.prog [.tmp 8] post) (initT args) G) : ACalls Try.prog 4 args G post :=
  acalls_cc Try.func4 F4_b F4_rs F4_n F4_ok mixed ha hn h

/- 5 ostiary/ostiarylaw27.PlanPlays -/
@[simp] noncomputable def F5_r0 : CC := .reg [⟨some 4, none, (.assign (.const (.bool false)))⟩] [0, 1]
@[simp] noncomputable def F5_r1 : CC := .reg [⟨some 10, none, (.move (.tmp 0))⟩,
  ⟨some 11, none, (.call { callee := (.value (.func 8)), args := #[(.tmp 10)], argTypes := #[2] })⟩,
  ⟨some 12, none, (.move (.tmp 0))⟩,
  ⟨some 13, none, (.call { callee := (.value (.func 15)), args := #[(.tmp 12)], argTypes := #[2] })⟩,
  ⟨some 5, none, (.assign (.tmp 11))⟩,
  ⟨some 6, none, (.assign (.tmp 13))⟩] [1, 5, 6]
@[simp] noncomputable def F5_r2 : CC := .reg [⟨some 7, none, (.assign (.const (.int .i64 0)))⟩] [1, 5, 6, 7]
@[simp] noncomputable def F5_r3 : CC := .reg [⟨some 14, none, (.move (.tmp 1))⟩,
  ⟨some 15, none, (.call { callee := (.builtin .len), args := #[(.tmp 14)], argTypes := #[60] })⟩,
  ⟨some 16, none, (.move (.const (.int .i64 0)))⟩] [5, 6, 7, 14, 15, 16]
@[simp] noncomputable def F5_r4 : CC := .reg [⟨some 17, none, (.binOp .lss 3 (.tmp 16) (.tmp 15) 3)⟩] [5, 6, 7, 14, 15, 16, 17]
@[simp] noncomputable def F5_r5 : CC := .reg [⟨some 18, none, (.move (.tmp 16))⟩,
  ⟨some 19, none, (.indexAddr 60 (.tmp 14) (.tmp 16))⟩,
  ⟨some 20, none, (.load 64 (.tmp 19))⟩,
  ⟨some 9, none, (.alloc 64)⟩,
  ⟨some 8, none, (.assign (.tmp 18))⟩,
  ⟨none, none, (.store 64 (.tmp 9) (.tmp 20))⟩] [5, 6, 7, 8, 9, 14, 15, 16]
@[simp] noncomputable def F5_r6 : CC := .reg [⟨some 21, none, (.move (.tmp 8))⟩,
  ⟨some 22, none, (.binOp .geq 3 (.tmp 21) (.const (.int .i64 40)) 3)⟩] [5, 6, 7, 9, 14, 15, 16, 22]
@[simp] noncomputable def F5_r7 : CC := .reg [⟨some 23, none, (.move (.tmp 7))⟩,
  ⟨some 24, none, (.fieldAddr 64 (.tmp 9) 10)⟩,
  ⟨some 25, none, (.load 3 (.tmp 24))⟩,
  ⟨some 26, none, (.binOp .and 3 (.tmp 25) (.const (.int .i64 15)) 3)⟩,
  ⟨some 27, none, (.binOp .add 2 (.tmp 23) (.tmp 26) 2)⟩,
  ⟨some 7, none, (.assign (.tmp 27))⟩] [5, 6, 7, 9, 14, 15, 16]
@[simp] noncomputable def F5_r8 : CC := .reg [⟨some 28, none, (.move (.tmp 5))⟩,
  ⟨some 29, none, (.move (.tmp 6))⟩,
  ⟨some 30, none, (.load 64 (.tmp 9))⟩,
  ⟨some 31, none, (.move (.tmp 7))⟩,
  ⟨some 32, none, (.call { callee := (.value (.func 16)), args := #[(.tmp 28), (.tmp 29), (.tmp 30), (.tmp 31)], argTypes := #[38, 61, 64, 2] })⟩,
  ⟨some 33, none, (.unOp .not 4 (.tmp 32))⟩,
  ⟨some 34, none, (.move (.tmp 33))⟩,
  ⟨some 35, some (34, false), (.move (.tmp 5))⟩,
  ⟨some 36, some (34, false), (.call { callee := (.value (.func 11)), args := #[(.tmp 35)], argTypes := #[38] })⟩,
  ⟨some 37, some (34, false), (.move (.tmp 6))⟩,
  ⟨some 38, some (34, false), (.call { callee := (.value (.func 18)), args := #[(.tmp 37)], argTypes := #[61] })⟩,
  ⟨some 39, some (34, false), (.call { callee := (.value (.func 17)), args := #[(.tmp 36), (.tmp 38)], argTypes := #[47, 47] })⟩,
  ⟨some 40, some (34, false), (.unOp .not 4 (.tmp 39))⟩,
  ⟨some 41, none, (.pick (.tmp 34) (.const (.bool true)) (.tmp 40))⟩] [5, 6, 7, 14, 15, 16, 41]
@[simp] noncomputable def F5_r9 : CC := .reg [⟨some 4, none, (.assign (.const (.bool false)))⟩] [4]
@[simp] noncomputable def F5_r10 : CC := .reg [⟨some 42, none, (.binOp .add 3 (.tmp 16) (.const (.int .i64 1)) 3)⟩,
  ⟨some 16, none, (.move (.tmp 42))⟩] [5, 6, 7, 14, 15, 16]
noncomputable def F5_l0 : CC := (.seq F5_r4 (.seq (.cond (.tmp 17) .skip (.exit 0)) (.seq (.block 1 (.seq F5_r5 (.seq (.seq F5_r6 (.cond (.tmp 22) (.exit 0) .skip)) (.seq F5_r7 (.seq F5_r8 (.cond (.tmp 41) (.seq F5_r9 .ret) .skip)))))) F5_r10)))
@[simp] noncomputable def F5_r11 : CC := .reg [⟨some 43, none, (.call { callee := (.value (.func 12)), args := #[], argTypes := #[] })⟩,
  ⟨some 4, none, (.assign (.tmp 43))⟩] [4]
noncomputable def F5 : CC := (.seq F5_r0 (.seq F5_r1 (.seq F5_r2 (.seq (.seq F5_r3 (.block 0 (.loop F5_l0))) (.seq F5_r11 .ret)))))
noncomputable def F5_inf : Nat → RI
  | 0 => ⟨[0, 1], [], []⟩
  | 1 => ⟨[1, 5, 6], [], []⟩
  | 2 => ⟨[1, 5, 6, 7], [], []⟩
  | 3 => ⟨[5, 6, 7, 14, 15, 16], [], []⟩
  | 4 => ⟨[5, 6, 7, 14, 15, 16, 17], [], []⟩
  | 5 => ⟨[5, 6, 7, 8, 9, 14, 15, 16], [], []⟩
  | 6 => ⟨[5, 6, 7, 9, 14, 15, 16, 22], [], []⟩
  | 7 => ⟨[5, 6, 7, 9, 14, 15, 16], [], []⟩
  | 8 => ⟨[5, 6, 7, 14, 15, 16, 41], [], []⟩
  | 9 => ⟨[4], [], []⟩
  | 10 => ⟨[5, 6, 7, 14, 15, 16], [], []⟩
  | 11 => ⟨[4], [], []⟩
  | _ => ⟨[], [], []⟩
noncomputable def F5_c : Code := Try.f5.body.getD .skip
theorem F5_b : Try.f5.body = some F5_c := by kernel_rfl
theorem F5_rs : Try.f5.results.toList = ([.tmp 4] : List ResultVar) := by kernel_rfl
theorem F5_n : Try.f5.ntmps = 44 := by kernel_rfl
theorem F5_ok : toCC [] 44 F5_inf F5_c = some F5 := by kernel_rfl
theorem F5_in {args : List AV} {G : Hp} {post : AV → Hp → Prop} (ha : args.all AV.plain = true) (hn : args.length ≤ 44) (h : BDs args → awp Try.prog [] F5 (AEnds Try.prog [.tmp 4] post) (initT args) G) : ACalls Try.prog 5 args G post :=
  acalls_cc Try.func5 F5_b F5_rs F5_n F5_ok mixed ha hn h

/- 6 ostiary/ostiarylaw27.PlanNil -/
@[simp] noncomputable def F6_r0 : CC := .reg [⟨some 2, none, (.box 34 (.tmp 0))⟩,
  ⟨some 4, none, (.assign (.const (.bool false)))⟩] [1, 2]
@[simp] noncomputable def F6_r1 : CC := .reg [⟨some 8, none, (.load 34 (.tmp 2))⟩,
  ⟨some 9, none, (.call { callee := (.value (.func 7)), args := #[(.tmp 8)], argTypes := #[34] })⟩,
  ⟨none, none, (.store 34 (.tmp 2) (.tmp 9))⟩] [1, 2]
@[simp] noncomputable def F6_r2 : CC := .reg [⟨some 5, none, (.assign (.const (.pointer none)))⟩] [1, 2, 5]
@[simp] noncomputable def F6_r3 : CC := .reg [⟨some 11, none, (.move (.tmp 5))⟩,
  ⟨some 12, none, (.fieldAddr 34 (.tmp 2) 1)⟩,
  ⟨some 13, none, (.load 22 (.tmp 12))⟩,
  ⟨some 14, none, (.move (.tmp 1))⟩,
  ⟨some 15, none, (.call { callee := (.value (.func 14)), args := #[(.tmp 11), (.const (.int .i64 1)), (.const (.int .u32 1)), (.tmp 13), (.tmp 14)], argTypes := #[38, 3, 22, 22, 22] })⟩,
  ⟨some 10, none, (.move (.tmp 15))⟩,
  ⟨some 16, none, (.extract (.tmp 10) 0)⟩,
  ⟨some 17, none, (.extract (.tmp 10) 1)⟩,
  ⟨some 6, none, (.assign (.tmp 16))⟩,
  ⟨some 7, none, (.assign (.tmp 17))⟩] [2, 5, 7]
@[simp] noncomputable def F6_r4 : CC := .reg [⟨some 18, none, (.move (.tmp 5))⟩,
  ⟨some 19, none, (.load 34 (.tmp 2))⟩,
  ⟨some 20, none, (.call { callee := (.value (.func 10)), args := #[(.tmp 19)], argTypes := #[34] })⟩,
  ⟨some 21, none, (.build 46 #[])⟩,
  ⟨some 22, none, (.call { callee := (.value (.func 9)), args := #[(.tmp 18), (.tmp 20), (.tmp 21), (.const (.int .i64 1)), (.const (.int .i64 1))], argTypes := #[38, 44, 46, 3, 3] })⟩,
  ⟨some 23, none, (.binOp .eql 40 (.tmp 22) (.const (.int .i64 11)) 40)⟩,
  ⟨some 24, none, (.move (.tmp 23))⟩,
  ⟨some 25, some (24, true), (.move (.tmp 5))⟩,
  ⟨some 26, some (24, true), (.call { callee := (.value (.func 13)), args := #[(.tmp 25), (.const (.int .i64 5))], argTypes := #[38, 2] })⟩,
  ⟨some 27, some (24, true), (.call { callee := (.builtin .len), args := #[(.tmp 26)], argTypes := #[50] })⟩,
  ⟨some 28, some (24, true), (.binOp .eql 3 (.tmp 27) (.const (.int .i64 0)) 3)⟩,
  ⟨some 29, none, (.pick (.tmp 24) (.tmp 28) (.const (.bool false)))⟩,
  ⟨some 30, none, (.move (.tmp 29))⟩,
  ⟨some 31, some (30, true), (.move (.tmp 7))⟩,
  ⟨some 32, some (30, true), (.unOp .not 4 (.tmp 31))⟩,
  ⟨some 33, none, (.pick (.tmp 30) (.tmp 32) (.const (.bool false)))⟩,
  ⟨some 34, none, (.move (.tmp 33))⟩,
  ⟨some 35, some (34, true), (.move (.tmp 5))⟩,
  ⟨some 36, some (34, true), (.call { callee := (.value (.func 19)), args := #[(.tmp 35)], argTypes := #[38] })⟩,
  ⟨some 37, some (34, true), (.call { callee := (.builtin .len), args := #[(.tmp 36)], argTypes := #[47] })⟩,
  ⟨some 38, some (34, true), (.binOp .eql 3 (.tmp 37) (.const (.int .i64 0)) 3)⟩,
  ⟨some 39, none, (.pick (.tmp 34) (.tmp 38) (.const (.bool false)))⟩,
  ⟨some 40, none, (.move (.tmp 39))⟩,
  ⟨some 41, some (40, true), (.move (.tmp 5))⟩,
  ⟨some 42, some (40, true), (.call { callee := (.value (.func 11)), args := #[(.tmp 41)], argTypes := #[38] })⟩,
  ⟨some 43, some (40, true), (.call { callee := (.builtin .len), args := #[(.tmp 42)], argTypes := #[47] })⟩,
  ⟨some 44, some (40, true), (.binOp .eql 3 (.tmp 43) (.const (.int .i64 0)) 3)⟩,
  ⟨some 45, none, (.pick (.tmp 40) (.tmp 44) (.const (.bool false)))⟩,
  ⟨some 46, none, (.move (.tmp 45))⟩,
  ⟨some 47, some (46, true), (.call { callee := (.value (.func 12)), args := #[], argTypes := #[] })⟩,
  ⟨some 48, none, (.pick (.tmp 46) (.tmp 47) (.const (.bool false)))⟩,
  ⟨some 4, none, (.assign (.tmp 48))⟩] [4]
noncomputable def F6 : CC := (.seq F6_r0 (.seq F6_r1 (.seq F6_r2 (.seq F6_r3 (.seq F6_r4 .ret)))))
noncomputable def F6_inf : Nat → RI
  | 0 => ⟨[1, 2], [], []⟩
  | 1 => ⟨[1, 2], [], []⟩
  | 2 => ⟨[1, 2, 5], [], []⟩
  | 3 => ⟨[2, 5, 7], [], []⟩
  | 4 => ⟨[4], [], []⟩
  | _ => ⟨[], [], []⟩
noncomputable def F6_c : Code := Try.f6.body.getD .skip
theorem F6_b : Try.f6.body = some F6_c := by kernel_rfl
theorem F6_rs : Try.f6.results.toList = ([.tmp 4] : List ResultVar) := by kernel_rfl
theorem F6_n : Try.f6.ntmps = 49 := by kernel_rfl
theorem F6_ok : toCC [] 49 F6_inf F6_c = some F6 := by kernel_rfl
theorem F6_in {args : List AV} {G : Hp} {post : AV → Hp → Prop} (ha : args.all AV.plain = true) (hn : args.length ≤ 49) (h : BDs args → awp Try.prog [] F6 (AEnds Try.prog [.tmp 4] post) (initT args) G) : ACalls Try.prog 6 args G post :=
  acalls_cc Try.func6 F6_b F6_rs F6_n F6_ok mixed ha hn h

/- 7 ostiary/ostiarylaw26.Cut -/
@[simp] noncomputable def F7_r0 : CC := .reg [⟨some 1, none, (.box 34 (.tmp 0))⟩,
  ⟨some 2, none, (.alloc 34)⟩] [1, 2]
@[simp] noncomputable def F7_r1 : CC := .reg [⟨some 3, none, (.fieldAddr 34 (.tmp 1) 9)⟩,
  ⟨some 4, none, (.load 32 (.tmp 3))⟩,
  ⟨some 5, none, (.call { callee := (.builtin .len), args := #[(.tmp 4)], argTypes := #[32] })⟩,
  ⟨some 6, none, (.binOp .gtr 3 (.tmp 5) (.const (.int .i64 10)) 3)⟩] [1, 2, 6]
@[simp] noncomputable def F7_r2 : CC := .reg [⟨some 7, none, (.fieldAddr 34 (.tmp 1) 9)⟩,
  ⟨some 8, none, (.load 32 (.tmp 7))⟩,
  ⟨some 9, none, (.slice 32 (.tmp 8) none (some (.const (.int .i64 10))) none)⟩,
  ⟨some 10, none, (.fieldAddr 34 (.tmp 1) 9)⟩,
  ⟨none, none, (.store 32 (.tmp 10) (.tmp 9))⟩] [1, 2]
@[simp] noncomputable def F7_r3 : CC := .reg [⟨some 11, none, (.load 34 (.tmp 1))⟩,
  ⟨none, none, (.store 34 (.tmp 2) (.tmp 11))⟩] [2]
noncomputable def F7 : CC := (.seq F7_r0 (.seq (.seq F7_r1 (.cond (.tmp 6) F7_r2 .skip)) (.seq F7_r3 .ret)))
noncomputable def F7_inf : Nat → RI
  | 0 => ⟨[1, 2], [], []⟩
  | 1 => ⟨[1, 2, 6], [], []⟩
  | 2 => ⟨[1, 2], [], []⟩
  | 3 => ⟨[2], [], []⟩
  | _ => ⟨[], [], []⟩
noncomputable def F7_c : Code := Try.f7.body.getD .skip
theorem F7_b : Try.f7.body = some F7_c := by kernel_rfl
theorem F7_rs : Try.f7.results.toList = ([.cell 2 34] : List ResultVar) := by kernel_rfl
theorem F7_n : Try.f7.ntmps = 12 := by kernel_rfl
theorem F7_ok : toCC [] 12 F7_inf F7_c = some F7 := by kernel_rfl
theorem F7_in {args : List AV} {G : Hp} {post : AV → Hp → Prop} (ha : args.all AV.plain = true) (hn : args.length ≤ 12) (h : BDs args → awp Try.prog [] F7 (AEnds Try.prog [.cell 2 34] post) (initT args) G) : ACalls Try.prog 7 args G post :=
  acalls_cc Try.func7 F7_b F7_rs F7_n F7_ok mixed ha hn h

/- 8 ostiary/plan.New -/
@[simp] noncomputable def F8_r0 : CC := .reg [⟨some 2, none, (.assign (.const (.pointer none)))⟩] [0]
@[simp] noncomputable def F8_r1 : CC := .reg [⟨some 3, none, (.call { callee := (.value (.func 20)), args := #[(.const (.int .i64 1024))], argTypes := #[3] })⟩,
  ⟨some 4, none, (.move (.tmp 0))⟩,
  ⟨some 5, none, (.call { callee := (.builtin .max), args := #[(.tmp 4), (.const (.int .i64 1))], argTypes := #[2, 2] })⟩,
  ⟨some 6, none, (.call { callee := (.builtin .min), args := #[(.tmp 5), (.const (.int .i64 65535))], argTypes := #[2, 2] })⟩,
  ⟨some 7, none, (.build 74 #[(0, (.tmp 3)), (1, (.tmp 6))])⟩,
  ⟨some 8, none, (.box 74 (.tmp 7))⟩,
  ⟨some 2, none, (.assign (.tmp 8))⟩] [2]
noncomputable def F8 : CC := (.seq F8_r0 (.seq F8_r1 .ret))
noncomputable def F8_inf : Nat → RI
  | 0 => ⟨[0], [], []⟩
  | 1 => ⟨[2], [], []⟩
  | _ => ⟨[], [], []⟩
noncomputable def F8_c : Code := Try.f8.body.getD .skip
theorem F8_b : Try.f8.body = some F8_c := by kernel_rfl
theorem F8_rs : Try.f8.results.toList = ([.tmp 2] : List ResultVar) := by kernel_rfl
theorem F8_n : Try.f8.ntmps = 9 := by kernel_rfl
theorem F8_ok : toCC [8] 9 F8_inf F8_c = some F8 := by kernel_rfl
theorem F8_in {args : List AV} {G : Hp} {post : AV → Hp → Prop} (ha : args.all AV.plain = true) (hn : args.length ≤ 9) (h : BDs args → awp Try.prog [8] F8 (AEnds Try.prog [.tmp 2] post) (initT args) G) : ACalls Try.prog 8 args G post :=
  acalls_cc Try.func8 F8_b F8_rs F8_n F8_ok mixed ha hn h

/- 9 (*ostiary/plan.Plans).Start -/
@[simp] noncomputable def F9_r0 : CC := .reg [⟨some 6, none, (.box 44 (.tmp 1))⟩,
  ⟨some 7, none, (.box 46 (.tmp 2))⟩,
  ⟨some 10, none, (.assign (.const (.int .i64 0)))⟩] [0, 3, 4, 6, 7]
@[simp] noncomputable def F9_r1 : CC := .reg [⟨some 14, none, (.move (.tmp 0))⟩,
  ⟨some 15, none, (.binOp .eql 38 (.tmp 14) (.const (.pointer none)) 38)⟩] [0, 3, 4, 6, 7, 15]
@[simp] noncomputable def F9_r2 : CC := .reg [⟨some 10, none, (.assign (.const (.int .i64 11)))⟩] [10]
@[simp] noncomputable def F9_r3 : CC := .reg [⟨some 16, none, (.fieldAddr 44 (.tmp 6) 9)⟩,
  ⟨some 17, none, (.load 32 (.tmp 16))⟩,
  ⟨some 18, none, (.call { callee := (.value (.func 21)), args := #[(.tmp 17)], argTypes := #[32] })⟩,
  ⟨some 19, none, (.fieldAddr 44 (.tmp 6) 9)⟩,
  ⟨none, none, (.store 32 (.tmp 19) (.tmp 18))⟩] [0, 3, 4, 6, 7]
@[simp] noncomputable def F9_r4 : CC := .drw [⟨0, ⟨some 20, none, (.load 44 (.tmp 6))⟩, [], []⟩,
  ⟨1, ⟨some 21, none, (.load 46 (.tmp 7))⟩, [], []⟩,
  ⟨2, ⟨some 22, none, (.move (.tmp 3))⟩, [], []⟩,
  ⟨3, ⟨some 23, none, (.move (.tmp 4))⟩, [], []⟩,
  ⟨4, ⟨some 24, none, (.fieldAddr 44 (.tmp 6) 9)⟩, [], []⟩,
  ⟨5, ⟨some 25, none, (.load 32 (.tmp 24))⟩, [], []⟩,
  ⟨6, ⟨some 26, none, (.call { callee := (.builtin .len), args := #[(.tmp 25)], argTypes := #[32] })⟩, [], []⟩,
  ⟨7, ⟨some 27, none, (.binOp .sub 3 (.tmp 26) (.const (.int .i64 1)) 3)⟩, [], []⟩,
  ⟨8, ⟨some 28, none, (.move (.tmp 0))⟩, [], []⟩,
  ⟨9, ⟨some 29, none, (.nilCheck (.tmp 28))⟩, [], []⟩,
  ⟨10, ⟨some 30, none, (.fieldAddr 74 (.tmp 29) 2)⟩, [], []⟩,
  ⟨11, ⟨some 31, none, (.load 22 (.tmp 30))⟩, [], []⟩,
  ⟨12, ⟨some 32, none, (.binOp .add 22 (.tmp 31) (.const (.int .u32 1)) 22)⟩, [], []⟩,
  ⟨13, ⟨some 33, none, (.build 72 #[(0, (.tmp 20)), (1, (.tmp 21)), (2, (.tmp 22)), (3, (.tmp 23)), (4, (.tmp 27)), (5, (.tmp 32))])⟩, [], []⟩,
  ⟨14, ⟨some 11, none, (.alloc 72)⟩, [], []⟩,
  ⟨15, ⟨none, none, (.store 72 (.tmp 11) (.tmp 33))⟩, [], []⟩] [20, 21, 22, 23, 24, 25, 26, 27, 28, 29, 30, 31, 32, 33, 11] [0, 6, 11]
@[simp] noncomputable def F9_r5 : CC := .drw [⟨0, ⟨some 35, none, (.move (.tmp 0))⟩, [], []⟩,
  ⟨1, ⟨some 36, none, (.nilCheck (.tmp 35))⟩, [], []⟩,
  ⟨2, ⟨some 37, none, (.fieldAddr 74 (.tmp 36) 0)⟩, [], []⟩,
  ⟨3, ⟨some 38, none, (.load 69 (.tmp 37))⟩, [], []⟩,
  ⟨4, ⟨some 39, none, (.fieldAddr 44 (.tmp 6) 0)⟩, [], []⟩,
  ⟨5, ⟨some 40, none, (.load 22 (.tmp 39))⟩, [], []⟩,
  ⟨10, ⟨some 12, none, (.alloc 72)⟩, [], []⟩,
  ⟨6, ⟨some 41, none, (.call { callee := (.value (.func 22)), args := #[(.tmp 38), (.tmp 40)], argTypes := #[69, 22] })⟩, [], []⟩,
  ⟨7, ⟨some 34, none, (.move (.tmp 41))⟩, [], []⟩,
  ⟨8, ⟨some 42, none, (.extract (.tmp 34) 0)⟩, [], []⟩,
  ⟨9, ⟨some 43, none, (.extract (.tmp 34) 1)⟩, [], []⟩,
  ⟨11, ⟨none, none, (.store 72 (.tmp 12) (.tmp 42))⟩, [], []⟩,
  ⟨12, ⟨some 13, none, (.assign (.tmp 43))⟩, [], []⟩] [35, 36, 37, 38, 39, 40, 12, 41, 34, 42, 43, 13] [0, 6, 11, 13]
@[simp] noncomputable def F9_r6 : CC := .reg [⟨some 44, none, (.move (.tmp 13))⟩] [0, 6, 11, 44]
@[simp] noncomputable def F9_r7 : CC := .reg [⟨some 10, none, (.assign (.const (.int .i64 3)))⟩] [10]
@[simp] noncomputable def F9_r8 : CC := .reg [⟨some 46, none, (.move (.tmp 0))⟩,
  ⟨some 47, none, (.nilCheck (.tmp 46))⟩,
  ⟨some 48, none, (.fieldAddr 74 (.tmp 47) 0)⟩,
  ⟨some 49, none, (.load 69 (.tmp 48))⟩,
  ⟨some 50, none, (.call { callee := (.value (.func 23)), args := #[(.tmp 49)], argTypes := #[69] })⟩,
  ⟨some 51, none, (.binOp .geq 3 (.tmp 50) (.const (.int .i64 1024)) 3)⟩,
  ⟨some 45, none, (.assign (.tmp 51))⟩] [0, 6, 11, 45]
@[simp] noncomputable def F9_r9 : CC := .reg [⟨some 10, none, (.assign (.const (.int .i64 4)))⟩] [10]
@[simp] noncomputable def F9_r10 : CC := .reg [⟨some 53, none, (.load 72 (.tmp 11))⟩,
  ⟨some 54, none, (.call { callee := (.value (.func 24)), args := #[(.tmp 53)], argTypes := #[72] })⟩,
  ⟨some 55, none, (.unOp .not 4 (.tmp 54))⟩,
  ⟨some 52, none, (.assign (.tmp 55))⟩] [0, 6, 11, 52]
@[simp] noncomputable def F9_r11 : CC := .reg [⟨some 10, none, (.assign (.const (.int .i64 1)))⟩] [10]
@[simp] noncomputable def F9_r12 : CC := .reg [⟨some 56, none, (.move (.tmp 0))⟩,
  ⟨some 57, none, (.nilCheck (.tmp 56))⟩,
  ⟨some 58, none, (.fieldAddr 74 (.tmp 57) 2)⟩,
  ⟨some 59, none, (.load 22 (.tmp 58))⟩,
  ⟨some 60, none, (.binOp .add 22 (.tmp 59) (.const (.int .u32 1)) 22)⟩,
  ⟨some 61, none, (.nilCheck (.tmp 56))⟩,
  ⟨some 62, none, (.fieldAddr 74 (.tmp 61) 2)⟩,
  ⟨none, none, (.store 22 (.tmp 62) (.tmp 60))⟩] [0, 6, 11]
@[simp] noncomputable def F9_r13 : CC := .drw [⟨0, ⟨some 63, none, (.move (.tmp 0))⟩, [], []⟩,
  ⟨1, ⟨some 64, none, (.nilCheck (.tmp 63))⟩, [], []⟩,
  ⟨2, ⟨some 65, none, (.fieldAddr 74 (.tmp 64) 0)⟩, [], []⟩,
  ⟨3, ⟨some 66, none, (.load 69 (.tmp 65))⟩, [], []⟩,
  ⟨4, ⟨some 67, none, (.fieldAddr 44 (.tmp 6) 0)⟩, [], []⟩,
  ⟨5, ⟨some 68, none, (.load 22 (.tmp 67))⟩, [], []⟩,
  ⟨6, ⟨some 69, none, (.load 72 (.tmp 11))⟩, [], []⟩,
  ⟨7, ⟨some 70, none, (.call { callee := (.value (.func 25)), args := #[(.tmp 66), (.tmp 68), (.tmp 69)], argTypes := #[69, 22, 72] })⟩, [], []⟩,
  ⟨8, ⟨some 10, none, (.assign (.tmp 70))⟩, [], []⟩] [63, 64, 65, 66, 67, 68, 69, 70, 10] [10]
noncomputable def F9 : CC := (.seq F9_r0 (.seq (.seq F9_r1 (.cond (.tmp 15) (.seq F9_r2 .ret) .skip)) (.seq F9_r3 (.seq F9_r4 (.seq (.seq F9_r5 (.seq F9_r6 (.cond (.tmp 44) (.seq F9_r7 .ret) .skip))) (.seq (.block 0 (.seq F9_r8 (.cond (.tmp 45) (.seq F9_r9 .ret) (.seq F9_r10 (.cond (.tmp 52) (.seq F9_r11 .ret) .skip))))) (.seq F9_r12 (.seq F9_r13 .ret))))))))
noncomputable def F9_inf : Nat → RI
  | 0 => ⟨[0, 3, 4, 6, 7], [], []⟩
  | 1 => ⟨[0, 3, 4, 6, 7, 15], [], []⟩
  | 2 => ⟨[10], [], []⟩
  | 3 => ⟨[0, 3, 4, 6, 7], [], []⟩
  | 4 => ⟨[0, 6, 11], [0, 0, 0, 0, 0, 16, 48, 112, 0, 256, 768, 1792, 3840, 8191, 0, 32767], [(0, []), (1, []), (2, []), (3, []), (4, []), (5, []), (6, []), (7, []), (8, []), (9, []), (10, []), (11, []), (12, []), (13, []), (14, []), (15, [])]⟩
  | 5 => ⟨[0, 6, 11, 13], [0, 1, 3, 7, 0, 16, 63, 127, 255, 255, 0, 1535, 4095], [(0, []), (1, []), (2, []), (3, []), (4, []), (5, []), (10, []), (6, []), (7, []), (8, []), (9, []), (11, []), (12, [])]⟩
  | 6 => ⟨[0, 6, 11, 44], [], []⟩
  | 7 => ⟨[10], [], []⟩
  | 8 => ⟨[0, 6, 11, 45], [], []⟩
  | 9 => ⟨[10], [], []⟩
  | 10 => ⟨[0, 6, 11, 52], [], []⟩
  | 11 => ⟨[10], [], []⟩
  | 12 => ⟨[0, 6, 11], [], []⟩
  | 13 => ⟨[10], [0, 1, 3, 7, 0, 16, 0, 127, 255], [(0, []), (1, []), (2, []), (3, []), (4, []), (5, []), (6, []), (7, []), (8, [])]⟩
  | _ => ⟨[], [], []⟩
noncomputable def F9_c : Code := Try.f9.body.getD .skip
theorem F9_b : Try.f9.body = some F9_c := by kernel_rfl
theorem F9_rs : Try.f9.results.toList = ([.tmp 10] : List ResultVar) := by kernel_rfl
theorem F9_n : Try.f9.ntmps = 71 := by kernel_rfl
theorem F9_ok : toCC [] 71 F9_inf F9_c = some F9 := by kernel_rfl
theorem F9_in {args : List AV} {G : Hp} {post : AV → Hp → Prop} (ha : args.all AV.plain = true) (hn : args.length ≤ 71) (h : BDs args → awp Try.prog [] F9 (AEnds Try.prog [.tmp 10] post) (initT args) G) : ACalls Try.prog 9 args G post :=
  acalls_cc Try.func9 F9_b F9_rs F9_n F9_ok mixed ha hn h

/- 10 ostiary/ostiarylaw26.Ours -/
@[simp] noncomputable def F10_r0 : CC := .reg [⟨some 1, none, (.box 34 (.tmp 0))⟩,
  ⟨some 2, none, (.alloc 44)⟩] [1, 2]
@[simp] noncomputable def F10_r1 : CC := .reg [⟨some 3, none, (.fieldAddr 34 (.tmp 1) 0)⟩,
  ⟨some 4, none, (.load 22 (.tmp 3))⟩,
  ⟨some 5, none, (.fieldAddr 34 (.tmp 1) 1)⟩,
  ⟨some 6, none, (.load 22 (.tmp 5))⟩,
  ⟨some 7, none, (.fieldAddr 34 (.tmp 1) 2)⟩,
  ⟨some 8, none, (.load 27 (.tmp 7))⟩,
  ⟨some 9, none, (.fieldAddr 34 (.tmp 1) 3)⟩,
  ⟨some 10, none, (.load 29 (.tmp 9))⟩,
  ⟨some 11, none, (.fieldAddr 34 (.tmp 1) 4)⟩,
  ⟨some 12, none, (.load 29 (.tmp 11))⟩,
  ⟨some 13, none, (.fieldAddr 34 (.tmp 1) 5)⟩,
  ⟨some 14, none, (.fieldAddr 31 (.tmp 13) 0)⟩,
  ⟨some 15, none, (.load 9 (.tmp 14))⟩,
  ⟨some 16, none, (.fieldAddr 34 (.tmp 1) 5)⟩,
  ⟨some 17, none, (.fieldAddr 31 (.tmp 16) 1)⟩,
  ⟨some 18, none, (.load 9 (.tmp 17))⟩,
  ⟨some 19, none, (.build 42 #[(0, (.tmp 15)), (1, (.tmp 18))])⟩,
  ⟨some 20, none, (.fieldAddr 34 (.tmp 1) 6)⟩,
  ⟨some 21, none, (.fieldAddr 31 (.tmp 20) 0)⟩,
  ⟨some 22, none, (.load 9 (.tmp 21))⟩,
  ⟨some 23, none, (.fieldAddr 34 (.tmp 1) 6)⟩,
  ⟨some 24, none, (.fieldAddr 31 (.tmp 23) 1)⟩,
  ⟨some 25, none, (.load 9 (.tmp 24))⟩,
  ⟨some 26, none, (.build 42 #[(0, (.tmp 22)), (1, (.tmp 25))])⟩,
  ⟨some 27, none, (.fieldAddr 34 (.tmp 1) 7)⟩,
  ⟨some 28, none, (.load 3 (.tmp 27))⟩,
  ⟨some 29, none, (.fieldAddr 34 (.tmp 1) 8)⟩,
  ⟨some 30, none, (.load 3 (.tmp 29))⟩,
  ⟨some 31, none, (.fieldAddr 34 (.tmp 1) 9)⟩,
  ⟨some 32, none, (.load 32 (.tmp 31))⟩,
  ⟨some 33, none, (.build 44 #[(0, (.tmp 4)), (1, (.tmp 6)), (2, (.tmp 8)), (3, (.tmp 10)), (4, (.tmp 12)), (5, (.tmp 19)), (6, (.tmp 26)), (7, (.tmp 28)), (8, (.tmp 30)), (9, (.tmp 32))])⟩,
  ⟨none, none, (.store 44 (.tmp 2) (.tmp 33))⟩] [2]
noncomputable def F10 : CC := (.seq F10_r0 (.seq F10_r1 .ret))
noncomputable def F10_inf : Nat → RI
  | 0 => ⟨[1, 2], [], []⟩
  | 1 => ⟨[2], [], []⟩
  | _ => ⟨[], [], []⟩
noncomputable def F10_c : Code := Try.f10.body.getD .skip
theorem F10_b : Try.f10.body = some F10_c := by kernel_rfl
theorem F10_rs : Try.f10.results.toList = ([.cell 2 44] : List ResultVar) := by kernel_rfl
theorem F10_n : Try.f10.ntmps = 34 := by kernel_rfl
theorem F10_ok : toCC [] 34 F10_inf F10_c = some F10 := by kernel_rfl
theorem F10_in {args : List AV} {G : Hp} {post : AV → Hp → Prop} (ha : args.all AV.plain = true) (hn : args.length ≤ 34) (h : BDs args → awp Try.prog [] F10 (AEnds Try.prog [.cell 2 44] post) (initT args) G) : ACalls Try.prog 10 args G post :=
  acalls_cc Try.func10 F10_b F10_rs F10_n F10_ok mixed ha hn h

/- 11 (*ostiary/plan.Plans).Waiting -/
@[simp] noncomputable def F11_r0 : CC := .reg [⟨some 2, none, (.assign (.const (.slice none 0 0)))⟩] [0]
@[simp] noncomputable def F11_r1 : CC := .reg [⟨some 3, none, (.move (.tmp 0))⟩,
  ⟨some 4, none, (.binOp .eql 38 (.tmp 3) (.const (.pointer none)) 38)⟩] [0, 4]
@[simp] noncomputable def F11_r2 : CC := .reg [⟨some 2, none, (.assign (.const (.slice none 0 0)))⟩] [2]
@[simp] noncomputable def F11_r3 : CC := .reg [⟨some 5, none, (.move (.tmp 0))⟩,
  ⟨some 6, none, (.nilCheck (.tmp 5))⟩,
  ⟨some 7, none, (.fieldAddr 74 (.tmp 6) 0)⟩,
  ⟨some 8, none, (.load 69 (.tmp 7))⟩,
  ⟨some 9, none, (.call { callee := (.value (.func 26)), args := #[(.tmp 8)], argTypes := #[69] })⟩,
  ⟨some 2, none, (.assign (.tmp 9))⟩] [2]
noncomputable def F11 : CC := (.seq F11_r0 (.seq (.seq F11_r1 (.cond (.tmp 4) (.seq F11_r2 .ret) .skip)) (.seq F11_r3 .ret)))
noncomputable def F11_inf : Nat → RI
  | 0 => ⟨[0], [], []⟩
  | 1 => ⟨[0, 4], [], []⟩
  | 2 => ⟨[2], [], []⟩
  | 3 => ⟨[2], [], []⟩
  | _ => ⟨[], [], []⟩
noncomputable def F11_c : Code := Try.f11.body.getD .skip
theorem F11_b : Try.f11.body = some F11_c := by kernel_rfl
theorem F11_rs : Try.f11.results.toList = ([.tmp 2] : List ResultVar) := by kernel_rfl
theorem F11_n : Try.f11.ntmps = 10 := by kernel_rfl
theorem F11_ok : toCC [] 10 F11_inf F11_c = some F11 := by kernel_rfl
theorem F11_in {args : List AV} {G : Hp} {post : AV → Hp → Prop} (ha : args.all AV.plain = true) (hn : args.length ≤ 10) (h : BDs args → awp Try.prog [] F11 (AEnds Try.prog [.tmp 2] post) (initT args) G) : ACalls Try.prog 11 args G post :=
  acalls_cc Try.func11 F11_b F11_rs F11_n F11_ok mixed ha hn h

/- 12 ostiary/ostiarylaw27.awake -/
@[simp] noncomputable def F12_r0 : CC := .reg [⟨some 0, none, (.assign (.const (.bool false)))⟩] []
@[simp] noncomputable def F12_r1 : CC := .reg [⟨some 7, none, (.call { callee := (.value (.func 8)), args := #[(.const (.int .i64 5))], argTypes := #[2] })⟩,
  ⟨some 1, none, (.assign (.tmp 7))⟩] [1]
@[simp] noncomputable def F12_r2 : CC := .reg [⟨some 8, none, (.move (.tmp 1))⟩,
  ⟨some 9, none, (.call { callee := (.value (.func 27)), args := #[], argTypes := #[] })⟩,
  ⟨some 10, none, (.build 56 #[(0, (.const (.int .i64 1))), (1, (.const (.int .i64 1))), (2, (.const (.int .i64 2)))])⟩,
  ⟨some 11, none, (.build 56 #[(0, (.const (.int .i64 2))), (1, (.const (.int .i64 1))), (2, (.const (.int .i64 3)))])⟩,
  ⟨some 12, none, (.buildSlice 32 2 #[(0, (.tmp 10)), (1, (.tmp 11))])⟩,
  ⟨some 13, none, (.build 44 #[(0, (.const (.int .u32 7))), (1, (.const (.int .u32 2))), (2, (.tmp 9)), (9, (.tmp 12))])⟩,
  ⟨some 14, none, (.build 46 #[])⟩,
  ⟨some 15, none, (.call { callee := (.value (.func 9)), args := #[(.tmp 8), (.tmp 13), (.tmp 14), (.const (.int .i64 0)), (.const (.int .i64 0))], argTypes := #[38, 44, 46, 3, 3] })⟩,
  ⟨some 2, none, (.assign (.tmp 15))⟩] [1, 2]
@[simp] noncomputable def F12_r3 : CC := .reg [⟨some 16, none, (.move (.tmp 1))⟩,
  ⟨some 17, none, (.call { callee := (.value (.func 13)), args := #[(.tmp 16), (.const (.int .i64 0))], argTypes := #[38, 2] })⟩,
  ⟨some 3, none, (.assign (.tmp 17))⟩] [1, 2, 3]
@[simp] noncomputable def F12_r4 : CC := .reg [⟨some 18, none, (.move (.tmp 2))⟩,
  ⟨some 19, none, (.binOp .neq 40 (.tmp 18) (.const (.int .i64 0)) 40)⟩,
  ⟨some 20, none, (.move (.tmp 19))⟩,
  ⟨some 21, some (20, false), (.move (.tmp 3))⟩,
  ⟨some 22, some (20, false), (.call { callee := (.builtin .len), args := #[(.tmp 21)], argTypes := #[50] })⟩,
  ⟨some 23, some (20, false), (.binOp .neq 3 (.tmp 22) (.const (.int .i64 1)) 3)⟩,
  ⟨some 24, none, (.pick (.tmp 20) (.const (.bool true)) (.tmp 23))⟩,
  ⟨some 25, none, (.move (.tmp 24))⟩,
  ⟨some 26, some (25, false), (.move (.tmp 3))⟩,
  ⟨some 27, some (25, false), (.indexAddr 50 (.tmp 26) (.const (.int .i64 0)))⟩,
  ⟨some 28, some (25, false), (.fieldAddr 54 (.tmp 27) 1)⟩,
  ⟨some 29, some (25, false), (.load 3 (.tmp 28))⟩,
  ⟨some 30, some (25, false), (.binOp .neq 3 (.tmp 29) (.const (.int .i64 2)) 3)⟩,
  ⟨some 31, none, (.pick (.tmp 25) (.const (.bool true)) (.tmp 30))⟩,
  ⟨some 32, none, (.move (.tmp 31))⟩,
  ⟨some 33, some (32, false), (.move (.tmp 3))⟩,
  ⟨some 34, some (32, false), (.indexAddr 50 (.tmp 33) (.const (.int .i64 0)))⟩,
  ⟨some 35, some (32, false), (.fieldAddr 54 (.tmp 34) 9)⟩,
  ⟨some 36, some (32, false), (.load 4 (.tmp 35))⟩,
  ⟨some 37, some (32, false), (.unOp .not 4 (.tmp 36))⟩,
  ⟨some 38, none, (.pick (.tmp 32) (.const (.bool true)) (.tmp 37))⟩,
  ⟨some 39, none, (.move (.tmp 38))⟩,
  ⟨some 40, some (39, false), (.move (.tmp 3))⟩,
  ⟨some 41, some (39, false), (.indexAddr 50 (.tmp 40) (.const (.int .i64 0)))⟩,
  ⟨some 42, some (39, false), (.fieldAddr 54 (.tmp 41) 8)⟩,
  ⟨some 43, some (39, false), (.load 4 (.tmp 42))⟩,
  ⟨some 44, none, (.pick (.tmp 39) (.const (.bool true)) (.tmp 43))⟩] [1, 3, 44]
@[simp] noncomputable def F12_r5 : CC := .reg [⟨some 0, none, (.assign (.const (.bool false)))⟩] [0]
@[simp] noncomputable def F12_r6 : CC := .reg [⟨some 46, none, (.move (.tmp 1))⟩,
  ⟨some 47, none, (.move (.tmp 3))⟩,
  ⟨some 48, none, (.indexAddr 50 (.tmp 47) (.const (.int .i64 0)))⟩,
  ⟨some 49, none, (.fieldAddr 54 (.tmp 48) 4)⟩,
  ⟨some 50, none, (.load 22 (.tmp 49))⟩,
  ⟨some 51, none, (.call { callee := (.value (.func 14)), args := #[(.tmp 46), (.const (.int .i64 2)), (.const (.int .u32 0)), (.const (.int .u32 2)), (.tmp 50)], argTypes := #[38, 3, 22, 22, 22] })⟩,
  ⟨some 45, none, (.move (.tmp 51))⟩,
  ⟨some 52, none, (.extract (.tmp 45) 0)⟩,
  ⟨some 53, none, (.extract (.tmp 45) 1)⟩,
  ⟨some 4, none, (.assign (.tmp 52))⟩,
  ⟨some 5, none, (.assign (.tmp 53))⟩] [1, 4, 5]
@[simp] noncomputable def F12_r7 : CC := .reg [⟨some 54, none, (.move (.tmp 1))⟩,
  ⟨some 55, none, (.call { callee := (.value (.func 13)), args := #[(.tmp 54), (.const (.int .i64 1))], argTypes := #[38, 2] })⟩,
  ⟨some 6, none, (.assign (.tmp 55))⟩] [1, 4, 5, 6]
@[simp] noncomputable def F12_r8 : CC := .reg [⟨some 56, none, (.move (.tmp 4))⟩,
  ⟨some 57, none, (.binOp .neq 22 (.tmp 56) (.const (.int .u32 7)) 22)⟩,
  ⟨some 58, none, (.move (.tmp 57))⟩,
  ⟨some 59, some (58, false), (.move (.tmp 5))⟩,
  ⟨some 60, none, (.pick (.tmp 58) (.const (.bool true)) (.tmp 59))⟩,
  ⟨some 61, none, (.move (.tmp 60))⟩,
  ⟨some 62, some (61, false), (.move (.tmp 6))⟩,
  ⟨some 63, some (61, false), (.call { callee := (.builtin .len), args := #[(.tmp 62)], argTypes := #[50] })⟩,
  ⟨some 64, some (61, false), (.binOp .neq 3 (.tmp 63) (.const (.int .i64 1)) 3)⟩,
  ⟨some 65, none, (.pick (.tmp 61) (.const (.bool true)) (.tmp 64))⟩,
  ⟨some 66, none, (.move (.tmp 65))⟩,
  ⟨some 67, some (66, false), (.move (.tmp 6))⟩,
  ⟨some 68, some (66, false), (.indexAddr 50 (.tmp 67) (.const (.int .i64 0)))⟩,
  ⟨some 69, some (66, false), (.fieldAddr 54 (.tmp 68) 1)⟩,
  ⟨some 70, some (66, false), (.load 3 (.tmp 69))⟩,
  ⟨some 71, some (66, false), (.binOp .neq 3 (.tmp 70) (.const (.int .i64 1)) 3)⟩,
  ⟨some 72, none, (.pick (.tmp 66) (.const (.bool true)) (.tmp 71))⟩,
  ⟨some 73, none, (.move (.tmp 72))⟩,
  ⟨some 74, some (73, false), (.move (.tmp 6))⟩,
  ⟨some 75, some (73, false), (.indexAddr 50 (.tmp 74) (.const (.int .i64 0)))⟩,
  ⟨some 76, some (73, false), (.fieldAddr 54 (.tmp 75) 8)⟩,
  ⟨some 77, some (73, false), (.load 4 (.tmp 76))⟩,
  ⟨some 78, some (73, false), (.unOp .not 4 (.tmp 77))⟩,
  ⟨some 79, none, (.pick (.tmp 73) (.const (.bool true)) (.tmp 78))⟩] [1, 6, 79]
@[simp] noncomputable def F12_r9 : CC := .reg [⟨some 0, none, (.assign (.const (.bool false)))⟩] [0]
@[simp] noncomputable def F12_r10 : CC := .reg [⟨some 81, none, (.move (.tmp 1))⟩,
  ⟨some 82, none, (.move (.tmp 6))⟩,
  ⟨some 83, none, (.indexAddr 50 (.tmp 82) (.const (.int .i64 0)))⟩,
  ⟨some 84, none, (.fieldAddr 54 (.tmp 83) 4)⟩,
  ⟨some 85, none, (.load 22 (.tmp 84))⟩,
  ⟨some 86, none, (.call { callee := (.value (.func 14)), args := #[(.tmp 81), (.const (.int .i64 1)), (.const (.int .u32 0)), (.const (.int .u32 2)), (.tmp 85)], argTypes := #[38, 3, 22, 22, 22] })⟩,
  ⟨some 80, none, (.move (.tmp 86))⟩,
  ⟨some 87, none, (.extract (.tmp 80) 0)⟩,
  ⟨some 88, none, (.extract (.tmp 80) 1)⟩,
  ⟨some 4, none, (.assign (.tmp 87))⟩,
  ⟨some 5, none, (.assign (.tmp 88))⟩] [1, 4, 5]
@[simp] noncomputable def F12_r11 : CC := .reg [⟨some 89, none, (.move (.tmp 4))⟩,
  ⟨some 90, none, (.binOp .eql 22 (.tmp 89) (.const (.int .u32 7)) 22)⟩,
  ⟨some 91, none, (.move (.tmp 90))⟩,
  ⟨some 92, some (91, true), (.move (.tmp 5))⟩,
  ⟨some 93, none, (.pick (.tmp 91) (.tmp 92) (.const (.bool false)))⟩,
  ⟨some 94, none, (.move (.tmp 93))⟩,
  ⟨some 95, some (94, true), (.move (.tmp 1))⟩,
  ⟨some 96, some (94, true), (.call { callee := (.value (.func 11)), args := #[(.tmp 95)], argTypes := #[38] })⟩,
  ⟨some 97, some (94, true), (.call { callee := (.builtin .len), args := #[(.tmp 96)], argTypes := #[47] })⟩,
  ⟨some 98, some (94, true), (.binOp .eql 3 (.tmp 97) (.const (.int .i64 0)) 3)⟩,
  ⟨some 99, none, (.pick (.tmp 94) (.tmp 98) (.const (.bool false)))⟩,
  ⟨some 0, none, (.assign (.tmp 99))⟩] [0]
noncomputable def F12 : CC := (.seq F12_r0 (.seq F12_r1 (.seq F12_r2 (.seq F12_r3 (.seq (.seq F12_r4 (.cond (.tmp 44) (.seq F12_r5 .ret) .skip)) (.seq F12_r6 (.seq F12_r7 (.seq (.seq F12_r8 (.cond (.tmp 79) (.seq F12_r9 .ret) .skip)) (.seq F12_r10 (.seq F12_r11 .ret))))))))))
noncomputable def F12_inf : Nat → RI
  | 0 => ⟨[], [], []⟩
  | 1 => ⟨[1], [], []⟩
  | 2 => ⟨[1, 2], [], []⟩
  | 3 => ⟨[1, 2, 3], [], []⟩
  | 4 => ⟨[1, 3, 44], [], []⟩
  | 5 => ⟨[0], [], []⟩
  | 6 => ⟨[1, 4, 5], [], []⟩
  | 7 => ⟨[1, 4, 5, 6], [], []⟩
  | 8 => ⟨[1, 6, 79], [], []⟩
  | 9 => ⟨[0], [], []⟩
  | 10 => ⟨[1, 4, 5], [], []⟩
  | 11 => ⟨[0], [], []⟩
  | _ => ⟨[], [], []⟩
noncomputable def F12_c : Code := Try.f12.body.getD .skip
theorem F12_b : Try.f12.body = some F12_c := by kernel_rfl
theorem F12_rs : Try.f12.results.toList = ([.tmp 0] : List ResultVar) := by kernel_rfl
theorem F12_n : Try.f12.ntmps = 100 := by kernel_rfl
theorem F12_ok : toCC [] 100 F12_inf F12_c = some F12 := by kernel_rfl
theorem F12_in {args : List AV} {G : Hp} {post : AV → Hp → Prop} (ha : args.all AV.plain = true) (hn : args.length ≤ 100) (h : BDs args → awp Try.prog [] F12 (AEnds Try.prog [.tmp 0] post) (initT args) G) : ACalls Try.prog 12 args G post :=
  acalls_cc Try.func12 F12_b F12_rs F12_n F12_ok mixed ha hn h

/- 13 (*ostiary/plan.Plans).Next -/
@[simp] noncomputable def F13_r0 : CC := .reg [⟨some 4, none, (.assign (.const (.slice none 0 0)))⟩] [0, 1]
@[simp] noncomputable def F13_r1 : CC := .reg [⟨some 10, none, (.move (.tmp 0))⟩,
  ⟨some 11, none, (.binOp .eql 38 (.tmp 10) (.const (.pointer none)) 38)⟩] [0, 1, 11]
@[simp] noncomputable def F13_r2 : CC := .reg [⟨some 4, none, (.assign (.const (.slice none 0 0)))⟩] [4]
@[simp] noncomputable def F13_r3 : CC := .reg [⟨some 5, none, (.assign (.const (.slice none 0 0)))⟩] [0, 1, 5]
@[simp] noncomputable def F13_r4 : CC := .reg [⟨some 12, none, (.move (.tmp 0))⟩,
  ⟨some 13, none, (.nilCheck (.tmp 12))⟩,
  ⟨some 14, none, (.fieldAddr 74 (.tmp 13) 0)⟩,
  ⟨some 15, none, (.load 69 (.tmp 14))⟩,
  ⟨some 16, none, (.call { callee := (.value (.func 26)), args := #[(.tmp 15)], argTypes := #[69] })⟩,
  ⟨some 17, none, (.call { callee := (.builtin .len), args := #[(.tmp 16)], argTypes := #[47] })⟩,
  ⟨some 18, none, (.move (.const (.int .i64 0)))⟩] [0, 1, 5, 16, 17, 18]
@[simp] noncomputable def F13_r5 : CC := .reg [⟨some 19, none, (.binOp .lss 3 (.tmp 18) (.tmp 17) 3)⟩] [0, 1, 5, 16, 17, 18, 19]
@[simp] noncomputable def F13_r6 : CC := .reg [⟨some 20, none, (.indexAddr 47 (.tmp 16) (.tmp 18))⟩,
  ⟨some 21, none, (.load 22 (.tmp 20))⟩,
  ⟨some 7, none, (.assign (.tmp 21))⟩] [0, 1, 5, 7, 16, 17, 18]
@[simp] noncomputable def F13_r7 : CC := .reg [⟨some 23, none, (.move (.tmp 0))⟩,
  ⟨some 24, none, (.nilCheck (.tmp 23))⟩,
  ⟨some 25, none, (.fieldAddr 74 (.tmp 24) 0)⟩,
  ⟨some 26, none, (.load 69 (.tmp 25))⟩,
  ⟨some 27, none, (.move (.tmp 7))⟩,
  ⟨some 28, none, (.call { callee := (.value (.func 22)), args := #[(.tmp 26), (.tmp 27)], argTypes := #[69, 22] })⟩,
  ⟨some 22, none, (.move (.tmp 28))⟩,
  ⟨some 29, none, (.extract (.tmp 22) 0)⟩,
  ⟨some 30, none, (.extract (.tmp 22) 1)⟩,
  ⟨some 8, none, (.alloc 72)⟩,
  ⟨none, none, (.store 72 (.tmp 8) (.tmp 29))⟩,
  ⟨some 9, none, (.assign (.tmp 30))⟩] [0, 1, 5, 7, 8, 16, 17, 18]
@[simp] noncomputable def F13_r8 : CC := .drw [⟨0, ⟨some 31, none, (.fieldAddr 72 (.tmp 8) 6)⟩, [], []⟩,
  ⟨1, ⟨some 32, none, (.load 4 (.tmp 31))⟩, [], []⟩,
  ⟨2, ⟨some 33, none, (.move (.tmp 32))⟩, [], []⟩,
  ⟨3, ⟨some 34, some (33, true), (.move (.tmp 1))⟩, [], []⟩,
  ⟨4, ⟨some 35, some (33, true), (.fieldAddr 72 (.tmp 8) 7)⟩, [], []⟩,
  ⟨5, ⟨some 36, some (33, true), (.load 2 (.tmp 35))⟩, [], []⟩,
  ⟨6, ⟨some 37, some (33, true), (.binOp .sub 2 (.tmp 34) (.tmp 36) 2)⟩, [], []⟩,
  ⟨7, ⟨some 38, some (33, true), (.move (.tmp 0))⟩, [], []⟩,
  ⟨8, ⟨some 39, some (33, true), (.nilCheck (.tmp 38))⟩, [], []⟩,
  ⟨9, ⟨some 40, some (33, true), (.fieldAddr 74 (.tmp 39) 1)⟩, [], []⟩,
  ⟨10, ⟨some 41, some (33, true), (.load 2 (.tmp 40))⟩, [], []⟩,
  ⟨11, ⟨some 42, some (33, true), (.binOp .lss 2 (.tmp 37) (.tmp 41) 2)⟩, [], []⟩,
  ⟨12, ⟨some 43, none, (.pick (.tmp 33) (.tmp 42) (.const (.bool false)))⟩, [], []⟩] [31, 32, 33, 34, 35, 36, 37, 38, 39, 40, 41, 42, 43] [0, 1, 5, 7, 8, 16, 17, 18, 43]
@[simp] noncomputable def F13_r9 : CC := .reg [⟨some 44, none, (.move (.tmp 1))⟩,
  ⟨some 45, none, (.fieldAddr 72 (.tmp 8) 6)⟩,
  ⟨none, none, (.store 4 (.tmp 45) (.const (.bool true)))⟩,
  ⟨some 46, none, (.fieldAddr 72 (.tmp 8) 7)⟩,
  ⟨none, none, (.store 2 (.tmp 46) (.tmp 44))⟩] [0, 1, 5, 7, 8, 16, 17, 18]
@[simp] noncomputable def F13_r10 : CC := .drw [⟨0, ⟨some 47, none, (.move (.tmp 0))⟩, [], []⟩,
  ⟨1, ⟨some 48, none, (.nilCheck (.tmp 47))⟩, [], []⟩,
  ⟨2, ⟨some 49, none, (.fieldAddr 74 (.tmp 48) 0)⟩, [], []⟩,
  ⟨3, ⟨some 50, none, (.load 69 (.tmp 49))⟩, [], []⟩,
  ⟨4, ⟨some 51, none, (.move (.tmp 7))⟩, [], []⟩,
  ⟨5, ⟨some 52, none, (.load 72 (.tmp 8))⟩, [], []⟩,
  ⟨6, ⟨some 53, none, (.call { callee := (.value (.func 25)), args := #[(.tmp 50), (.tmp 51), (.tmp 52)], argTypes := #[69, 22, 72] })⟩, [], []⟩] [47, 48, 49, 50, 51, 52, 53] [0, 1, 5, 8, 16, 17, 18]
@[simp] noncomputable def F13_r11 : CC := .reg [⟨some 54, none, (.move (.tmp 5))⟩,
  ⟨some 55, none, (.load 72 (.tmp 8))⟩,
  ⟨some 56, none, (.fieldAddr 72 (.tmp 8) 4)⟩,
  ⟨some 57, none, (.load 3 (.tmp 56))⟩,
  ⟨some 58, none, (.call { callee := (.value (.func 28)), args := #[(.tmp 55), (.tmp 57)], argTypes := #[72, 3] })⟩,
  ⟨some 59, none, (.buildSlice 50 1 #[(0, (.tmp 58))])⟩,
  ⟨some 60, none, (.call { callee := (.builtin .append), args := #[(.tmp 54), (.tmp 59)], argTypes := #[50, 50] })⟩,
  ⟨some 5, none, (.assign (.tmp 60))⟩] [0, 1, 5, 16, 17, 18]
@[simp] noncomputable def F13_r12 : CC := .reg [⟨some 61, none, (.binOp .add 3 (.tmp 18) (.const (.int .i64 1)) 3)⟩,
  ⟨some 18, none, (.move (.tmp 61))⟩] [0, 1, 5, 16, 17, 18]
noncomputable def F13_l0 : CC := (.seq F13_r5 (.seq (.cond (.tmp 19) .skip (.exit 0)) (.seq (.block 1 (.seq F13_r6 (.seq F13_r7 (.seq (.seq F13_r8 (.cond (.tmp 43) (.exit 1) .skip)) (.seq F13_r9 (.seq F13_r10 F13_r11)))))) F13_r12)))
@[simp] noncomputable def F13_r13 : CC := .reg [⟨some 62, none, (.move (.tmp 5))⟩,
  ⟨some 4, none, (.assign (.tmp 62))⟩] [4]
noncomputable def F13 : CC := (.seq F13_r0 (.seq (.seq F13_r1 (.cond (.tmp 11) (.seq F13_r2 .ret) .skip)) (.seq F13_r3 (.seq (.seq F13_r4 (.block 0 (.loop F13_l0))) (.seq F13_r13 .ret)))))
noncomputable def F13_inf : Nat → RI
  | 0 => ⟨[0, 1], [], []⟩
  | 1 => ⟨[0, 1, 11], [], []⟩
  | 2 => ⟨[4], [], []⟩
  | 3 => ⟨[0, 1, 5], [], []⟩
  | 4 => ⟨[0, 1, 5, 16, 17, 18], [], []⟩
  | 5 => ⟨[0, 1, 5, 16, 17, 18, 19], [], []⟩
  | 6 => ⟨[0, 1, 5, 7, 16, 17, 18], [], []⟩
  | 7 => ⟨[0, 1, 5, 7, 8, 16, 17, 18], [], []⟩
  | 8 => ⟨[0, 1, 5, 7, 8, 16, 17, 18, 43], [0, 1, 3, 7, 7, 23, 63, 7, 135, 391, 903, 2047, 4095], [(0, []), (1, []), (2, []), (3, []), (4, []), (5, []), (6, []), (7, []), (8, []), (9, []), (10, []), (11, []), (12, [])]⟩
  | 9 => ⟨[0, 1, 5, 7, 8, 16, 17, 18], [], []⟩
  | 10 => ⟨[0, 1, 5, 8, 16, 17, 18], [0, 1, 3, 7, 0, 0, 63], [(0, []), (1, []), (2, []), (3, []), (4, []), (5, []), (6, [])]⟩
  | 11 => ⟨[0, 1, 5, 16, 17, 18], [], []⟩
  | 12 => ⟨[0, 1, 5, 16, 17, 18], [], []⟩
  | 13 => ⟨[4], [], []⟩
  | _ => ⟨[], [], []⟩
noncomputable def F13_c : Code := Try.f13.body.getD .skip
theorem F13_b : Try.f13.body = some F13_c := by kernel_rfl
theorem F13_rs : Try.f13.results.toList = ([.tmp 4] : List ResultVar) := by kernel_rfl
theorem F13_n : Try.f13.ntmps = 63 := by kernel_rfl
theorem F13_ok : toCC [] 63 F13_inf F13_c = some F13 := by kernel_rfl
theorem F13_in {args : List AV} {G : Hp} {post : AV → Hp → Prop} (ha : args.all AV.plain = true) (hn : args.length ≤ 63) (h : BDs args → awp Try.prog [] F13 (AEnds Try.prog [.tmp 4] post) (initT args) G) : ACalls Try.prog 13 args G post :=
  acalls_cc Try.func13 F13_b F13_rs F13_n F13_ok mixed ha hn h

/- 14 (*ostiary/plan.Plans).Done -/
@[simp] noncomputable def F14_r0 : CC := .reg [⟨some 10, none, (.assign (.const (.int .u32 0)))⟩,
  ⟨some 11, none, (.assign (.const (.bool false)))⟩] [0, 1, 2, 3, 4]
@[simp] noncomputable def F14_r1 : CC := .reg [⟨some 17, none, (.move (.tmp 0))⟩,
  ⟨some 18, none, (.binOp .eql 38 (.tmp 17) (.const (.pointer none)) 38)⟩] [0, 1, 2, 3, 4, 18]
@[simp] noncomputable def F14_r2 : CC := .reg [⟨some 10, none, (.assign (.const (.int .u32 0)))⟩,
  ⟨some 11, none, (.assign (.const (.bool false)))⟩] [10, 11]
@[simp] noncomputable def F14_r3 : CC := .reg [⟨some 19, none, (.move (.tmp 0))⟩,
  ⟨some 20, none, (.nilCheck (.tmp 19))⟩,
  ⟨some 21, none, (.fieldAddr 74 (.tmp 20) 0)⟩,
  ⟨some 22, none, (.load 69 (.tmp 21))⟩,
  ⟨some 23, none, (.call { callee := (.value (.func 26)), args := #[(.tmp 22)], argTypes := #[69] })⟩,
  ⟨some 24, none, (.call { callee := (.builtin .len), args := #[(.tmp 23)], argTypes := #[47] })⟩,
  ⟨some 25, none, (.move (.const (.int .i64 0)))⟩] [0, 1, 2, 3, 4, 23, 24, 25]
@[simp] noncomputable def F14_r4 : CC := .reg [⟨some 26, none, (.binOp .lss 3 (.tmp 25) (.tmp 24) 3)⟩] [0, 1, 2, 3, 4, 23, 24, 25, 26]
@[simp] noncomputable def F14_r5 : CC := .reg [⟨some 27, none, (.indexAddr 47 (.tmp 23) (.tmp 25))⟩,
  ⟨some 28, none, (.load 22 (.tmp 27))⟩,
  ⟨some 13, none, (.assign (.tmp 28))⟩] [0, 1, 2, 3, 4, 13, 23, 24, 25]
@[simp] noncomputable def F14_r6 : CC := .reg [⟨some 30, none, (.move (.tmp 0))⟩,
  ⟨some 31, none, (.nilCheck (.tmp 30))⟩,
  ⟨some 32, none, (.fieldAddr 74 (.tmp 31) 0)⟩,
  ⟨some 33, none, (.load 69 (.tmp 32))⟩,
  ⟨some 34, none, (.move (.tmp 13))⟩,
  ⟨some 35, none, (.call { callee := (.value (.func 22)), args := #[(.tmp 33), (.tmp 34)], argTypes := #[69, 22] })⟩,
  ⟨some 29, none, (.move (.tmp 35))⟩,
  ⟨some 36, none, (.extract (.tmp 29) 0)⟩,
  ⟨some 37, none, (.extract (.tmp 29) 1)⟩,
  ⟨some 14, none, (.alloc 72)⟩,
  ⟨none, none, (.store 72 (.tmp 14) (.tmp 36))⟩,
  ⟨some 15, none, (.assign (.tmp 37))⟩] [0, 1, 2, 3, 4, 13, 14, 23, 24, 25]
@[simp] noncomputable def F14_r7 : CC := .reg [⟨some 38, none, (.load 72 (.tmp 14))⟩,
  ⟨some 39, none, (.fieldAddr 72 (.tmp 14) 4)⟩,
  ⟨some 40, none, (.load 3 (.tmp 39))⟩,
  ⟨some 41, none, (.call { callee := (.value (.func 28)), args := #[(.tmp 38), (.tmp 40)], argTypes := #[72, 3] })⟩,
  ⟨some 16, none, (.alloc 54)⟩,
  ⟨none, none, (.store 54 (.tmp 16) (.tmp 41))⟩] [0, 1, 2, 3, 4, 13, 14, 16, 23, 24, 25]
@[simp] noncomputable def F14_r8 : CC := .reg [⟨some 42, none, (.fieldAddr 72 (.tmp 14) 6)⟩,
  ⟨some 43, none, (.load 4 (.tmp 42))⟩,
  ⟨some 44, none, (.unOp .not 4 (.tmp 43))⟩,
  ⟨some 45, none, (.move (.tmp 44))⟩,
  ⟨some 46, some (45, false), (.fieldAddr 54 (.tmp 16) 1)⟩,
  ⟨some 47, some (45, false), (.load 3 (.tmp 46))⟩,
  ⟨some 48, some (45, false), (.move (.tmp 1))⟩,
  ⟨some 49, some (45, false), (.binOp .neq 3 (.tmp 47) (.tmp 48) 3)⟩,
  ⟨some 50, none, (.pick (.tmp 45) (.const (.bool true)) (.tmp 49))⟩,
  ⟨some 51, none, (.move (.tmp 50))⟩,
  ⟨some 52, some (51, false), (.fieldAddr 54 (.tmp 16) 2)⟩,
  ⟨some 53, some (51, false), (.load 22 (.tmp 52))⟩,
  ⟨some 54, some (51, false), (.move (.tmp 2))⟩,
  ⟨some 55, some (51, false), (.binOp .neq 22 (.tmp 53) (.tmp 54) 22)⟩,
  ⟨some 56, none, (.pick (.tmp 51) (.const (.bool true)) (.tmp 55))⟩,
  ⟨some 57, none, (.move (.tmp 56))⟩,
  ⟨some 58, some (57, false), (.fieldAddr 54 (.tmp 16) 3)⟩,
  ⟨some 59, some (57, false), (.load 22 (.tmp 58))⟩,
  ⟨some 60, some (57, false), (.move (.tmp 3))⟩,
  ⟨some 61, some (57, false), (.binOp .neq 22 (.tmp 59) (.tmp 60) 22)⟩,
  ⟨some 62, none, (.pick (.tmp 57) (.const (.bool true)) (.tmp 61))⟩,
  ⟨some 63, none, (.move (.tmp 62))⟩,
  ⟨some 64, some (63, false), (.fieldAddr 54 (.tmp 16) 4)⟩,
  ⟨some 65, some (63, false), (.load 22 (.tmp 64))⟩,
  ⟨some 66, some (63, false), (.move (.tmp 4))⟩,
  ⟨some 67, some (63, false), (.binOp .neq 22 (.tmp 65) (.tmp 66) 22)⟩,
  ⟨some 68, none, (.pick (.tmp 63) (.const (.bool true)) (.tmp 67))⟩] [0, 1, 2, 3, 4, 13, 14, 23, 24, 25, 68]
@[simp] noncomputable def F14_r9 : CC := .reg [⟨some 69, none, (.fieldAddr 72 (.tmp 14) 4)⟩,
  ⟨some 70, none, (.load 3 (.tmp 69))⟩,
  ⟨some 71, none, (.binOp .eql 3 (.tmp 70) (.const (.int .i64 0)) 3)⟩] [0, 13, 14, 71]
@[simp] noncomputable def F14_r10 : CC := .reg [⟨some 72, none, (.move (.tmp 0))⟩,
  ⟨some 73, none, (.nilCheck (.tmp 72))⟩,
  ⟨some 74, none, (.fieldAddr 74 (.tmp 73) 0)⟩,
  ⟨some 75, none, (.load 69 (.tmp 74))⟩,
  ⟨some 76, none, (.move (.tmp 13))⟩,
  ⟨some 77, none, (.buildSlice 47 1 #[(0, (.tmp 76))])⟩,
  ⟨some 78, none, (.call { callee := (.value (.func 29)), args := #[(.tmp 75), (.tmp 77)], argTypes := #[69, 47] })⟩] [13]
@[simp] noncomputable def F14_r11 : CC := .reg [⟨some 79, none, (.move (.tmp 13))⟩,
  ⟨some 10, none, (.assign (.tmp 79))⟩,
  ⟨some 11, none, (.assign (.const (.bool true)))⟩] [10, 11]
@[simp] noncomputable def F14_r12 : CC := .reg [⟨some 80, none, (.move (.tmp 0))⟩,
  ⟨some 81, none, (.nilCheck (.tmp 80))⟩,
  ⟨some 82, none, (.fieldAddr 74 (.tmp 81) 2)⟩,
  ⟨some 83, none, (.load 22 (.tmp 82))⟩,
  ⟨some 84, none, (.binOp .add 22 (.tmp 83) (.const (.int .u32 1)) 22)⟩,
  ⟨some 85, none, (.nilCheck (.tmp 80))⟩,
  ⟨some 86, none, (.fieldAddr 74 (.tmp 85) 2)⟩,
  ⟨none, none, (.store 22 (.tmp 86) (.tmp 84))⟩] [0, 13, 14]
@[simp] noncomputable def F14_r13 : CC := .drw [⟨0, ⟨some 87, none, (.fieldAddr 72 (.tmp 14) 4)⟩, [], []⟩,
  ⟨1, ⟨some 88, none, (.load 3 (.tmp 87))⟩, [], []⟩,
  ⟨2, ⟨some 89, none, (.binOp .sub 3 (.tmp 88) (.const (.int .i64 1)) 3)⟩, [], []⟩,
  ⟨3, ⟨some 90, none, (.move (.tmp 0))⟩, [], []⟩,
  ⟨4, ⟨some 91, none, (.nilCheck (.tmp 90))⟩, [], []⟩,
  ⟨5, ⟨some 92, none, (.fieldAddr 74 (.tmp 91) 2)⟩, [], []⟩,
  ⟨6, ⟨some 93, none, (.load 22 (.tmp 92))⟩, [], []⟩,
  ⟨7, ⟨some 94, none, (.fieldAddr 72 (.tmp 14) 4)⟩, [], []⟩,
  ⟨8, ⟨none, none, (.store 3 (.tmp 94) (.tmp 89))⟩, [6], [⟨some 93, none, (.load 22 (.tmp 92))⟩]⟩,
  ⟨9, ⟨some 95, none, (.fieldAddr 72 (.tmp 14) 5)⟩, [], []⟩,
  ⟨10, ⟨none, none, (.store 22 (.tmp 95) (.tmp 93))⟩, [], []⟩,
  ⟨11, ⟨some 96, none, (.fieldAddr 72 (.tmp 14) 6)⟩, [], []⟩,
  ⟨12, ⟨none, none, (.store 4 (.tmp 96) (.const (.bool false)))⟩, [], []⟩] [87, 88, 89, 90, 91, 92, 93, 94, 95, 96] [0, 13, 14]
@[simp] noncomputable def F14_r14 : CC := .drw [⟨0, ⟨some 97, none, (.move (.tmp 0))⟩, [], []⟩,
  ⟨1, ⟨some 98, none, (.nilCheck (.tmp 97))⟩, [], []⟩,
  ⟨2, ⟨some 99, none, (.fieldAddr 74 (.tmp 98) 0)⟩, [], []⟩,
  ⟨3, ⟨some 100, none, (.load 69 (.tmp 99))⟩, [], []⟩,
  ⟨4, ⟨some 101, none, (.move (.tmp 13))⟩, [], []⟩,
  ⟨5, ⟨some 102, none, (.load 72 (.tmp 14))⟩, [], []⟩,
  ⟨6, ⟨some 103, none, (.call { callee := (.value (.func 25)), args := #[(.tmp 100), (.tmp 101), (.tmp 102)], argTypes := #[69, 22, 72] })⟩, [], []⟩] [97, 98, 99, 100, 101, 102, 103] [13]
@[simp] noncomputable def F14_r15 : CC := .reg [⟨some 104, none, (.move (.tmp 13))⟩,
  ⟨some 10, none, (.assign (.tmp 104))⟩,
  ⟨some 11, none, (.assign (.const (.bool false)))⟩] [10, 11]
@[simp] noncomputable def F14_r16 : CC := .reg [⟨some 105, none, (.binOp .add 3 (.tmp 25) (.const (.int .i64 1)) 3)⟩,
  ⟨some 25, none, (.move (.tmp 105))⟩] [0, 1, 2, 3, 4, 23, 24, 25]
noncomputable def F14_l0 : CC := (.seq F14_r4 (.seq (.cond (.tmp 26) .skip (.exit 0)) (.seq (.block 1 (.seq F14_r5 (.seq F14_r6 (.seq F14_r7 (.seq (.seq F14_r8 (.cond (.tmp 68) (.exit 1) .skip)) (.seq (.seq F14_r9 (.cond (.tmp 71) (.seq F14_r10 (.seq F14_r11 .ret)) .skip)) (.seq F14_r12 (.seq F14_r13 (.seq F14_r14 (.seq F14_r15 .ret)))))))))) F14_r16)))
@[simp] noncomputable def F14_r17 : CC := .reg [⟨some 10, none, (.assign (.const (.int .u32 0)))⟩,
  ⟨some 11, none, (.assign (.const (.bool false)))⟩] [10, 11]
noncomputable def F14 : CC := (.seq F14_r0 (.seq (.seq F14_r1 (.cond (.tmp 18) (.seq F14_r2 .ret) .skip)) (.seq (.seq F14_r3 (.block 0 (.loop F14_l0))) (.seq F14_r17 .ret))))
noncomputable def F14_inf : Nat → RI
  | 0 => ⟨[0, 1, 2, 3, 4], [], []⟩
  | 1 => ⟨[0, 1, 2, 3, 4, 18], [], []⟩
  | 2 => ⟨[10, 11], [], []⟩
  | 3 => ⟨[0, 1, 2, 3, 4, 23, 24, 25], [], []⟩
  | 4 => ⟨[0, 1, 2, 3, 4, 23, 24, 25, 26], [], []⟩
  | 5 => ⟨[0, 1, 2, 3, 4, 13, 23, 24, 25], [], []⟩
  | 6 => ⟨[0, 1, 2, 3, 4, 13, 14, 23, 24, 25], [], []⟩
  | 7 => ⟨[0, 1, 2, 3, 4, 13, 14, 16, 23, 24, 25], [], []⟩
  | 8 => ⟨[0, 1, 2, 3, 4, 13, 14, 23, 24, 25, 68], [], []⟩
  | 9 => ⟨[0, 13, 14, 71], [], []⟩
  | 10 => ⟨[13], [], []⟩
  | 11 => ⟨[10, 11], [], []⟩
  | 12 => ⟨[0, 13, 14], [], []⟩
  | 13 => ⟨[0, 13, 14], [0, 1, 3, 0, 8, 24, 56, 7, 135, 511, 1023, 2047, 4095], [(0, []), (1, []), (2, []), (3, []), (4, []), (5, []), (6, []), (7, []), (8, [6]), (9, []), (10, []), (11, []), (12, [])]⟩
  | 14 => ⟨[13], [0, 1, 3, 7, 0, 0, 63], [(0, []), (1, []), (2, []), (3, []), (4, []), (5, []), (6, [])]⟩
  | 15 => ⟨[10, 11], [], []⟩
  | 16 => ⟨[0, 1, 2, 3, 4, 23, 24, 25], [], []⟩
  | 17 => ⟨[10, 11], [], []⟩
  | _ => ⟨[], [], []⟩
noncomputable def F14_c : Code := Try.f14.body.getD .skip
theorem F14_b : Try.f14.body = some F14_c := by kernel_rfl
theorem F14_rs : Try.f14.results.toList = ([.tmp 10, .tmp 11] : List ResultVar) := by kernel_rfl
theorem F14_n : Try.f14.ntmps = 106 := by kernel_rfl
theorem F14_ok : toCC [] 106 F14_inf F14_c = some F14 := by kernel_rfl
theorem F14_in {args : List AV} {G : Hp} {post : AV → Hp → Prop} (ha : args.all AV.plain = true) (hn : args.length ≤ 106) (h : BDs args → awp Try.prog [] F14 (AEnds Try.prog [.tmp 10, .tmp 11] post) (initT args) G) : ACalls Try.prog 14 args G post :=
  acalls_cc Try.func14 F14_b F14_rs F14_n F14_ok mixed ha hn h
end Go.Proofs.Ytgideonigiokbaa
