import Derived.Test.YtgideonigiokbaaC0K
set_option linter.unusedVariables false
set_option linter.unusedSimpArgs false
set_option maxRecDepth 100000
namespace Go.Proofs.Ytgideonigiokbaa
open Go Go.Al

/- 39 slices.Delete[[]ostiary/shelf.slot[uint32, ostiary/plan.one],ostiary/shelf.slot[uint32, ostiary/plan.one]] -/
@[simp] noncomputable def F39_r0 : CC := .reg [⟨some 6, none, (.assign (.const (.slice none 0 0)))⟩] [0, 1, 2]
@[simp] noncomputable def F39_r1 : CC := .reg [⟨some 8, none, (.move (.tmp 0))⟩,
  ⟨some 9, none, (.move (.tmp 1))⟩,
  ⟨some 10, none, (.move (.tmp 2))⟩,
  ⟨some 11, none, (.move (.tmp 0))⟩,
  ⟨some 12, none, (.call { callee := (.builtin .len), args := #[(.tmp 11)], argTypes := #[95] })⟩,
  ⟨some 13, none, (.slice 95 (.tmp 8) (some (.tmp 9)) (some (.tmp 10)) (some (.tmp 12)))⟩] [0, 1, 2]
@[simp] noncomputable def F39_r2 : CC := .reg [⟨some 14, none, (.move (.tmp 1))⟩,
  ⟨some 15, none, (.move (.tmp 2))⟩,
  ⟨some 16, none, (.binOp .eql 3 (.tmp 14) (.tmp 15) 3)⟩] [0, 1, 2, 16]
@[simp] noncomputable def F39_r3 : CC := .reg [⟨some 17, none, (.move (.tmp 0))⟩,
  ⟨some 6, none, (.assign (.tmp 17))⟩] [6]
@[simp] noncomputable def F39_r4 : CC := .reg [⟨some 18, none, (.move (.tmp 0))⟩,
  ⟨some 19, none, (.call { callee := (.builtin .len), args := #[(.tmp 18)], argTypes := #[95] })⟩,
  ⟨some 7, none, (.assign (.tmp 19))⟩] [0, 1, 2, 7]
@[simp] noncomputable def F39_r5 : CC := .drw [⟨0, ⟨some 20, none, (.move (.tmp 0))⟩, [], []⟩,
  ⟨1, ⟨some 21, none, (.move (.tmp 1))⟩, [], []⟩,
  ⟨2, ⟨some 22, none, (.slice 95 (.tmp 20) none (some (.tmp 21)) none)⟩, [], []⟩,
  ⟨3, ⟨some 23, none, (.move (.tmp 0))⟩, [], []⟩,
  ⟨4, ⟨some 24, none, (.move (.tmp 2))⟩, [], []⟩,
  ⟨5, ⟨some 25, none, (.slice 95 (.tmp 23) (some (.tmp 24)) none none)⟩, [], []⟩,
  ⟨6, ⟨some 26, none, (.call { callee := (.builtin .append), args := #[(.tmp 22), (.tmp 25)], argTypes := #[95, 95] })⟩, [], []⟩,
  ⟨7, ⟨some 0, none, (.assign (.tmp 26))⟩, [], []⟩] [20, 21, 22, 23, 24, 25, 26, 0] [0, 7]
@[simp] noncomputable def F39_r6 : CC := .reg [⟨some 27, none, (.move (.tmp 0))⟩,
  ⟨some 28, none, (.move (.tmp 0))⟩,
  ⟨some 29, none, (.call { callee := (.builtin .len), args := #[(.tmp 28)], argTypes := #[95] })⟩,
  ⟨some 30, none, (.move (.tmp 7))⟩,
  ⟨some 31, none, (.slice 95 (.tmp 27) (some (.tmp 29)) (some (.tmp 30)) none)⟩,
  ⟨none, none, (.call { callee := (.builtin .clear), args := #[(.tmp 31)], argTypes := #[95] })⟩] [0]
@[simp] noncomputable def F39_r7 : CC := .reg [⟨some 32, none, (.move (.tmp 0))⟩,
  ⟨some 6, none, (.assign (.tmp 32))⟩] [6]
noncomputable def F39 : CC := (.seq F39_r0 (.seq F39_r1 (.seq (.seq F39_r2 (.cond (.tmp 16) (.seq F39_r3 .ret) .skip)) (.seq F39_r4 (.seq F39_r5 (.seq F39_r6 (.seq F39_r7 .ret)))))))
noncomputable def F39_inf : Nat → RI
  | 0 => ⟨[0, 1, 2], [], []⟩
  | 1 => ⟨[0, 1, 2], [], []⟩
  | 2 => ⟨[0, 1, 2, 16], [], []⟩
  | 3 => ⟨[6], [], []⟩
  | 4 => ⟨[0, 1, 2, 7], [], []⟩
  | 5 => ⟨[0, 7], [0, 0, 3, 0, 0, 24, 63, 127], [(0, []), (1, []), (2, []), (3, []), (4, []), (5, []), (6, []), (7, [])]⟩
  | 6 => ⟨[0], [], []⟩
  | 7 => ⟨[6], [], []⟩
  | _ => ⟨[], [], []⟩
noncomputable def F39_c : Code := Try.f39.body.getD .skip
theorem F39_b : Try.f39.body = some F39_c := by kernel_rfl
theorem F39_rs : Try.f39.results.toList = ([.tmp 6] : List ResultVar) := by kernel_rfl
theorem F39_n : Try.f39.ntmps = 33 := by kernel_rfl
theorem F39_ok : toCC [] 33 F39_inf F39_c = some F39 := by kernel_rfl
theorem F39_in {args : List AV} {G : Hp} {post : AV → Hp → Prop} (ha : args.all AV.plain = true) (hn : args.length ≤ 33) (h : BDs args → awp Try.prog [] F39 (AEnds Try.prog [.tmp 6] post) (initT args) G) : ACalls Try.prog 39 args G post :=
  acalls_cc Try.func39 F39_b F39_rs F39_n F39_ok mixed ha hn h

/- 40 ostiary/ostiaryref08.May -/
@[simp] noncomputable def F40_r0 : CC := .reg [⟨some 1, none, (.box 106 (.tmp 0))⟩,
  ⟨some 2, none, (.assign (.const (.bool false)))⟩] [1]
@[simp] noncomputable def F40_r1 : CC := .reg [⟨some 5, none, (.fieldAddr 106 (.tmp 1) 0)⟩,
  ⟨some 6, none, (.load 3 (.tmp 5))⟩,
  ⟨some 7, none, (.binOp .lss 3 (.tmp 6) (.const (.int .i64 1)) 3)⟩,
  ⟨some 8, none, (.move (.tmp 7))⟩,
  ⟨some 9, some (8, false), (.fieldAddr 106 (.tmp 1) 0)⟩,
  ⟨some 10, some (8, false), (.load 3 (.tmp 9))⟩,
  ⟨some 11, some (8, false), (.binOp .gtr 3 (.tmp 10) (.const (.int .i64 13)) 3)⟩,
  ⟨some 12, none, (.pick (.tmp 8) (.const (.bool true)) (.tmp 11))⟩,
  ⟨some 13, none, (.move (.tmp 12))⟩,
  ⟨some 14, some (13, false), (.fieldAddr 106 (.tmp 1) 1)⟩,
  ⟨some 15, some (13, false), (.load 3 (.tmp 14))⟩,
  ⟨some 16, some (13, false), (.binOp .lss 3 (.tmp 15) (.const (.int .i64 1)) 3)⟩,
  ⟨some 17, none, (.pick (.tmp 13) (.const (.bool true)) (.tmp 16))⟩,
  ⟨some 18, none, (.move (.tmp 17))⟩,
  ⟨some 19, some (18, false), (.fieldAddr 106 (.tmp 1) 1)⟩,
  ⟨some 20, some (18, false), (.load 3 (.tmp 19))⟩,
  ⟨some 21, some (18, false), (.binOp .gtr 3 (.tmp 20) (.const (.int .i64 8)) 3)⟩,
  ⟨some 22, none, (.pick (.tmp 18) (.const (.bool true)) (.tmp 21))⟩] [1, 22]
@[simp] noncomputable def F40_r2 : CC := .reg [⟨some 2, none, (.assign (.const (.bool false)))⟩] [2]
@[simp] noncomputable def F40_r3 : CC := .reg [⟨some 23, none, (.fieldAddr 106 (.tmp 1) 0)⟩,
  ⟨some 24, none, (.load 3 (.tmp 23))⟩,
  ⟨some 25, none, (.call { callee := (.value (.func 51)), args := #[(.tmp 24), (.const (.int .u8 119))], argTypes := #[3, 5] })⟩,
  ⟨some 3, none, (.assign (.tmp 25))⟩] [1, 3]
@[simp] noncomputable def F40_r4 : CC := .reg [⟨some 26, none, (.fieldAddr 106 (.tmp 1) 0)⟩,
  ⟨some 27, none, (.load 3 (.tmp 26))⟩,
  ⟨some 28, none, (.call { callee := (.value (.func 51)), args := #[(.tmp 27), (.const (.int .u8 101))], argTypes := #[3, 5] })⟩,
  ⟨some 29, none, (.unOp .not 4 (.tmp 28))⟩,
  ⟨some 30, none, (.move (.tmp 29))⟩,
  ⟨some 31, some (30, true), (.fieldAddr 106 (.tmp 1) 3)⟩,
  ⟨some 32, some (30, true), (.load 22 (.tmp 31))⟩,
  ⟨some 33, some (30, true), (.binOp .neq 22 (.tmp 32) (.const (.int .u32 0)) 22)⟩,
  ⟨some 34, none, (.pick (.tmp 30) (.tmp 33) (.const (.bool false)))⟩,
  ⟨some 35, none, (.move (.tmp 34))⟩,
  ⟨some 36, some (35, false), (.fieldAddr 106 (.tmp 1) 0)⟩,
  ⟨some 37, some (35, false), (.load 3 (.tmp 36))⟩,
  ⟨some 38, some (35, false), (.call { callee := (.value (.func 51)), args := #[(.tmp 37), (.const (.int .u8 115))], argTypes := #[3, 5] })⟩,
  ⟨some 39, some (35, false), (.unOp .not 4 (.tmp 38))⟩,
  ⟨some 40, some (35, false), (.move (.tmp 39))⟩,
  ⟨some 41, some (40, true), (.fieldAddr 106 (.tmp 1) 4)⟩,
  ⟨some 42, some (40, true), (.load 22 (.tmp 41))⟩,
  ⟨some 43, some (40, true), (.binOp .neq 22 (.tmp 42) (.const (.int .u32 0)) 22)⟩,
  ⟨some 44, some (35, false), (.pick (.tmp 40) (.tmp 43) (.const (.bool false)))⟩,
  ⟨some 45, none, (.pick (.tmp 35) (.const (.bool true)) (.tmp 44))⟩,
  ⟨some 46, none, (.move (.tmp 45))⟩,
  ⟨some 47, some (46, false), (.move (.tmp 3))⟩,
  ⟨some 48, some (46, false), (.unOp .not 4 (.tmp 47))⟩,
  ⟨some 49, some (46, false), (.move (.tmp 48))⟩,
  ⟨some 50, some (49, true), (.fieldAddr 106 (.tmp 1) 8)⟩,
  ⟨some 51, some (49, true), (.load 4 (.tmp 50))⟩,
  ⟨some 52, some (49, true), (.move (.tmp 51))⟩,
  ⟨some 53, some (52, false), (.fieldAddr 106 (.tmp 1) 9)⟩,
  ⟨some 54, some (52, false), (.load 4 (.tmp 53))⟩,
  ⟨some 55, some (49, true), (.pick (.tmp 52) (.const (.bool true)) (.tmp 54))⟩,
  ⟨some 56, some (46, false), (.pick (.tmp 49) (.tmp 55) (.const (.bool false)))⟩,
  ⟨some 57, none, (.pick (.tmp 46) (.const (.bool true)) (.tmp 56))⟩] [1, 3, 57]
@[simp] noncomputable def F40_r5 : CC := .reg [⟨some 2, none, (.assign (.const (.bool false)))⟩] [2]
@[simp] noncomputable def F40_r6 : CC := .drw [⟨0, ⟨some 58, none, (.fieldAddr 106 (.tmp 1) 5)⟩, [], []⟩,
  ⟨1, ⟨some 59, none, (.load 3 (.tmp 58))⟩, [], []⟩,
  ⟨2, ⟨some 60, none, (.fieldAddr 106 (.tmp 1) 0)⟩, [], []⟩,
  ⟨3, ⟨some 61, none, (.load 3 (.tmp 60))⟩, [], []⟩,
  ⟨4, ⟨some 62, none, (.call { callee := (.value (.func 51)), args := #[(.tmp 61), (.const (.int .u8 112))], argTypes := #[3, 5] })⟩, [1], [⟨some 59, none, (.load 3 (.tmp 58))⟩]⟩,
  ⟨5, ⟨some 63, none, (.call { callee := (.value (.func 52)), args := #[(.tmp 59), (.tmp 62), (.const (.int .i64 1)), (.const (.int .i64 8))], argTypes := #[3, 4, 3, 3] })⟩, [], []⟩,
  ⟨6, ⟨some 64, none, (.unOp .not 4 (.tmp 63))⟩, [], []⟩,
  ⟨7, ⟨some 65, none, (.move (.tmp 64))⟩, [], []⟩,
  ⟨8, ⟨some 66, some (65, false), (.fieldAddr 106 (.tmp 1) 6)⟩, [], []⟩,
  ⟨9, ⟨some 67, some (65, false), (.load 3 (.tmp 66))⟩, [], []⟩,
  ⟨10, ⟨some 68, some (65, false), (.fieldAddr 106 (.tmp 1) 0)⟩, [], []⟩,
  ⟨11, ⟨some 69, some (65, false), (.load 3 (.tmp 68))⟩, [], []⟩,
  ⟨12, ⟨some 70, some (65, false), (.call { callee := (.value (.func 51)), args := #[(.tmp 69), (.const (.int .u8 111))], argTypes := #[3, 5] })⟩, [9], [⟨some 67, some (65, false), (.load 3 (.tmp 66))⟩]⟩,
  ⟨13, ⟨some 71, some (65, false), (.call { callee := (.value (.func 52)), args := #[(.tmp 67), (.tmp 70), (.const (.int .i64 1)), (.const (.int .i64 8))], argTypes := #[3, 4, 3, 3] })⟩, [], []⟩,
  ⟨14, ⟨some 72, some (65, false), (.unOp .not 4 (.tmp 71))⟩, [], []⟩,
  ⟨15, ⟨some 73, none, (.pick (.tmp 65) (.const (.bool true)) (.tmp 72))⟩, [], []⟩,
  ⟨16, ⟨some 74, none, (.move (.tmp 73))⟩, [], []⟩,
  ⟨17, ⟨some 75, some (74, false), (.fieldAddr 106 (.tmp 1) 7)⟩, [], []⟩,
  ⟨18, ⟨some 76, some (74, false), (.load 3 (.tmp 75))⟩, [], []⟩,
  ⟨19, ⟨some 77, some (74, false), (.fieldAddr 106 (.tmp 1) 0)⟩, [], []⟩,
  ⟨20, ⟨some 78, some (74, false), (.load 3 (.tmp 77))⟩, [], []⟩,
  ⟨21, ⟨some 79, some (74, false), (.call { callee := (.value (.func 51)), args := #[(.tmp 78), (.const (.int .u8 98))], argTypes := #[3, 5] })⟩, [18], [⟨some 76, some (74, false), (.load 3 (.tmp 75))⟩]⟩,
  ⟨22, ⟨some 80, some (74, false), (.call { callee := (.value (.func 52)), args := #[(.tmp 76), (.tmp 79), (.const (.int .i64 0)), (.const (.int .i64 255))], argTypes := #[3, 4, 3, 3] })⟩, [], []⟩,
  ⟨23, ⟨some 81, some (74, false), (.unOp .not 4 (.tmp 80))⟩, [], []⟩,
  ⟨24, ⟨some 82, none, (.pick (.tmp 74) (.const (.bool true)) (.tmp 81))⟩, [], []⟩,
  ⟨25, ⟨some 83, none, (.move (.tmp 82))⟩, [], []⟩,
  ⟨26, ⟨some 84, some (83, false), (.fieldAddr 106 (.tmp 1) 10)⟩, [], []⟩,
  ⟨27, ⟨some 85, some (83, false), (.load 3 (.tmp 84))⟩, [], []⟩,
  ⟨28, ⟨some 86, some (83, false), (.move (.tmp 3))⟩, [], []⟩,
  ⟨29, ⟨some 87, some (83, false), (.call { callee := (.value (.func 52)), args := #[(.tmp 85), (.tmp 86), (.const (.int .i64 0)), (.const (.int .i64 65535))], argTypes := #[3, 4, 3, 3] })⟩, [], []⟩,
  ⟨30, ⟨some 88, some (83, false), (.unOp .not 4 (.tmp 87))⟩, [], []⟩,
  ⟨31, ⟨some 89, none, (.pick (.tmp 83) (.const (.bool true)) (.tmp 88))⟩, [], []⟩,
  ⟨32, ⟨some 90, none, (.move (.tmp 89))⟩, [], []⟩,
  ⟨33, ⟨some 91, some (90, false), (.fieldAddr 106 (.tmp 1) 11)⟩, [], []⟩,
  ⟨34, ⟨some 92, some (90, false), (.load 3 (.tmp 91))⟩, [], []⟩,
  ⟨35, ⟨some 93, some (90, false), (.move (.tmp 3))⟩, [], []⟩,
  ⟨36, ⟨some 94, some (90, false), (.call { callee := (.value (.func 52)), args := #[(.tmp 92), (.tmp 93), (.const (.int .i64 0)), (.const (.int .i64 65535))], argTypes := #[3, 4, 3, 3] })⟩, [], []⟩,
  ⟨37, ⟨some 95, some (90, false), (.unOp .not 4 (.tmp 94))⟩, [], []⟩,
  ⟨38, ⟨some 96, none, (.pick (.tmp 90) (.const (.bool true)) (.tmp 95))⟩, [], []⟩,
  ⟨39, ⟨some 97, none, (.move (.tmp 96))⟩, [], []⟩,
  ⟨40, ⟨some 98, some (97, false), (.fieldAddr 106 (.tmp 1) 12)⟩, [], []⟩,
  ⟨41, ⟨some 99, some (97, false), (.load 3 (.tmp 98))⟩, [], []⟩,
  ⟨42, ⟨some 100, some (97, false), (.fieldAddr 106 (.tmp 1) 0)⟩, [], []⟩,
  ⟨43, ⟨some 101, some (97, false), (.load 3 (.tmp 100))⟩, [], []⟩,
  ⟨44, ⟨some 102, some (97, false), (.call { callee := (.value (.func 51)), args := #[(.tmp 101), (.const (.int .u8 117))], argTypes := #[3, 5] })⟩, [41], [⟨some 99, some (97, false), (.load 3 (.tmp 98))⟩]⟩,
  ⟨45, ⟨some 103, some (97, false), (.call { callee := (.value (.func 52)), args := #[(.tmp 99), (.tmp 102), (.const (.int .i64 0)), (.const (.int .i64 255))], argTypes := #[3, 4, 3, 3] })⟩, [], []⟩,
  ⟨46, ⟨some 104, some (97, false), (.unOp .not 4 (.tmp 103))⟩, [], []⟩,
  ⟨47, ⟨some 105, none, (.pick (.tmp 97) (.const (.bool true)) (.tmp 104))⟩, [], []⟩] [58, 59, 60, 61, 62, 63, 64, 65, 66, 67, 68, 69, 70, 71, 72, 73, 74, 75, 76, 77, 78, 79, 80, 81, 82, 83, 84, 85, 86, 87, 88, 89, 90, 91, 92, 93, 94, 95, 96, 97, 98, 99, 100, 101, 102, 103, 104, 105] [1, 105]
@[simp] noncomputable def F40_r7 : CC := .reg [⟨some 2, none, (.assign (.const (.bool false)))⟩] [2]
@[simp] noncomputable def F40_r8 : CC := .reg [⟨some 106, none, (.fieldAddr 106 (.tmp 1) 0)⟩,
  ⟨some 107, none, (.load 3 (.tmp 106))⟩,
  ⟨some 108, none, (.call { callee := (.value (.func 51)), args := #[(.tmp 107), (.const (.int .u8 114))], argTypes := #[3, 5] })⟩,
  ⟨some 4, none, (.assign (.tmp 108))⟩] [1, 4]
@[simp] noncomputable def F40_r9 : CC := .drw [⟨0, ⟨some 109, none, (.fieldAddr 106 (.tmp 1) 13)⟩, [], []⟩,
  ⟨1, ⟨some 110, none, (.fieldAddr 29 (.tmp 109) 0)⟩, [], []⟩,
  ⟨2, ⟨some 111, none, (.load 3 (.tmp 110))⟩, [], []⟩,
  ⟨3, ⟨some 112, none, (.move (.tmp 4))⟩, [], []⟩,
  ⟨4, ⟨some 113, none, (.call { callee := (.value (.func 52)), args := #[(.tmp 111), (.tmp 112), (.const (.int .i64 1)), (.const (.int .i64 8))], argTypes := #[3, 4, 3, 3] })⟩, [], []⟩,
  ⟨5, ⟨some 114, none, (.unOp .not 4 (.tmp 113))⟩, [], []⟩,
  ⟨6, ⟨some 115, none, (.move (.tmp 114))⟩, [], []⟩,
  ⟨7, ⟨some 116, some (115, false), (.fieldAddr 106 (.tmp 1) 13)⟩, [], []⟩,
  ⟨8, ⟨some 117, some (115, false), (.fieldAddr 29 (.tmp 116) 1)⟩, [], []⟩,
  ⟨9, ⟨some 118, some (115, false), (.load 3 (.tmp 117))⟩, [], []⟩,
  ⟨10, ⟨some 119, some (115, false), (.move (.tmp 4))⟩, [], []⟩,
  ⟨11, ⟨some 120, some (115, false), (.call { callee := (.value (.func 52)), args := #[(.tmp 118), (.tmp 119), (.const (.int .i64 1)), (.const (.int .i64 8))], argTypes := #[3, 4, 3, 3] })⟩, [], []⟩,
  ⟨12, ⟨some 121, some (115, false), (.unOp .not 4 (.tmp 120))⟩, [], []⟩,
  ⟨13, ⟨some 122, none, (.pick (.tmp 115) (.const (.bool true)) (.tmp 121))⟩, [], []⟩,
  ⟨14, ⟨some 123, none, (.move (.tmp 122))⟩, [], []⟩,
  ⟨15, ⟨some 124, some (123, false), (.fieldAddr 106 (.tmp 1) 15)⟩, [], []⟩,
  ⟨16, ⟨some 125, some (123, false), (.load 52 (.tmp 124))⟩, [], []⟩,
  ⟨17, ⟨some 126, some (123, false), (.call { callee := (.builtin .len), args := #[(.tmp 125)], argTypes := #[52] })⟩, [], []⟩,
  ⟨18, ⟨some 127, some (123, false), (.fieldAddr 106 (.tmp 1) 0)⟩, [], []⟩,
  ⟨19, ⟨some 128, some (123, false), (.load 3 (.tmp 127))⟩, [], []⟩,
  ⟨20, ⟨some 129, some (123, false), (.call { callee := (.value (.func 51)), args := #[(.tmp 128), (.const (.int .u8 102))], argTypes := #[3, 5] })⟩, [16], [⟨some 125, some (123, false), (.load 52 (.tmp 124))⟩]⟩,
  ⟨21, ⟨some 130, some (123, false), (.call { callee := (.value (.func 52)), args := #[(.tmp 126), (.tmp 129), (.const (.int .i64 1)), (.const (.int .i64 512))], argTypes := #[3, 4, 3, 3] })⟩, [], []⟩,
  ⟨22, ⟨some 131, some (123, false), (.unOp .not 4 (.tmp 130))⟩, [], []⟩,
  ⟨23, ⟨some 132, none, (.pick (.tmp 123) (.const (.bool true)) (.tmp 131))⟩, [], []⟩] [109, 110, 111, 112, 113, 114, 115, 116, 117, 118, 119, 120, 121, 122, 123, 124, 125, 126, 127, 128, 129, 130, 131, 132] [1, 132]
@[simp] noncomputable def F40_r10 : CC := .reg [⟨some 2, none, (.assign (.const (.bool false)))⟩] [2]
@[simp] noncomputable def F40_r11 : CC := .reg [⟨some 133, none, (.fieldAddr 106 (.tmp 1) 0)⟩,
  ⟨some 134, none, (.load 3 (.tmp 133))⟩,
  ⟨some 135, none, (.call { callee := (.value (.func 51)), args := #[(.tmp 134), (.const (.int .u8 107))], argTypes := #[3, 5] })⟩] [1, 135]
@[simp] noncomputable def F40_r12 : CC := .reg [⟨some 136, none, (.fieldAddr 106 (.tmp 1) 14)⟩,
  ⟨some 137, none, (.load 27 (.tmp 136))⟩,
  ⟨some 138, none, (.call { callee := (.value (.func 53)), args := #[(.tmp 137)], argTypes := #[27] })⟩,
  ⟨some 2, none, (.assign (.tmp 138))⟩] [2]
@[simp] noncomputable def F40_r13 : CC := .reg [⟨some 139, none, (.fieldAddr 106 (.tmp 1) 14)⟩,
  ⟨some 140, none, (.load 27 (.tmp 139))⟩,
  ⟨some 141, none, (.build 27 #[])⟩,
  ⟨some 142, none, (.binOp .eql 27 (.tmp 140) (.tmp 141) 27)⟩,
  ⟨some 2, none, (.assign (.tmp 142))⟩] [2]
noncomputable def F40 : CC := (.seq F40_r0 (.seq (.seq F40_r1 (.cond (.tmp 22) (.seq F40_r2 .ret) .skip)) (.seq F40_r3 (.seq (.seq F40_r4 (.cond (.tmp 57) (.seq F40_r5 .ret) .skip)) (.seq (.seq F40_r6 (.cond (.tmp 105) (.seq F40_r7 .ret) .skip)) (.seq F40_r8 (.seq (.seq F40_r9 (.cond (.tmp 132) (.seq F40_r10 .ret) .skip)) (.seq (.seq F40_r11 (.cond (.tmp 135) (.seq F40_r12 .ret) .skip)) (.seq F40_r13 .ret)))))))))
noncomputable def F40_inf : Nat → RI
  | 0 => ⟨[1], [], []⟩
  | 1 => ⟨[1, 22], [], []⟩
  | 2 => ⟨[2], [], []⟩
  | 3 => ⟨[1, 3], [], []⟩
  | 4 => ⟨[1, 3, 57], [], []⟩
  | 5 => ⟨[2], [], []⟩
  | 6 => ⟨[1, 105], [0, 1, 0, 4, 12, 31, 63, 127, 255, 511, 255, 1279, 3327, 8191, 16383, 32767, 65535, 131071, 262143, 131071, 655359, 1703935, 4194303, 8388607, 16777215, 33554431, 67108863, 134217727, 67108863, 536870911, 1073741823, 2147483647, 4294967295, 8589934591, 17179869183, 8589934591, 68719476735, 137438953471, 274877906943, 549755813887, 1099511627775, 2199023255551, 1099511627775, 5497558138879, 14293651161087, 35184372088831, 70368744177663, 140737488355327], [(0, []), (1, []), (2, []), (3, []), (4, [1]), (5, []), (6, []), (7, []), (8, []), (9, []), (10, []), (11, []), (12, [9]), (13, []), (14, []), (15, []), (16, []), (17, []), (18, []), (19, []), (20, []), (21, [18]), (22, []), (23, []), (24, []), (25, []), (26, []), (27, []), (28, []), (29, []), (30, []), (31, []), (32, []), (33, []), (34, []), (35, []), (36, []), (37, []), (38, []), (39, []), (40, []), (41, []), (42, []), (43, []), (44, [41]), (45, []), (46, []), (47, [])]⟩
  | 7 => ⟨[2], [], []⟩
  | 8 => ⟨[1, 4], [], []⟩
  | 9 => ⟨[1, 132], [0, 1, 3, 0, 15, 31, 63, 127, 255, 511, 127, 2047, 4095, 8191, 16383, 32767, 65535, 131071, 32767, 294911, 819199, 2097151, 4194303, 8388607], [(0, []), (1, []), (2, []), (3, []), (4, []), (5, []), (6, []), (7, []), (8, []), (9, []), (10, []), (11, []), (12, []), (13, []), (14, []), (15, []), (16, []), (17, []), (18, []), (19, []), (20, [16]), (21, []), (22, []), (23, [])]⟩
  | 10 => ⟨[2], [], []⟩
  | 11 => ⟨[1, 135], [], []⟩
  | 12 => ⟨[2], [], []⟩
  | 13 => ⟨[2], [], []⟩
  | _ => ⟨[], [], []⟩
noncomputable def F40_c : Code := Try.f40.body.getD .skip
theorem F40_b : Try.f40.body = some F40_c := by kernel_rfl
theorem F40_rs : Try.f40.results.toList = ([.tmp 2] : List ResultVar) := by kernel_rfl
theorem F40_n : Try.f40.ntmps = 143 := by kernel_rfl
theorem F40_ok : toCC [] 143 F40_inf F40_c = some F40 := by kernel_rfl
theorem F40_in {args : List AV} {G : Hp} {post : AV → Hp → Prop} (ha : args.all AV.plain = true) (hn : args.length ≤ 143) (h : BDs args → awp Try.prog [] F40 (AEnds Try.prog [.tmp 2] post) (initT args) G) : ACalls Try.prog 40 args G post :=
  acalls_cc Try.func40 F40_b F40_rs F40_n F40_ok mixed ha hn h

/- 41 ostiary/ostiaryref27.Msg -/
@[simp] noncomputable def F41_r0 : CC := .reg [⟨some 2, none, (.box 94 (.tmp 0))⟩,
  ⟨some 4, none, (.alloc 106)⟩] [1, 2, 4]
@[simp] noncomputable def F41_r1 : CC := .reg [⟨some 7, none, (.fieldAddr 94 (.tmp 2) 0)⟩,
  ⟨some 8, none, (.fieldAddr 34 (.tmp 7) 9)⟩,
  ⟨some 9, none, (.load 32 (.tmp 8))⟩,
  ⟨some 10, none, (.move (.tmp 1))⟩,
  ⟨some 11, none, (.indexAddr 32 (.tmp 9) (.tmp 10))⟩,
  ⟨some 12, none, (.load 56 (.tmp 11))⟩,
  ⟨some 5, none, (.alloc 56)⟩,
  ⟨none, none, (.store 56 (.tmp 5) (.tmp 12))⟩] [1, 2, 4, 5]
@[simp] noncomputable def F41_r2 : CC := .reg [⟨some 13, none, (.fieldAddr 56 (.tmp 5) 0)⟩,
  ⟨some 14, none, (.load 3 (.tmp 13))⟩,
  ⟨some 15, none, (.fieldAddr 94 (.tmp 2) 0)⟩,
  ⟨some 16, none, (.fieldAddr 34 (.tmp 15) 1)⟩,
  ⟨some 17, none, (.load 22 (.tmp 16))⟩,
  ⟨some 18, none, (.fieldAddr 94 (.tmp 2) 5)⟩,
  ⟨some 19, none, (.load 22 (.tmp 18))⟩,
  ⟨some 20, none, (.fieldAddr 56 (.tmp 5) 1)⟩,
  ⟨some 21, none, (.load 3 (.tmp 20))⟩,
  ⟨some 22, none, (.fieldAddr 56 (.tmp 5) 2)⟩,
  ⟨some 23, none, (.load 3 (.tmp 22))⟩,
  ⟨some 24, none, (.fieldAddr 94 (.tmp 2) 2)⟩,
  ⟨some 25, none, (.load 3 (.tmp 24))⟩,
  ⟨some 26, none, (.fieldAddr 94 (.tmp 2) 3)⟩,
  ⟨some 27, none, (.load 3 (.tmp 26))⟩,
  ⟨some 28, none, (.fieldAddr 94 (.tmp 2) 0)⟩,
  ⟨some 29, none, (.fieldAddr 34 (.tmp 28) 2)⟩,
  ⟨some 30, none, (.load 27 (.tmp 29))⟩,
  ⟨some 31, none, (.build 106 #[(0, (.const (.int .i64 9))), (1, (.tmp 14)), (3, (.tmp 17)), (4, (.tmp 19)), (5, (.tmp 21)), (6, (.tmp 23)), (10, (.tmp 25)), (11, (.tmp 27)), (14, (.tmp 30))])⟩,
  ⟨some 6, none, (.alloc 106)⟩,
  ⟨none, none, (.store 106 (.tmp 6) (.tmp 31))⟩] [1, 2, 4, 5, 6]
@[simp] noncomputable def F41_r3 : CC := .reg [⟨some 32, none, (.fieldAddr 56 (.tmp 5) 0)⟩,
  ⟨some 33, none, (.load 3 (.tmp 32))⟩,
  ⟨some 34, none, (.binOp .gtr 3 (.tmp 33) (.const (.int .i64 0)) 3)⟩,
  ⟨some 35, none, (.move (.tmp 34))⟩,
  ⟨some 36, some (35, true), (.fieldAddr 56 (.tmp 5) 0)⟩,
  ⟨some 37, some (35, true), (.load 3 (.tmp 36))⟩,
  ⟨some 38, some (35, true), (.binOp .lss 3 (.tmp 37) (.const (.int .i64 9)) 3)⟩,
  ⟨some 39, none, (.pick (.tmp 35) (.tmp 38) (.const (.bool false)))⟩] [1, 2, 4, 5, 6, 39]
@[simp] noncomputable def F41_r4 : CC := .reg [⟨some 40, none, (.fieldAddr 56 (.tmp 5) 0)⟩,
  ⟨some 41, none, (.load 3 (.tmp 40))⟩,
  ⟨some 42, none, (.fieldAddr 94 (.tmp 2) 1)⟩,
  ⟨some 43, none, (.indexAddr 35 (.tmp 42) (.tmp 41))⟩,
  ⟨some 44, none, (.load 22 (.tmp 43))⟩,
  ⟨some 45, none, (.fieldAddr 106 (.tmp 6) 2)⟩,
  ⟨none, none, (.store 22 (.tmp 45) (.tmp 44))⟩] [1, 2, 4, 6]
@[simp] noncomputable def F41_r5 : CC := .reg [⟨some 46, none, (.move (.tmp 1))⟩,
  ⟨some 47, none, (.binOp .eql 3 (.tmp 46) (.const (.int .i64 0)) 3)⟩,
  ⟨some 48, none, (.fieldAddr 106 (.tmp 6) 8)⟩,
  ⟨none, none, (.store 4 (.tmp 48) (.tmp 47))⟩] [1, 2, 4, 6]
@[simp] noncomputable def F41_r6 : CC := .reg [⟨some 49, none, (.move (.tmp 1))⟩,
  ⟨some 50, none, (.fieldAddr 94 (.tmp 2) 0)⟩,
  ⟨some 51, none, (.fieldAddr 34 (.tmp 50) 9)⟩,
  ⟨some 52, none, (.load 32 (.tmp 51))⟩,
  ⟨some 53, none, (.call { callee := (.builtin .len), args := #[(.tmp 52)], argTypes := #[32] })⟩,
  ⟨some 54, none, (.binOp .sub 3 (.tmp 53) (.const (.int .i64 1)) 3)⟩,
  ⟨some 55, none, (.binOp .eql 3 (.tmp 49) (.tmp 54) 3)⟩,
  ⟨some 56, none, (.fieldAddr 106 (.tmp 6) 9)⟩,
  ⟨none, none, (.store 4 (.tmp 56) (.tmp 55))⟩] [4, 6]
@[simp] noncomputable def F41_r7 : CC := .reg [⟨some 57, none, (.load 106 (.tmp 6))⟩,
  ⟨none, none, (.store 106 (.tmp 4) (.tmp 57))⟩] [4]
noncomputable def F41 : CC := (.seq F41_r0 (.seq F41_r1 (.seq F41_r2 (.seq (.seq F41_r3 (.cond (.tmp 39) F41_r4 .skip)) (.seq F41_r5 (.seq F41_r6 (.seq F41_r7 .ret)))))))
noncomputable def F41_inf : Nat → RI
  | 0 => ⟨[1, 2, 4], [], []⟩
  | 1 => ⟨[1, 2, 4, 5], [], []⟩
  | 2 => ⟨[1, 2, 4, 5, 6], [], []⟩
  | 3 => ⟨[1, 2, 4, 5, 6, 39], [], []⟩
  | 4 => ⟨[1, 2, 4, 6], [], []⟩
  | 5 => ⟨[1, 2, 4, 6], [], []⟩
  | 6 => ⟨[4, 6], [], []⟩
  | 7 => ⟨[4], [], []⟩
  | _ => ⟨[], [], []⟩
noncomputable def F41_c : Code := Try.f41.body.getD .skip
theorem F41_b : Try.f41.body = some F41_c := by kernel_rfl
theorem F41_rs : Try.f41.results.toList = ([.cell 4 106] : List ResultVar) := by kernel_rfl
theorem F41_n : Try.f41.ntmps = 58 := by kernel_rfl
theorem F41_ok : toCC [] 58 F41_inf F41_c = some F41 := by kernel_rfl
theorem F41_in {args : List AV} {G : Hp} {post : AV → Hp → Prop} (ha : args.all AV.plain = true) (hn : args.length ≤ 58) (h : BDs args → awp Try.prog [] F41 (AEnds Try.prog [.cell 4 106] post) (initT args) G) : ACalls Try.prog 41 args G post :=
  acalls_cc Try.func41 F41_b F41_rs F41_n F41_ok mixed ha hn h

/- 42 ostiary/ostiaryref08.Same -/
@[simp] noncomputable def F42_r0 : CC := .reg [⟨some 2, none, (.box 106 (.tmp 0))⟩,
  ⟨some 3, none, (.box 106 (.tmp 1))⟩,
  ⟨some 4, none, (.assign (.const (.bool false)))⟩] [2, 3]
@[simp] noncomputable def F42_r1 : CC := .reg [⟨some 5, none, (.fieldAddr 106 (.tmp 2) 15)⟩,
  ⟨some 6, none, (.load 52 (.tmp 5))⟩,
  ⟨some 7, none, (.convert 52 9 (.tmp 6))⟩,
  ⟨some 8, none, (.fieldAddr 106 (.tmp 3) 15)⟩,
  ⟨some 9, none, (.load 52 (.tmp 8))⟩,
  ⟨some 10, none, (.convert 52 9 (.tmp 9))⟩,
  ⟨some 11, none, (.binOp .neq 9 (.tmp 7) (.tmp 10) 9)⟩] [2, 3, 11]
@[simp] noncomputable def F42_r2 : CC := .reg [⟨some 4, none, (.assign (.const (.bool false)))⟩] [4]
@[simp] noncomputable def F42_r3 : CC := .reg [⟨some 12, none, (.fieldAddr 106 (.tmp 2) 0)⟩,
  ⟨some 13, none, (.load 3 (.tmp 12))⟩,
  ⟨some 14, none, (.fieldAddr 106 (.tmp 3) 0)⟩,
  ⟨some 15, none, (.load 3 (.tmp 14))⟩,
  ⟨some 16, none, (.binOp .eql 3 (.tmp 13) (.tmp 15) 3)⟩,
  ⟨some 17, none, (.move (.tmp 16))⟩,
  ⟨some 18, some (17, true), (.fieldAddr 106 (.tmp 2) 1)⟩,
  ⟨some 19, some (17, true), (.load 3 (.tmp 18))⟩,
  ⟨some 20, some (17, true), (.fieldAddr 106 (.tmp 3) 1)⟩,
  ⟨some 21, some (17, true), (.load 3 (.tmp 20))⟩,
  ⟨some 22, some (17, true), (.binOp .eql 3 (.tmp 19) (.tmp 21) 3)⟩,
  ⟨some 23, none, (.pick (.tmp 17) (.tmp 22) (.const (.bool false)))⟩,
  ⟨some 24, none, (.move (.tmp 23))⟩,
  ⟨some 25, some (24, true), (.fieldAddr 106 (.tmp 2) 2)⟩,
  ⟨some 26, some (24, true), (.load 22 (.tmp 25))⟩,
  ⟨some 27, some (24, true), (.fieldAddr 106 (.tmp 3) 2)⟩,
  ⟨some 28, some (24, true), (.load 22 (.tmp 27))⟩,
  ⟨some 29, some (24, true), (.binOp .eql 22 (.tmp 26) (.tmp 28) 22)⟩,
  ⟨some 30, none, (.pick (.tmp 24) (.tmp 29) (.const (.bool false)))⟩,
  ⟨some 31, none, (.move (.tmp 30))⟩,
  ⟨some 32, some (31, true), (.fieldAddr 106 (.tmp 2) 3)⟩,
  ⟨some 33, some (31, true), (.load 22 (.tmp 32))⟩,
  ⟨some 34, some (31, true), (.fieldAddr 106 (.tmp 3) 3)⟩,
  ⟨some 35, some (31, true), (.load 22 (.tmp 34))⟩,
  ⟨some 36, some (31, true), (.binOp .eql 22 (.tmp 33) (.tmp 35) 22)⟩,
  ⟨some 37, none, (.pick (.tmp 31) (.tmp 36) (.const (.bool false)))⟩,
  ⟨some 38, none, (.move (.tmp 37))⟩,
  ⟨some 39, some (38, true), (.fieldAddr 106 (.tmp 2) 4)⟩,
  ⟨some 40, some (38, true), (.load 22 (.tmp 39))⟩,
  ⟨some 41, some (38, true), (.fieldAddr 106 (.tmp 3) 4)⟩,
  ⟨some 42, some (38, true), (.load 22 (.tmp 41))⟩,
  ⟨some 43, some (38, true), (.binOp .eql 22 (.tmp 40) (.tmp 42) 22)⟩,
  ⟨some 44, none, (.pick (.tmp 38) (.tmp 43) (.const (.bool false)))⟩,
  ⟨some 45, none, (.move (.tmp 44))⟩,
  ⟨some 46, some (45, true), (.fieldAddr 106 (.tmp 2) 5)⟩,
  ⟨some 47, some (45, true), (.load 3 (.tmp 46))⟩,
  ⟨some 48, some (45, true), (.fieldAddr 106 (.tmp 3) 5)⟩,
  ⟨some 49, some (45, true), (.load 3 (.tmp 48))⟩,
  ⟨some 50, some (45, true), (.binOp .eql 3 (.tmp 47) (.tmp 49) 3)⟩,
  ⟨some 51, none, (.pick (.tmp 45) (.tmp 50) (.const (.bool false)))⟩,
  ⟨some 52, none, (.move (.tmp 51))⟩,
  ⟨some 53, some (52, true), (.fieldAddr 106 (.tmp 2) 6)⟩,
  ⟨some 54, some (52, true), (.load 3 (.tmp 53))⟩,
  ⟨some 55, some (52, true), (.fieldAddr 106 (.tmp 3) 6)⟩,
  ⟨some 56, some (52, true), (.load 3 (.tmp 55))⟩,
  ⟨some 57, some (52, true), (.binOp .eql 3 (.tmp 54) (.tmp 56) 3)⟩,
  ⟨some 58, none, (.pick (.tmp 52) (.tmp 57) (.const (.bool false)))⟩,
  ⟨some 59, none, (.move (.tmp 58))⟩,
  ⟨some 60, some (59, true), (.fieldAddr 106 (.tmp 2) 7)⟩,
  ⟨some 61, some (59, true), (.load 3 (.tmp 60))⟩,
  ⟨some 62, some (59, true), (.fieldAddr 106 (.tmp 3) 7)⟩,
  ⟨some 63, some (59, true), (.load 3 (.tmp 62))⟩,
  ⟨some 64, some (59, true), (.binOp .eql 3 (.tmp 61) (.tmp 63) 3)⟩,
  ⟨some 65, none, (.pick (.tmp 59) (.tmp 64) (.const (.bool false)))⟩,
  ⟨some 66, none, (.move (.tmp 65))⟩,
  ⟨some 67, some (66, true), (.fieldAddr 106 (.tmp 2) 8)⟩,
  ⟨some 68, some (66, true), (.load 4 (.tmp 67))⟩,
  ⟨some 69, some (66, true), (.fieldAddr 106 (.tmp 3) 8)⟩,
  ⟨some 70, some (66, true), (.load 4 (.tmp 69))⟩,
  ⟨some 71, some (66, true), (.binOp .eql 4 (.tmp 68) (.tmp 70) 4)⟩,
  ⟨some 72, none, (.pick (.tmp 66) (.tmp 71) (.const (.bool false)))⟩,
  ⟨some 73, none, (.move (.tmp 72))⟩,
  ⟨some 74, some (73, true), (.fieldAddr 106 (.tmp 2) 9)⟩,
  ⟨some 75, some (73, true), (.load 4 (.tmp 74))⟩,
  ⟨some 76, some (73, true), (.fieldAddr 106 (.tmp 3) 9)⟩,
  ⟨some 77, some (73, true), (.load 4 (.tmp 76))⟩,
  ⟨some 78, some (73, true), (.binOp .eql 4 (.tmp 75) (.tmp 77) 4)⟩,
  ⟨some 79, none, (.pick (.tmp 73) (.tmp 78) (.const (.bool false)))⟩,
  ⟨some 80, none, (.move (.tmp 79))⟩,
  ⟨some 81, some (80, true), (.fieldAddr 106 (.tmp 2) 10)⟩,
  ⟨some 82, some (80, true), (.load 3 (.tmp 81))⟩,
  ⟨some 83, some (80, true), (.fieldAddr 106 (.tmp 3) 10)⟩,
  ⟨some 84, some (80, true), (.load 3 (.tmp 83))⟩,
  ⟨some 85, some (80, true), (.binOp .eql 3 (.tmp 82) (.tmp 84) 3)⟩,
  ⟨some 86, none, (.pick (.tmp 80) (.tmp 85) (.const (.bool false)))⟩,
  ⟨some 87, none, (.move (.tmp 86))⟩,
  ⟨some 88, some (87, true), (.fieldAddr 106 (.tmp 2) 11)⟩,
  ⟨some 89, some (87, true), (.load 3 (.tmp 88))⟩,
  ⟨some 90, some (87, true), (.fieldAddr 106 (.tmp 3) 11)⟩,
  ⟨some 91, some (87, true), (.load 3 (.tmp 90))⟩,
  ⟨some 92, some (87, true), (.binOp .eql 3 (.tmp 89) (.tmp 91) 3)⟩,
  ⟨some 93, none, (.pick (.tmp 87) (.tmp 92) (.const (.bool false)))⟩,
  ⟨some 94, none, (.move (.tmp 93))⟩,
  ⟨some 95, some (94, true), (.fieldAddr 106 (.tmp 2) 12)⟩,
  ⟨some 96, some (94, true), (.load 3 (.tmp 95))⟩,
  ⟨some 97, some (94, true), (.fieldAddr 106 (.tmp 3) 12)⟩,
  ⟨some 98, some (94, true), (.load 3 (.tmp 97))⟩,
  ⟨some 99, some (94, true), (.binOp .eql 3 (.tmp 96) (.tmp 98) 3)⟩,
  ⟨some 100, none, (.pick (.tmp 94) (.tmp 99) (.const (.bool false)))⟩,
  ⟨some 101, none, (.move (.tmp 100))⟩,
  ⟨some 102, some (101, true), (.fieldAddr 106 (.tmp 2) 13)⟩,
  ⟨some 103, some (101, true), (.load 29 (.tmp 102))⟩,
  ⟨some 104, some (101, true), (.fieldAddr 106 (.tmp 3) 13)⟩,
  ⟨some 105, some (101, true), (.load 29 (.tmp 104))⟩,
  ⟨some 106, some (101, true), (.binOp .eql 29 (.tmp 103) (.tmp 105) 29)⟩,
  ⟨some 107, none, (.pick (.tmp 101) (.tmp 106) (.const (.bool false)))⟩,
  ⟨some 108, none, (.move (.tmp 107))⟩,
  ⟨some 109, some (108, true), (.fieldAddr 106 (.tmp 2) 14)⟩,
  ⟨some 110, some (108, true), (.load 27 (.tmp 109))⟩,
  ⟨some 111, some (108, true), (.fieldAddr 106 (.tmp 3) 14)⟩,
  ⟨some 112, some (108, true), (.load 27 (.tmp 111))⟩,
  ⟨some 113, some (108, true), (.binOp .eql 27 (.tmp 110) (.tmp 112) 27)⟩,
  ⟨some 114, none, (.pick (.tmp 108) (.tmp 113) (.const (.bool false)))⟩,
  ⟨some 4, none, (.assign (.tmp 114))⟩] [4]
noncomputable def F42 : CC := (.seq F42_r0 (.seq (.seq F42_r1 (.cond (.tmp 11) (.seq F42_r2 .ret) .skip)) (.seq F42_r3 .ret)))
noncomputable def F42_inf : Nat → RI
  | 0 => ⟨[2, 3], [], []⟩
  | 1 => ⟨[2, 3, 11], [], []⟩
  | 2 => ⟨[4], [], []⟩
  | 3 => ⟨[4], [], []⟩
  | _ => ⟨[], [], []⟩
noncomputable def F42_c : Code := Try.f42.body.getD .skip
theorem F42_b : Try.f42.body = some F42_c := by kernel_rfl
theorem F42_rs : Try.f42.results.toList = ([.tmp 4] : List ResultVar) := by kernel_rfl
theorem F42_n : Try.f42.ntmps = 115 := by kernel_rfl
theorem F42_ok : toCC [] 115 F42_inf F42_c = some F42 := by kernel_rfl
theorem F42_in {args : List AV} {G : Hp} {post : AV → Hp → Prop} (ha : args.all AV.plain = true) (hn : args.length ≤ 115) (h : BDs args → awp Try.prog [] F42 (AEnds Try.prog [.tmp 4] post) (initT args) G) : ACalls Try.prog 42 args G post :=
  acalls_cc Try.func42 F42_b F42_rs F42_n F42_ok mixed ha hn h

/- 43 ostiary/ostiarylaw08.Plain -/
@[simp] noncomputable def F43_r0 : CC := .reg [⟨some 1, none, (.box 54 (.tmp 0))⟩,
  ⟨some 2, none, (.alloc 106)⟩] [1, 2]
@[simp] noncomputable def F43_r1 : CC := .reg [⟨some 3, none, (.fieldAddr 54 (.tmp 1) 0)⟩,
  ⟨some 4, none, (.load 3 (.tmp 3))⟩,
  ⟨some 5, none, (.fieldAddr 54 (.tmp 1) 1)⟩,
  ⟨some 6, none, (.load 3 (.tmp 5))⟩,
  ⟨some 7, none, (.fieldAddr 54 (.tmp 1) 2)⟩,
  ⟨some 8, none, (.load 22 (.tmp 7))⟩,
  ⟨some 9, none, (.fieldAddr 54 (.tmp 1) 3)⟩,
  ⟨some 10, none, (.load 22 (.tmp 9))⟩,
  ⟨some 11, none, (.fieldAddr 54 (.tmp 1) 4)⟩,
  ⟨some 12, none, (.load 22 (.tmp 11))⟩,
  ⟨some 13, none, (.fieldAddr 54 (.tmp 1) 5)⟩,
  ⟨some 14, none, (.load 3 (.tmp 13))⟩,
  ⟨some 15, none, (.fieldAddr 54 (.tmp 1) 6)⟩,
  ⟨some 16, none, (.load 3 (.tmp 15))⟩,
  ⟨some 17, none, (.fieldAddr 54 (.tmp 1) 7)⟩,
  ⟨some 18, none, (.load 3 (.tmp 17))⟩,
  ⟨some 19, none, (.fieldAddr 54 (.tmp 1) 8)⟩,
  ⟨some 20, none, (.load 4 (.tmp 19))⟩,
  ⟨some 21, none, (.fieldAddr 54 (.tmp 1) 9)⟩,
  ⟨some 22, none, (.load 4 (.tmp 21))⟩,
  ⟨some 23, none, (.fieldAddr 54 (.tmp 1) 10)⟩,
  ⟨some 24, none, (.load 3 (.tmp 23))⟩,
  ⟨some 25, none, (.fieldAddr 54 (.tmp 1) 11)⟩,
  ⟨some 26, none, (.load 3 (.tmp 25))⟩,
  ⟨some 27, none, (.fieldAddr 54 (.tmp 1) 12)⟩,
  ⟨some 28, none, (.load 3 (.tmp 27))⟩,
  ⟨some 29, none, (.fieldAddr 54 (.tmp 1) 13)⟩,
  ⟨some 30, none, (.load 29 (.tmp 29))⟩,
  ⟨some 31, none, (.fieldAddr 54 (.tmp 1) 14)⟩,
  ⟨some 32, none, (.load 27 (.tmp 31))⟩,
  ⟨some 33, none, (.fieldAddr 54 (.tmp 1) 15)⟩,
  ⟨some 34, none, (.load 52 (.tmp 33))⟩,
  ⟨some 35, none, (.build 106 #[(0, (.tmp 4)), (1, (.tmp 6)), (2, (.tmp 8)), (3, (.tmp 10)), (4, (.tmp 12)), (5, (.tmp 14)), (6, (.tmp 16)), (7, (.tmp 18)), (8, (.tmp 20)), (9, (.tmp 22)), (10, (.tmp 24)), (11, (.tmp 26)), (12, (.tmp 28)), (13, (.tmp 30)), (14, (.tmp 32)), (15, (.tmp 34))])⟩,
  ⟨none, none, (.store 106 (.tmp 2) (.tmp 35))⟩] [2]
noncomputable def F43 : CC := (.seq F43_r0 (.seq F43_r1 .ret))
noncomputable def F43_inf : Nat → RI
  | 0 => ⟨[1, 2], [], []⟩
  | 1 => ⟨[2], [], []⟩
  | _ => ⟨[], [], []⟩
noncomputable def F43_c : Code := Try.f43.body.getD .skip
theorem F43_b : Try.f43.body = some F43_c := by kernel_rfl
theorem F43_rs : Try.f43.results.toList = ([.cell 2 106] : List ResultVar) := by kernel_rfl
theorem F43_n : Try.f43.ntmps = 36 := by kernel_rfl
theorem F43_ok : toCC [] 36 F43_inf F43_c = some F43 := by kernel_rfl
theorem F43_in {args : List AV} {G : Hp} {post : AV → Hp → Prop} (ha : args.all AV.plain = true) (hn : args.length ≤ 36) (h : BDs args → awp Try.prog [] F43 (AEnds Try.prog [.cell 2 106] post) (initT args) G) : ACalls Try.prog 43 args G post :=
  acalls_cc Try.func43 F43_b F43_rs F43_n F43_ok mixed ha hn h

/- 44 ostiary/ctl.in -/
@[simp] noncomputable def F44_r0 : CC := .reg [⟨some 6, none, (.assign (.const (.bool false)))⟩] [0, 1, 2]
@[simp] noncomputable def F44_r1 : CC := .reg [⟨some 7, none, (.move (.tmp 0))⟩,
  ⟨some 8, none, (.move (.tmp 1))⟩,
  ⟨some 9, none, (.binOp .geq 3 (.tmp 7) (.tmp 8) 3)⟩,
  ⟨some 10, none, (.move (.tmp 9))⟩,
  ⟨some 11, some (10, true), (.move (.tmp 0))⟩,
  ⟨some 12, some (10, true), (.move (.tmp 2))⟩,
  ⟨some 13, some (10, true), (.binOp .leq 3 (.tmp 11) (.tmp 12) 3)⟩,
  ⟨some 14, none, (.pick (.tmp 10) (.tmp 13) (.const (.bool false)))⟩,
  ⟨some 6, none, (.assign (.tmp 14))⟩] [6]
noncomputable def F44 : CC := (.seq F44_r0 (.seq F44_r1 .ret))
noncomputable def F44_inf : Nat → RI
  | 0 => ⟨[0, 1, 2], [], []⟩
  | 1 => ⟨[6], [], []⟩
  | _ => ⟨[], [], []⟩
noncomputable def F44_c : Code := Try.f44.body.getD .skip
theorem F44_b : Try.f44.body = some F44_c := by kernel_rfl
theorem F44_rs : Try.f44.results.toList = ([.tmp 6] : List ResultVar) := by kernel_rfl
theorem F44_n : Try.f44.ntmps = 15 := by kernel_rfl
theorem F44_ok : toCC [] 15 F44_inf F44_c = some F44 := by kernel_rfl
theorem F44_in {args : List AV} {G : Hp} {post : AV → Hp → Prop} (ha : args.all AV.plain = true) (hn : args.length ≤ 15) (h : BDs args → awp Try.prog [] F44 (AEnds Try.prog [.tmp 6] post) (initT args) G) : ACalls Try.prog 44 args G post :=
  acalls_cc Try.func44 F44_b F44_rs F44_n F44_ok mixed ha hn h

/- 45 ostiary/ctl.Same -/
@[simp] noncomputable def F45_r0 : CC := .reg [⟨some 2, none, (.box 54 (.tmp 0))⟩,
  ⟨some 3, none, (.box 54 (.tmp 1))⟩,
  ⟨some 4, none, (.assign (.const (.bool false)))⟩] [2, 3]
@[simp] noncomputable def F45_r1 : CC := .reg [⟨some 6, none, (.fieldAddr 54 (.tmp 2) 15)⟩,
  ⟨some 7, none, (.load 52 (.tmp 6))⟩,
  ⟨some 8, none, (.fieldAddr 54 (.tmp 3) 15)⟩,
  ⟨some 9, none, (.load 52 (.tmp 8))⟩,
  ⟨some 10, none, (.call { callee := (.value (.func 54)), args := #[(.tmp 7), (.tmp 9)], argTypes := #[52, 52] })⟩,
  ⟨some 5, none, (.assign (.tmp 10))⟩] [2, 3, 5]
@[simp] noncomputable def F45_r2 : CC := .reg [⟨some 11, none, (.move (.tmp 5))⟩,
  ⟨some 12, none, (.move (.tmp 11))⟩,
  ⟨some 13, some (12, true), (.fieldAddr 54 (.tmp 2) 0)⟩,
  ⟨some 14, some (12, true), (.load 3 (.tmp 13))⟩,
  ⟨some 15, some (12, true), (.fieldAddr 54 (.tmp 3) 0)⟩,
  ⟨some 16, some (12, true), (.load 3 (.tmp 15))⟩,
  ⟨some 17, some (12, true), (.binOp .eql 3 (.tmp 14) (.tmp 16) 3)⟩,
  ⟨some 18, none, (.pick (.tmp 12) (.tmp 17) (.const (.bool false)))⟩,
  ⟨some 19, none, (.move (.tmp 18))⟩,
  ⟨some 20, some (19, true), (.fieldAddr 54 (.tmp 2) 1)⟩,
  ⟨some 21, some (19, true), (.load 3 (.tmp 20))⟩,
  ⟨some 22, some (19, true), (.fieldAddr 54 (.tmp 3) 1)⟩,
  ⟨some 23, some (19, true), (.load 3 (.tmp 22))⟩,
  ⟨some 24, some (19, true), (.binOp .eql 3 (.tmp 21) (.tmp 23) 3)⟩,
  ⟨some 25, none, (.pick (.tmp 19) (.tmp 24) (.const (.bool false)))⟩,
  ⟨some 26, none, (.move (.tmp 25))⟩,
  ⟨some 27, some (26, true), (.fieldAddr 54 (.tmp 2) 2)⟩,
  ⟨some 28, some (26, true), (.load 22 (.tmp 27))⟩,
  ⟨some 29, some (26, true), (.fieldAddr 54 (.tmp 3) 2)⟩,
  ⟨some 30, some (26, true), (.load 22 (.tmp 29))⟩,
  ⟨some 31, some (26, true), (.binOp .eql 22 (.tmp 28) (.tmp 30) 22)⟩,
  ⟨some 32, none, (.pick (.tmp 26) (.tmp 31) (.const (.bool false)))⟩,
  ⟨some 33, none, (.move (.tmp 32))⟩,
  ⟨some 34, some (33, true), (.fieldAddr 54 (.tmp 2) 3)⟩,
  ⟨some 35, some (33, true), (.load 22 (.tmp 34))⟩,
  ⟨some 36, some (33, true), (.fieldAddr 54 (.tmp 3) 3)⟩,
  ⟨some 37, some (33, true), (.load 22 (.tmp 36))⟩,
  ⟨some 38, some (33, true), (.binOp .eql 22 (.tmp 35) (.tmp 37) 22)⟩,
  ⟨some 39, none, (.pick (.tmp 33) (.tmp 38) (.const (.bool false)))⟩,
  ⟨some 40, none, (.move (.tmp 39))⟩,
  ⟨some 41, some (40, true), (.fieldAddr 54 (.tmp 2) 4)⟩,
  ⟨some 42, some (40, true), (.load 22 (.tmp 41))⟩,
  ⟨some 43, some (40, true), (.fieldAddr 54 (.tmp 3) 4)⟩,
  ⟨some 44, some (40, true), (.load 22 (.tmp 43))⟩,
  ⟨some 45, some (40, true), (.binOp .eql 22 (.tmp 42) (.tmp 44) 22)⟩,
  ⟨some 46, none, (.pick (.tmp 40) (.tmp 45) (.const (.bool false)))⟩,
  ⟨some 47, none, (.move (.tmp 46))⟩,
  ⟨some 48, some (47, true), (.fieldAddr 54 (.tmp 2) 5)⟩,
  ⟨some 49, some (47, true), (.load 3 (.tmp 48))⟩,
  ⟨some 50, some (47, true), (.fieldAddr 54 (.tmp 3) 5)⟩,
  ⟨some 51, some (47, true), (.load 3 (.tmp 50))⟩,
  ⟨some 52, some (47, true), (.binOp .eql 3 (.tmp 49) (.tmp 51) 3)⟩,
  ⟨some 53, none, (.pick (.tmp 47) (.tmp 52) (.const (.bool false)))⟩,
  ⟨some 54, none, (.move (.tmp 53))⟩,
  ⟨some 55, some (54, true), (.fieldAddr 54 (.tmp 2) 6)⟩,
  ⟨some 56, some (54, true), (.load 3 (.tmp 55))⟩,
  ⟨some 57, some (54, true), (.fieldAddr 54 (.tmp 3) 6)⟩,
  ⟨some 58, some (54, true), (.load 3 (.tmp 57))⟩,
  ⟨some 59, some (54, true), (.binOp .eql 3 (.tmp 56) (.tmp 58) 3)⟩,
  ⟨some 60, none, (.pick (.tmp 54) (.tmp 59) (.const (.bool false)))⟩,
  ⟨some 61, none, (.move (.tmp 60))⟩,
  ⟨some 62, some (61, true), (.fieldAddr 54 (.tmp 2) 7)⟩,
  ⟨some 63, some (61, true), (.load 3 (.tmp 62))⟩,
  ⟨some 64, some (61, true), (.fieldAddr 54 (.tmp 3) 7)⟩,
  ⟨some 65, some (61, true), (.load 3 (.tmp 64))⟩,
  ⟨some 66, some (61, true), (.binOp .eql 3 (.tmp 63) (.tmp 65) 3)⟩,
  ⟨some 67, none, (.pick (.tmp 61) (.tmp 66) (.const (.bool false)))⟩,
  ⟨some 68, none, (.move (.tmp 67))⟩,
  ⟨some 69, some (68, true), (.fieldAddr 54 (.tmp 2) 8)⟩,
  ⟨some 70, some (68, true), (.load 4 (.tmp 69))⟩,
  ⟨some 71, some (68, true), (.fieldAddr 54 (.tmp 3) 8)⟩,
  ⟨some 72, some (68, true), (.load 4 (.tmp 71))⟩,
  ⟨some 73, some (68, true), (.binOp .eql 4 (.tmp 70) (.tmp 72) 4)⟩,
  ⟨some 74, none, (.pick (.tmp 68) (.tmp 73) (.const (.bool false)))⟩,
  ⟨some 75, none, (.move (.tmp 74))⟩,
  ⟨some 76, some (75, true), (.fieldAddr 54 (.tmp 2) 9)⟩,
  ⟨some 77, some (75, true), (.load 4 (.tmp 76))⟩,
  ⟨some 78, some (75, true), (.fieldAddr 54 (.tmp 3) 9)⟩,
  ⟨some 79, some (75, true), (.load 4 (.tmp 78))⟩,
  ⟨some 80, some (75, true), (.binOp .eql 4 (.tmp 77) (.tmp 79) 4)⟩,
  ⟨some 81, none, (.pick (.tmp 75) (.tmp 80) (.const (.bool false)))⟩,
  ⟨some 82, none, (.move (.tmp 81))⟩,
  ⟨some 83, some (82, true), (.fieldAddr 54 (.tmp 2) 10)⟩,
  ⟨some 84, some (82, true), (.load 3 (.tmp 83))⟩,
  ⟨some 85, some (82, true), (.fieldAddr 54 (.tmp 3) 10)⟩,
  ⟨some 86, some (82, true), (.load 3 (.tmp 85))⟩,
  ⟨some 87, some (82, true), (.binOp .eql 3 (.tmp 84) (.tmp 86) 3)⟩,
  ⟨some 88, none, (.pick (.tmp 82) (.tmp 87) (.const (.bool false)))⟩,
  ⟨some 89, none, (.move (.tmp 88))⟩,
  ⟨some 90, some (89, true), (.fieldAddr 54 (.tmp 2) 11)⟩,
  ⟨some 91, some (89, true), (.load 3 (.tmp 90))⟩,
  ⟨some 92, some (89, true), (.fieldAddr 54 (.tmp 3) 11)⟩,
  ⟨some 93, some (89, true), (.load 3 (.tmp 92))⟩,
  ⟨some 94, some (89, true), (.binOp .eql 3 (.tmp 91) (.tmp 93) 3)⟩,
  ⟨some 95, none, (.pick (.tmp 89) (.tmp 94) (.const (.bool false)))⟩,
  ⟨some 96, none, (.move (.tmp 95))⟩,
  ⟨some 97, some (96, true), (.fieldAddr 54 (.tmp 2) 12)⟩,
  ⟨some 98, some (96, true), (.load 3 (.tmp 97))⟩,
  ⟨some 99, some (96, true), (.fieldAddr 54 (.tmp 3) 12)⟩,
  ⟨some 100, some (96, true), (.load 3 (.tmp 99))⟩,
  ⟨some 101, some (96, true), (.binOp .eql 3 (.tmp 98) (.tmp 100) 3)⟩,
  ⟨some 102, none, (.pick (.tmp 96) (.tmp 101) (.const (.bool false)))⟩,
  ⟨some 103, none, (.move (.tmp 102))⟩,
  ⟨some 104, some (103, true), (.fieldAddr 54 (.tmp 2) 13)⟩,
  ⟨some 105, some (103, true), (.load 29 (.tmp 104))⟩,
  ⟨some 106, some (103, true), (.fieldAddr 54 (.tmp 3) 13)⟩,
  ⟨some 107, some (103, true), (.load 29 (.tmp 106))⟩,
  ⟨some 108, some (103, true), (.binOp .eql 29 (.tmp 105) (.tmp 107) 29)⟩,
  ⟨some 109, none, (.pick (.tmp 103) (.tmp 108) (.const (.bool false)))⟩,
  ⟨some 110, none, (.move (.tmp 109))⟩,
  ⟨some 111, some (110, true), (.fieldAddr 54 (.tmp 2) 14)⟩,
  ⟨some 112, some (110, true), (.load 27 (.tmp 111))⟩,
  ⟨some 113, some (110, true), (.fieldAddr 54 (.tmp 3) 14)⟩,
  ⟨some 114, some (110, true), (.load 27 (.tmp 113))⟩,
  ⟨some 115, some (110, true), (.binOp .eql 27 (.tmp 112) (.tmp 114) 27)⟩,
  ⟨some 116, none, (.pick (.tmp 110) (.tmp 115) (.const (.bool false)))⟩,
  ⟨some 4, none, (.assign (.tmp 116))⟩] [4]
noncomputable def F45 : CC := (.seq F45_r0 (.seq F45_r1 (.seq F45_r2 .ret)))
noncomputable def F45_inf : Nat → RI
  | 0 => ⟨[2, 3], [], []⟩
  | 1 => ⟨[2, 3, 5], [], []⟩
  | 2 => ⟨[4], [], []⟩
  | _ => ⟨[], [], []⟩
noncomputable def F45_c : Code := Try.f45.body.getD .skip
theorem F45_b : Try.f45.body = some F45_c := by kernel_rfl
theorem F45_rs : Try.f45.results.toList = ([.tmp 4] : List ResultVar) := by kernel_rfl
theorem F45_n : Try.f45.ntmps = 117 := by kernel_rfl
theorem F45_ok : toCC [] 117 F45_inf F45_c = some F45 := by kernel_rfl
theorem F45_in {args : List AV} {G : Hp} {post : AV → Hp → Prop} (ha : args.all AV.plain = true) (hn : args.length ≤ 117) (h : BDs args → awp Try.prog [] F45 (AEnds Try.prog [.tmp 4] post) (initT args) G) : ACalls Try.prog 45 args G post :=
  acalls_cc Try.func45 F45_b F45_rs F45_n F45_ok mixed ha hn h

/- 46 ostiary/ctl.only -/
@[simp] noncomputable def F46_r0 : CC := .reg [⟨some 1, none, (.box 54 (.tmp 0))⟩,
  ⟨some 2, none, (.alloc 54)⟩] [1, 2]
@[simp] noncomputable def F46_r1 : CC := .reg [⟨some 5, none, (.fieldAddr 54 (.tmp 1) 0)⟩,
  ⟨some 6, none, (.load 3 (.tmp 5))⟩,
  ⟨some 7, none, (.call { callee := (.value (.func 47)), args := #[(.tmp 6)], argTypes := #[3] })⟩,
  ⟨some 3, none, (.assign (.tmp 7))⟩] [1, 2, 3]
@[simp] noncomputable def F46_r2 : CC := .reg [⟨some 8, none, (.fieldAddr 54 (.tmp 1) 0)⟩,
  ⟨some 9, none, (.load 3 (.tmp 8))⟩,
  ⟨some 10, none, (.fieldAddr 54 (.tmp 1) 1)⟩,
  ⟨some 11, none, (.load 3 (.tmp 10))⟩,
  ⟨some 12, none, (.fieldAddr 54 (.tmp 1) 2)⟩,
  ⟨some 13, none, (.load 22 (.tmp 12))⟩,
  ⟨some 14, none, (.build 54 #[(0, (.tmp 9)), (1, (.tmp 11)), (2, (.tmp 13))])⟩,
  ⟨some 4, none, (.alloc 54)⟩,
  ⟨none, none, (.store 54 (.tmp 4) (.tmp 14))⟩] [1, 2, 3, 4]
@[simp] noncomputable def F46_r3 : CC := .reg [⟨some 15, none, (.move (.tmp 3))⟩,
  ⟨some 16, none, (.binOp .and 3 (.tmp 15) (.const (.int .i64 1)) 3)⟩,
  ⟨some 17, none, (.binOp .neq 3 (.tmp 16) (.const (.int .i64 0)) 3)⟩] [1, 2, 3, 4, 17]
@[simp] noncomputable def F46_r4 : CC := .reg [⟨some 18, none, (.fieldAddr 54 (.tmp 1) 3)⟩,
  ⟨some 19, none, (.load 22 (.tmp 18))⟩,
  ⟨some 20, none, (.fieldAddr 54 (.tmp 4) 3)⟩,
  ⟨none, none, (.store 22 (.tmp 20) (.tmp 19))⟩] [1, 2, 3, 4]
@[simp] noncomputable def F46_r5 : CC := .reg [⟨some 21, none, (.move (.tmp 3))⟩,
  ⟨some 22, none, (.binOp .and 3 (.tmp 21) (.const (.int .i64 2)) 3)⟩,
  ⟨some 23, none, (.binOp .neq 3 (.tmp 22) (.const (.int .i64 0)) 3)⟩] [1, 2, 3, 4, 23]
@[simp] noncomputable def F46_r6 : CC := .reg [⟨some 24, none, (.fieldAddr 54 (.tmp 1) 4)⟩,
  ⟨some 25, none, (.load 22 (.tmp 24))⟩,
  ⟨some 26, none, (.fieldAddr 54 (.tmp 4) 4)⟩,
  ⟨none, none, (.store 22 (.tmp 26) (.tmp 25))⟩] [1, 2, 3, 4]
@[simp] noncomputable def F46_r7 : CC := .reg [⟨some 27, none, (.move (.tmp 3))⟩,
  ⟨some 28, none, (.binOp .and 3 (.tmp 27) (.const (.int .i64 4)) 3)⟩,
  ⟨some 29, none, (.binOp .neq 3 (.tmp 28) (.const (.int .i64 0)) 3)⟩] [1, 2, 3, 4, 29]
@[simp] noncomputable def F46_r8 : CC := .reg [⟨some 30, none, (.fieldAddr 54 (.tmp 1) 5)⟩,
  ⟨some 31, none, (.load 3 (.tmp 30))⟩,
  ⟨some 32, none, (.fieldAddr 54 (.tmp 4) 5)⟩,
  ⟨none, none, (.store 3 (.tmp 32) (.tmp 31))⟩] [1, 2, 3, 4]
@[simp] noncomputable def F46_r9 : CC := .reg [⟨some 33, none, (.move (.tmp 3))⟩,
  ⟨some 34, none, (.binOp .and 3 (.tmp 33) (.const (.int .i64 8)) 3)⟩,
  ⟨some 35, none, (.binOp .neq 3 (.tmp 34) (.const (.int .i64 0)) 3)⟩] [1, 2, 3, 4, 35]
@[simp] noncomputable def F46_r10 : CC := .reg [⟨some 36, none, (.fieldAddr 54 (.tmp 1) 6)⟩,
  ⟨some 37, none, (.load 3 (.tmp 36))⟩,
  ⟨some 38, none, (.fieldAddr 54 (.tmp 4) 6)⟩,
  ⟨none, none, (.store 3 (.tmp 38) (.tmp 37))⟩] [1, 2, 3, 4]
@[simp] noncomputable def F46_r11 : CC := .reg [⟨some 39, none, (.move (.tmp 3))⟩,
  ⟨some 40, none, (.binOp .and 3 (.tmp 39) (.const (.int .i64 16)) 3)⟩,
  ⟨some 41, none, (.binOp .neq 3 (.tmp 40) (.const (.int .i64 0)) 3)⟩] [1, 2, 3, 4, 41]
@[simp] noncomputable def F46_r12 : CC := .reg [⟨some 42, none, (.fieldAddr 54 (.tmp 1) 7)⟩,
  ⟨some 43, none, (.load 3 (.tmp 42))⟩,
  ⟨some 44, none, (.fieldAddr 54 (.tmp 4) 7)⟩,
  ⟨none, none, (.store 3 (.tmp 44) (.tmp 43))⟩] [1, 2, 3, 4]
@[simp] noncomputable def F46_r13 : CC := .reg [⟨some 45, none, (.move (.tmp 3))⟩,
  ⟨some 46, none, (.binOp .and 3 (.tmp 45) (.const (.int .i64 32)) 3)⟩,
  ⟨some 47, none, (.binOp .neq 3 (.tmp 46) (.const (.int .i64 0)) 3)⟩] [1, 2, 3, 4, 47]
@[simp] noncomputable def F46_r14 : CC := .drw [⟨0, ⟨some 48, none, (.fieldAddr 54 (.tmp 1) 8)⟩, [], []⟩,
  ⟨1, ⟨some 49, none, (.load 4 (.tmp 48))⟩, [], []⟩,
  ⟨2, ⟨some 50, none, (.fieldAddr 54 (.tmp 1) 9)⟩, [], []⟩,
  ⟨3, ⟨some 51, none, (.load 4 (.tmp 50))⟩, [], []⟩,
  ⟨4, ⟨some 52, none, (.fieldAddr 54 (.tmp 1) 10)⟩, [], []⟩,
  ⟨5, ⟨some 53, none, (.load 3 (.tmp 52))⟩, [], []⟩,
  ⟨6, ⟨some 54, none, (.fieldAddr 54 (.tmp 1) 11)⟩, [], []⟩,
  ⟨7, ⟨some 55, none, (.load 3 (.tmp 54))⟩, [], []⟩,
  ⟨8, ⟨some 56, none, (.fieldAddr 54 (.tmp 4) 8)⟩, [], []⟩,
  ⟨9, ⟨none, none, (.store 4 (.tmp 56) (.tmp 49))⟩, [3, 5, 7], [⟨some 51, none, (.load 4 (.tmp 50))⟩, ⟨some 53, none, (.load 3 (.tmp 52))⟩, ⟨some 55, none, (.load 3 (.tmp 54))⟩]⟩,
  ⟨10, ⟨some 57, none, (.fieldAddr 54 (.tmp 4) 9)⟩, [], []⟩,
  ⟨11, ⟨none, none, (.store 4 (.tmp 57) (.tmp 51))⟩, [5, 7], [⟨some 53, none, (.load 3 (.tmp 52))⟩, ⟨some 55, none, (.load 3 (.tmp 54))⟩]⟩,
  ⟨12, ⟨some 58, none, (.fieldAddr 54 (.tmp 4) 10)⟩, [], []⟩,
  ⟨13, ⟨none, none, (.store 3 (.tmp 58) (.tmp 53))⟩, [7], [⟨some 55, none, (.load 3 (.tmp 54))⟩]⟩,
  ⟨14, ⟨some 59, none, (.fieldAddr 54 (.tmp 4) 11)⟩, [], []⟩,
  ⟨15, ⟨none, none, (.store 3 (.tmp 59) (.tmp 55))⟩, [], []⟩] [48, 49, 50, 51, 52, 53, 54, 55, 56, 57, 58, 59] [1, 2, 3, 4]
@[simp] noncomputable def F46_r15 : CC := .reg [⟨some 60, none, (.move (.tmp 3))⟩,
  ⟨some 61, none, (.binOp .and 3 (.tmp 60) (.const (.int .i64 64)) 3)⟩,
  ⟨some 62, none, (.binOp .neq 3 (.tmp 61) (.const (.int .i64 0)) 3)⟩] [1, 2, 3, 4, 62]
@[simp] noncomputable def F46_r16 : CC := .reg [⟨some 63, none, (.fieldAddr 54 (.tmp 1) 12)⟩,
  ⟨some 64, none, (.load 3 (.tmp 63))⟩,
  ⟨some 65, none, (.fieldAddr 54 (.tmp 4) 12)⟩,
  ⟨none, none, (.store 3 (.tmp 65) (.tmp 64))⟩] [1, 2, 3, 4]
@[simp] noncomputable def F46_r17 : CC := .reg [⟨some 66, none, (.move (.tmp 3))⟩,
  ⟨some 67, none, (.binOp .and 3 (.tmp 66) (.const (.int .i64 128)) 3)⟩,
  ⟨some 68, none, (.binOp .neq 3 (.tmp 67) (.const (.int .i64 0)) 3)⟩] [1, 2, 3, 4, 68]
@[simp] noncomputable def F46_r18 : CC := .reg [⟨some 69, none, (.fieldAddr 54 (.tmp 1) 13)⟩,
  ⟨some 70, none, (.load 29 (.tmp 69))⟩,
  ⟨some 71, none, (.fieldAddr 54 (.tmp 4) 13)⟩,
  ⟨none, none, (.store 29 (.tmp 71) (.tmp 70))⟩] [1, 2, 3, 4]
@[simp] noncomputable def F46_r19 : CC := .reg [⟨some 72, none, (.move (.tmp 3))⟩,
  ⟨some 73, none, (.binOp .and 3 (.tmp 72) (.const (.int .i64 256)) 3)⟩,
  ⟨some 74, none, (.binOp .neq 3 (.tmp 73) (.const (.int .i64 0)) 3)⟩] [1, 2, 3, 4, 74]
@[simp] noncomputable def F46_r20 : CC := .reg [⟨some 75, none, (.fieldAddr 54 (.tmp 1) 14)⟩,
  ⟨some 76, none, (.load 27 (.tmp 75))⟩,
  ⟨some 77, none, (.fieldAddr 54 (.tmp 4) 14)⟩,
  ⟨none, none, (.store 27 (.tmp 77) (.tmp 76))⟩] [1, 2, 3, 4]
@[simp] noncomputable def F46_r21 : CC := .reg [⟨some 78, none, (.move (.tmp 3))⟩,
  ⟨some 79, none, (.binOp .and 3 (.tmp 78) (.const (.int .i64 512)) 3)⟩,
  ⟨some 80, none, (.binOp .neq 3 (.tmp 79) (.const (.int .i64 0)) 3)⟩] [1, 2, 4, 80]
@[simp] noncomputable def F46_r22 : CC := .reg [⟨some 81, none, (.fieldAddr 54 (.tmp 1) 15)⟩,
  ⟨some 82, none, (.load 52 (.tmp 81))⟩,
  ⟨some 83, none, (.fieldAddr 54 (.tmp 4) 15)⟩,
  ⟨none, none, (.store 52 (.tmp 83) (.tmp 82))⟩] [2, 4]
@[simp] noncomputable def F46_r23 : CC := .reg [⟨some 84, none, (.load 54 (.tmp 4))⟩,
  ⟨none, none, (.store 54 (.tmp 2) (.tmp 84))⟩] [2]
noncomputable def F46 : CC := (.seq F46_r0 (.seq F46_r1 (.seq F46_r2 (.seq (.seq F46_r3 (.cond (.tmp 17) F46_r4 .skip)) (.seq (.seq F46_r5 (.cond (.tmp 23) F46_r6 .skip)) (.seq (.seq F46_r7 (.cond (.tmp 29) F46_r8 .skip)) (.seq (.seq F46_r9 (.cond (.tmp 35) F46_r10 .skip)) (.seq (.seq F46_r11 (.cond (.tmp 41) F46_r12 .skip)) (.seq (.seq F46_r13 (.cond (.tmp 47) F46_r14 .skip)) (.seq (.seq F46_r15 (.cond (.tmp 62) F46_r16 .skip)) (.seq (.seq F46_r17 (.cond (.tmp 68) F46_r18 .skip)) (.seq (.seq F46_r19 (.cond (.tmp 74) F46_r20 .skip)) (.seq (.seq F46_r21 (.cond (.tmp 80) F46_r22 .skip)) (.seq F46_r23 .ret))))))))))))))
noncomputable def F46_inf : Nat → RI
  | 0 => ⟨[1, 2], [], []⟩
  | 1 => ⟨[1, 2, 3], [], []⟩
  | 2 => ⟨[1, 2, 3, 4], [], []⟩
  | 3 => ⟨[1, 2, 3, 4, 17], [], []⟩
  | 4 => ⟨[1, 2, 3, 4], [], []⟩
  | 5 => ⟨[1, 2, 3, 4, 23], [], []⟩
  | 6 => ⟨[1, 2, 3, 4], [], []⟩
  | 7 => ⟨[1, 2, 3, 4, 29], [], []⟩
  | 8 => ⟨[1, 2, 3, 4], [], []⟩
  | 9 => ⟨[1, 2, 3, 4, 35], [], []⟩
  | 10 => ⟨[1, 2, 3, 4], [], []⟩
  | 11 => ⟨[1, 2, 3, 4, 41], [], []⟩
  | 12 => ⟨[1, 2, 3, 4], [], []⟩
  | 13 => ⟨[1, 2, 3, 4, 47], [], []⟩
  | 14 => ⟨[1, 2, 3, 4], [0, 1, 0, 4, 0, 16, 0, 64, 3, 259, 783, 1807, 3903, 7999, 16383, 32767], [(0, []), (1, []), (2, []), (3, []), (4, []), (5, []), (6, []), (7, []), (8, []), (9, [3, 5, 7]), (10, []), (11, [5, 7]), (12, []), (13, [7]), (14, []), (15, [])]⟩
  | 15 => ⟨[1, 2, 3, 4, 62], [], []⟩
  | 16 => ⟨[1, 2, 3, 4], [], []⟩
  | 17 => ⟨[1, 2, 3, 4, 68], [], []⟩
  | 18 => ⟨[1, 2, 3, 4], [], []⟩
  | 19 => ⟨[1, 2, 3, 4, 74], [], []⟩
  | 20 => ⟨[1, 2, 3, 4], [], []⟩
  | 21 => ⟨[1, 2, 4, 80], [], []⟩
  | 22 => ⟨[2, 4], [], []⟩
  | 23 => ⟨[2], [], []⟩
  | _ => ⟨[], [], []⟩
noncomputable def F46_c : Code := Try.f46.body.getD .skip
theorem F46_b : Try.f46.body = some F46_c := by kernel_rfl
theorem F46_rs : Try.f46.results.toList = ([.cell 2 54] : List ResultVar) := by kernel_rfl
theorem F46_n : Try.f46.ntmps = 85 := by kernel_rfl
theorem F46_ok : toCC [] 85 F46_inf F46_c = some F46 := by kernel_rfl
theorem F46_in {args : List AV} {G : Hp} {post : AV → Hp → Prop} (ha : args.all AV.plain = true) (hn : args.length ≤ 85) (h : BDs args → awp Try.prog [] F46 (AEnds Try.prog [.cell 2 54] post) (initT args) G) : ACalls Try.prog 46 args G post :=
  acalls_cc Try.func46 F46_b F46_rs F46_n F46_ok mixed ha hn h

/- 47 ostiary/ctl.fields -/
@[simp] noncomputable def F47_r0 : CC := .reg [⟨some 2, none, (.assign (.const (.int .i64 0)))⟩] [0]
@[simp] noncomputable def F47_r1 : CC := .reg [⟨some 3, none, (.move (.tmp 0))⟩] [3]
@[simp] noncomputable def F47_r2 : CC := .reg [⟨some 5, none, (.binOp .eql 3 (.tmp 3) (.const (.int .i64 1)) 3)⟩,
  ⟨some 4, none, (.assign (.tmp 5))⟩] [3, 4]
@[simp] noncomputable def F47_r3 : CC := .reg [⟨some 6, none, (.binOp .eql 3 (.tmp 3) (.const (.int .i64 5)) 3)⟩,
  ⟨some 4, none, (.assign (.tmp 6))⟩] [3, 4]
@[simp] noncomputable def F47_r4 : CC := .reg [⟨some 2, none, (.assign (.const (.int .i64 64)))⟩] [2]
@[simp] noncomputable def F47_r5 : CC := .reg [⟨some 8, none, (.binOp .eql 3 (.tmp 3) (.const (.int .i64 2)) 3)⟩,
  ⟨some 7, none, (.assign (.tmp 8))⟩] [3, 7]
@[simp] noncomputable def F47_r6 : CC := .reg [⟨some 9, none, (.binOp .eql 3 (.tmp 3) (.const (.int .i64 4)) 3)⟩,
  ⟨some 7, none, (.assign (.tmp 9))⟩] [3, 7]
@[simp] noncomputable def F47_r7 : CC := .reg [⟨some 10, none, (.binOp .eql 3 (.tmp 3) (.const (.int .i64 7)) 3)⟩,
  ⟨some 7, none, (.assign (.tmp 10))⟩] [3, 7]
@[simp] noncomputable def F47_r8 : CC := .reg [⟨some 11, none, (.binOp .eql 3 (.tmp 3) (.const (.int .i64 8)) 3)⟩,
  ⟨some 7, none, (.assign (.tmp 11))⟩] [3, 7]
@[simp] noncomputable def F47_r9 : CC := .reg [⟨some 12, none, (.binOp .eql 3 (.tmp 3) (.const (.int .i64 10)) 3)⟩,
  ⟨some 7, none, (.assign (.tmp 12))⟩] [3, 7]
@[simp] noncomputable def F47_r10 : CC := .reg [⟨some 2, none, (.assign (.const (.int .i64 3)))⟩] [2]
@[simp] noncomputable def F47_r11 : CC := .reg [⟨some 14, none, (.binOp .eql 3 (.tmp 3) (.const (.int .i64 3)) 3)⟩,
  ⟨some 13, none, (.assign (.tmp 14))⟩] [3, 13]
@[simp] noncomputable def F47_r12 : CC := .reg [⟨some 2, none, (.assign (.const (.int .i64 533)))⟩] [2]
@[simp] noncomputable def F47_r13 : CC := .reg [⟨some 16, none, (.binOp .eql 3 (.tmp 3) (.const (.int .i64 6)) 3)⟩,
  ⟨some 15, none, (.assign (.tmp 16))⟩] [3, 15]
@[simp] noncomputable def F47_r14 : CC := .reg [⟨some 2, none, (.assign (.const (.int .i64 132)))⟩] [2]
@[simp] noncomputable def F47_r15 : CC := .reg [⟨some 18, none, (.binOp .eql 3 (.tmp 3) (.const (.int .i64 9)) 3)⟩,
  ⟨some 17, none, (.assign (.tmp 18))⟩] [3, 17]
@[simp] noncomputable def F47_r16 : CC := .reg [⟨some 2, none, (.assign (.const (.int .i64 303)))⟩] [2]
@[simp] noncomputable def F47_r17 : CC := .reg [⟨some 20, none, (.binOp .eql 3 (.tmp 3) (.const (.int .i64 11)) 3)⟩,
  ⟨some 19, none, (.assign (.tmp 20))⟩] [3, 19]
@[simp] noncomputable def F47_r18 : CC := .reg [⟨some 2, none, (.assign (.const (.int .i64 517)))⟩] [2]
@[simp] noncomputable def F47_r19 : CC := .reg [⟨some 22, none, (.binOp .eql 3 (.tmp 3) (.const (.int .i64 12)) 3)⟩,
  ⟨some 21, none, (.assign (.tmp 22))⟩] [3, 21]
@[simp] noncomputable def F47_r20 : CC := .reg [⟨some 2, none, (.assign (.const (.int .i64 16)))⟩] [2]
@[simp] noncomputable def F47_r21 : CC := .reg [⟨some 24, none, (.binOp .eql 3 (.tmp 3) (.const (.int .i64 13)) 3)⟩,
  ⟨some 23, none, (.assign (.tmp 24))⟩] [23]
@[simp] noncomputable def F47_r22 : CC := .reg [⟨some 2, none, (.assign (.const (.int .i64 4)))⟩] [2]
@[simp] noncomputable def F47_r23 : CC := .reg [⟨some 2, none, (.assign (.const (.int .i64 0)))⟩] [2]
noncomputable def F47 : CC := (.seq F47_r0 (.seq (.seq F47_r1 (.block 0 (.seq (.seq F47_r2 (.cond (.tmp 4) .skip F47_r3)) (.cond (.tmp 4) (.seq F47_r4 .ret) (.seq (.seq F47_r5 (.cond (.tmp 7) .skip (.seq F47_r6 (.cond (.tmp 7) .skip (.seq F47_r7 (.cond (.tmp 7) .skip (.seq F47_r8 (.cond (.tmp 7) .skip F47_r9)))))))) (.cond (.tmp 7) (.seq F47_r10 .ret) (.seq F47_r11 (.cond (.tmp 13) (.seq F47_r12 .ret) (.seq F47_r13 (.cond (.tmp 15) (.seq F47_r14 .ret) (.seq F47_r15 (.cond (.tmp 17) (.seq F47_r16 .ret) (.seq F47_r17 (.cond (.tmp 19) (.seq F47_r18 .ret) (.seq F47_r19 (.cond (.tmp 21) (.seq F47_r20 .ret) (.seq F47_r21 (.cond (.tmp 23) (.seq F47_r22 .ret) .skip)))))))))))))))))) (.seq F47_r23 .ret)))
noncomputable def F47_inf : Nat → RI
  | 0 => ⟨[0], [], []⟩
  | 1 => ⟨[3], [], []⟩
  | 2 => ⟨[3, 4], [], []⟩
  | 3 => ⟨[3, 4], [], []⟩
  | 4 => ⟨[2], [], []⟩
  | 5 => ⟨[3, 7], [], []⟩
  | 6 => ⟨[3, 7], [], []⟩
  | 7 => ⟨[3, 7], [], []⟩
  | 8 => ⟨[3, 7], [], []⟩
  | 9 => ⟨[3, 7], [], []⟩
  | 10 => ⟨[2], [], []⟩
  | 11 => ⟨[3, 13], [], []⟩
  | 12 => ⟨[2], [], []⟩
  | 13 => ⟨[3, 15], [], []⟩
  | 14 => ⟨[2], [], []⟩
  | 15 => ⟨[3, 17], [], []⟩
  | 16 => ⟨[2], [], []⟩
  | 17 => ⟨[3, 19], [], []⟩
  | 18 => ⟨[2], [], []⟩
  | 19 => ⟨[3, 21], [], []⟩
  | 20 => ⟨[2], [], []⟩
  | 21 => ⟨[23], [], []⟩
  | 22 => ⟨[2], [], []⟩
  | 23 => ⟨[2], [], []⟩
  | _ => ⟨[], [], []⟩
noncomputable def F47_c : Code := Try.f47.body.getD .skip
theorem F47_b : Try.f47.body = some F47_c := by kernel_rfl
theorem F47_rs : Try.f47.results.toList = ([.tmp 2] : List ResultVar) := by kernel_rfl
theorem F47_n : Try.f47.ntmps = 25 := by kernel_rfl
theorem F47_ok : toCC [] 25 F47_inf F47_c = some F47 := by kernel_rfl
theorem F47_in {args : List AV} {G : Hp} {post : AV → Hp → Prop} (ha : args.all AV.plain = true) (hn : args.length ≤ 25) (h : BDs args → awp Try.prog [] F47 (AEnds Try.prog [.tmp 2] post) (initT args) G) : ACalls Try.prog 47 args G post :=
  acalls_cc Try.func47 F47_b F47_rs F47_n F47_ok mixed ha hn h

/- 48 ostiary/flow.Good -/
@[simp] noncomputable def F48_r0 : CC := .reg [⟨some 1, none, (.box 27 (.tmp 0))⟩,
  ⟨some 2, none, (.assign (.const (.bool false)))⟩] [1]
@[simp] noncomputable def F48_r1 : CC := .reg [⟨some 3, none, (.fieldAddr 27 (.tmp 1) 0)⟩,
  ⟨some 4, none, (.load 24 (.tmp 3))⟩,
  ⟨some 5, none, (.binOp .gtr 24 (.tmp 4) (.const (.int .u64 281474976710655)) 24)⟩,
  ⟨some 6, none, (.move (.tmp 5))⟩,
  ⟨some 7, some (6, false), (.fieldAddr 27 (.tmp 1) 1)⟩,
  ⟨some 8, some (6, false), (.load 24 (.tmp 7))⟩,
  ⟨some 9, some (6, false), (.binOp .gtr 24 (.tmp 8) (.const (.int .u64 281474976710655)) 24)⟩,
  ⟨some 10, none, (.pick (.tmp 6) (.const (.bool true)) (.tmp 9))⟩,
  ⟨some 11, none, (.move (.tmp 10))⟩,
  ⟨some 12, some (11, false), (.fieldAddr 27 (.tmp 1) 4)⟩,
  ⟨some 13, some (11, false), (.load 3 (.tmp 12))⟩,
  ⟨some 14, some (11, false), (.binOp .lss 3 (.tmp 13) (.const (.int .i64 0)) 3)⟩,
  ⟨some 15, none, (.pick (.tmp 11) (.const (.bool true)) (.tmp 14))⟩,
  ⟨some 16, none, (.move (.tmp 15))⟩,
  ⟨some 17, some (16, false), (.fieldAddr 27 (.tmp 1) 4)⟩,
  ⟨some 18, some (16, false), (.load 3 (.tmp 17))⟩,
  ⟨some 19, some (16, false), (.binOp .gtr 3 (.tmp 18) (.const (.int .i64 255)) 3)⟩,
  ⟨some 20, none, (.pick (.tmp 16) (.const (.bool true)) (.tmp 19))⟩] [1, 20]
@[simp] noncomputable def F48_r2 : CC := .reg [⟨some 2, none, (.assign (.const (.bool false)))⟩] [2]
@[simp] noncomputable def F48_r3 : CC := .reg [⟨some 21, none, (.fieldAddr 27 (.tmp 1) 4)⟩,
  ⟨some 22, none, (.load 3 (.tmp 21))⟩,
  ⟨some 23, none, (.binOp .neq 3 (.tmp 22) (.const (.int .i64 6)) 3)⟩,
  ⟨some 24, none, (.move (.tmp 23))⟩,
  ⟨some 25, some (24, true), (.fieldAddr 27 (.tmp 1) 4)⟩,
  ⟨some 26, some (24, true), (.load 3 (.tmp 25))⟩,
  ⟨some 27, some (24, true), (.binOp .neq 3 (.tmp 26) (.const (.int .i64 17)) 3)⟩,
  ⟨some 28, none, (.pick (.tmp 24) (.tmp 27) (.const (.bool false)))⟩] [1, 28]
@[simp] noncomputable def F48_r4 : CC := .reg [⟨some 29, none, (.fieldAddr 27 (.tmp 1) 5)⟩,
  ⟨some 30, none, (.load 3 (.tmp 29))⟩,
  ⟨some 31, none, (.binOp .eql 3 (.tmp 30) (.const (.int .i64 0)) 3)⟩,
  ⟨some 32, none, (.move (.tmp 31))⟩,
  ⟨some 33, some (32, true), (.fieldAddr 27 (.tmp 1) 6)⟩,
  ⟨some 34, some (32, true), (.load 3 (.tmp 33))⟩,
  ⟨some 35, some (32, true), (.binOp .eql 3 (.tmp 34) (.const (.int .i64 0)) 3)⟩,
  ⟨some 36, none, (.pick (.tmp 32) (.tmp 35) (.const (.bool false)))⟩,
  ⟨some 2, none, (.assign (.tmp 36))⟩] [2]
@[simp] noncomputable def F48_r5 : CC := .reg [⟨some 37, none, (.fieldAddr 27 (.tmp 1) 5)⟩,
  ⟨some 38, none, (.load 3 (.tmp 37))⟩,
  ⟨some 39, none, (.binOp .geq 3 (.tmp 38) (.const (.int .i64 0)) 3)⟩,
  ⟨some 40, none, (.move (.tmp 39))⟩,
  ⟨some 41, some (40, true), (.fieldAddr 27 (.tmp 1) 5)⟩,
  ⟨some 42, some (40, true), (.load 3 (.tmp 41))⟩,
  ⟨some 43, some (40, true), (.binOp .leq 3 (.tmp 42) (.const (.int .i64 65535)) 3)⟩,
  ⟨some 44, none, (.pick (.tmp 40) (.tmp 43) (.const (.bool false)))⟩,
  ⟨some 45, none, (.move (.tmp 44))⟩,
  ⟨some 46, some (45, true), (.fieldAddr 27 (.tmp 1) 6)⟩,
  ⟨some 47, some (45, true), (.load 3 (.tmp 46))⟩,
  ⟨some 48, some (45, true), (.binOp .geq 3 (.tmp 47) (.const (.int .i64 0)) 3)⟩,
  ⟨some 49, none, (.pick (.tmp 45) (.tmp 48) (.const (.bool false)))⟩,
  ⟨some 50, none, (.move (.tmp 49))⟩,
  ⟨some 51, some (50, true), (.fieldAddr 27 (.tmp 1) 6)⟩,
  ⟨some 52, some (50, true), (.load 3 (.tmp 51))⟩,
  ⟨some 53, some (50, true), (.binOp .leq 3 (.tmp 52) (.const (.int .i64 65535)) 3)⟩,
  ⟨some 54, none, (.pick (.tmp 50) (.tmp 53) (.const (.bool false)))⟩,
  ⟨some 2, none, (.assign (.tmp 54))⟩] [2]
noncomputable def F48 : CC := (.seq F48_r0 (.seq (.seq F48_r1 (.cond (.tmp 20) (.seq F48_r2 .ret) .skip)) (.seq (.seq F48_r3 (.cond (.tmp 28) (.seq F48_r4 .ret) .skip)) (.seq F48_r5 .ret))))
noncomputable def F48_inf : Nat → RI
  | 0 => ⟨[1], [], []⟩
  | 1 => ⟨[1, 20], [], []⟩
  | 2 => ⟨[2], [], []⟩
  | 3 => ⟨[1, 28], [], []⟩
  | 4 => ⟨[2], [], []⟩
  | 5 => ⟨[2], [], []⟩
  | _ => ⟨[], [], []⟩
noncomputable def F48_c : Code := Try.f48.body.getD .skip
theorem F48_b : Try.f48.body = some F48_c := by kernel_rfl
theorem F48_rs : Try.f48.results.toList = ([.tmp 2] : List ResultVar) := by kernel_rfl
theorem F48_n : Try.f48.ntmps = 55 := by kernel_rfl
theorem F48_ok : toCC [] 55 F48_inf F48_c = some F48 := by kernel_rfl
theorem F48_in {args : List AV} {G : Hp} {post : AV → Hp → Prop} (ha : args.all AV.plain = true) (hn : args.length ≤ 55) (h : BDs args → awp Try.prog [] F48 (AEnds Try.prog [.tmp 2] post) (initT args) G) : ACalls Try.prog 48 args G post :=
  acalls_cc Try.func48 F48_b F48_rs F48_n F48_ok mixed ha hn h

/- 50 slices.rotateRight[ostiary/shelf.slot[uint32, ostiary/plan.one]] -/
@[simp] noncomputable def F50_r0 : CC := .reg [⟨some 4, none, (.move (.tmp 0))⟩,
  ⟨some 5, none, (.move (.tmp 0))⟩,
  ⟨some 6, none, (.call { callee := (.builtin .len), args := #[(.tmp 5)], argTypes := #[95] })⟩,
  ⟨some 7, none, (.move (.tmp 1))⟩,
  ⟨some 8, none, (.binOp .sub 3 (.tmp 6) (.tmp 7) 3)⟩,
  ⟨some 9, none, (.call { callee := (.value (.func 55)), args := #[(.tmp 4), (.tmp 8)], argTypes := #[95, 3] })⟩] []
noncomputable def F50 : CC := F50_r0
noncomputable def F50_inf : Nat → RI
  | 0 => ⟨[], [], []⟩
  | _ => ⟨[], [], []⟩
noncomputable def F50_c : Code := Try.f50.body.getD .skip
theorem F50_b : Try.f50.body = some F50_c := by kernel_rfl
theorem F50_rs : Try.f50.results.toList = ([] : List ResultVar) := by kernel_rfl
theorem F50_n : Try.f50.ntmps = 10 := by kernel_rfl
theorem F50_ok : toCC [] 10 F50_inf F50_c = some F50 := by kernel_rfl
theorem F50_in {args : List AV} {G : Hp} {post : AV → Hp → Prop} (ha : args.all AV.plain = true) (hn : args.length ≤ 10) (h : BDs args → awp Try.prog [] F50 (AEnds Try.prog [] post) (initT args) G) : ACalls Try.prog 50 args G post :=
  acalls_cc Try.func50 F50_b F50_rs F50_n F50_ok mixed ha hn h

/- 51 ostiary/ostiaryref08.Has -/
@[simp] noncomputable def F51_r0 : CC := .reg [⟨some 4, none, (.assign (.const (.bool false)))⟩] [0, 1]
@[simp] noncomputable def F51_r1 : CC := .reg [⟨some 7, none, (.move (.tmp 0))⟩,
  ⟨some 8, none, (.call { callee := (.value (.func 56)), args := #[(.tmp 7)], argTypes := #[3] })⟩,
  ⟨some 5, none, (.assign (.tmp 8))⟩] [1, 5]
@[simp] noncomputable def F51_r2 : CC := .reg [⟨some 6, none, (.assign (.const (.int .i64 0)))⟩] [1, 5, 6]
@[simp] noncomputable def F51_r3 : CC := .reg [⟨some 9, none, (.move (.tmp 6))⟩,
  ⟨some 10, none, (.move (.tmp 5))⟩,
  ⟨some 11, none, (.call { callee := (.builtin .len), args := #[(.tmp 10)], argTypes := #[9] })⟩,
  ⟨some 12, none, (.binOp .lss 3 (.tmp 9) (.tmp 11) 3)⟩] [1, 5, 6, 12]
@[simp] noncomputable def F51_r5 : CC := .reg [⟨some 15, none, (.move (.tmp 5))⟩,
  ⟨some 16, none, (.move (.tmp 6))⟩,
  ⟨some 17, none, (.index 9 (.tmp 15) (.tmp 16))⟩,
  ⟨some 18, none, (.move (.tmp 1))⟩,
  ⟨some 19, none, (.binOp .eql 5 (.tmp 17) (.tmp 18) 5)⟩] [1, 5, 6, 19]
@[simp] noncomputable def F51_r6 : CC := .reg [⟨some 4, none, (.assign (.const (.bool true)))⟩] [4]
@[simp] noncomputable def F51_r4 : CC := .reg [⟨some 13, none, (.move (.tmp 6))⟩,
  ⟨some 14, none, (.binOp .add 3 (.tmp 13) (.const (.int .i64 1)) 3)⟩,
  ⟨some 6, none, (.assign (.tmp 14))⟩] [1, 5, 6]
noncomputable def F51_l0 : CC := (.seq (.seq F51_r3 (.cond (.tmp 12) .skip (.exit 0))) (.seq (.block 1 (.seq F51_r5 (.cond (.tmp 19) (.seq F51_r6 .ret) .skip))) F51_r4))
@[simp] noncomputable def F51_r7 : CC := .reg [⟨some 4, none, (.assign (.const (.bool false)))⟩] [4]
noncomputable def F51 : CC := (.seq F51_r0 (.seq F51_r1 (.seq (.seq F51_r2 (.block 0 (.loop F51_l0))) (.seq F51_r7 .ret))))
noncomputable def F51_inf : Nat → RI
  | 0 => ⟨[0, 1], [], []⟩
  | 1 => ⟨[1, 5], [], []⟩
  | 2 => ⟨[1, 5, 6], [], []⟩
  | 3 => ⟨[1, 5, 6, 12], [], []⟩
  | 5 => ⟨[1, 5, 6, 19], [], []⟩
  | 6 => ⟨[4], [], []⟩
  | 4 => ⟨[1, 5, 6], [], []⟩
  | 7 => ⟨[4], [], []⟩
  | _ => ⟨[], [], []⟩
noncomputable def F51_c : Code := Try.f51.body.getD .skip
theorem F51_b : Try.f51.body = some F51_c := by kernel_rfl
theorem F51_rs : Try.f51.results.toList = ([.tmp 4] : List ResultVar) := by kernel_rfl
theorem F51_n : Try.f51.ntmps = 20 := by kernel_rfl
theorem F51_ok : toCC [] 20 F51_inf F51_c = some F51 := by kernel_rfl
theorem F51_in {args : List AV} {G : Hp} {post : AV → Hp → Prop} (ha : args.all AV.plain = true) (hn : args.length ≤ 20) (h : BDs args → awp Try.prog [] F51 (AEnds Try.prog [.tmp 4] post) (initT args) G) : ACalls Try.prog 51 args G post :=
  acalls_cc Try.func51 F51_b F51_rs F51_n F51_ok mixed ha hn h
end Go.Proofs.Ytgideonigiokbaa
