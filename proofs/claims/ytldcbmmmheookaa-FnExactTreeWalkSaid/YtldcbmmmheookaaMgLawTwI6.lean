/- Texts of this claim, joined: LTwI. -/
import Derived.Test.YtldcbmmmheookaaProg
import Derived.KernelRfl
import Derived.Test.YtldcbmmmheookaaMgLawTwI5
namespace Go.Proofs.Ytldcbmmmheookaa.Ai
open Go
def ords4 : List (Nat × List (Nat × Bool)) := [(16, [(0, false), (1, false), (2, true), (3, true), (4, false)])]
def cd4 : Cd := (.seq (.reg [⟨⟨some 3, Op.box 36 (Operand.tmp 0), none⟩, []⟩,
  ⟨⟨some 6, Op.assign (Operand.const (Value.bool false)), none⟩, []⟩]) (.seq (.seq (.reg [⟨⟨some 20, Op.move (Operand.tmp 1), none⟩, []⟩,
  ⟨⟨some 21, Op.call { callee := (Callee.builtin Builtin.len), args := #[(Operand.tmp 20)], argTypes := #[27] }, none⟩, []⟩,
  ⟨⟨some 22, Op.binOp BinOp.gtr 3 (Operand.tmp 21) (Operand.const (Value.int IntKind.i64 1048576)) 3, none⟩, []⟩]) (.cond (Operand.tmp 22) (.seq (.reg [⟨⟨some 6, Op.assign (Operand.const (Value.bool true)), none⟩, []⟩]) .ret) .skip)) (.seq (.seq (.reg [⟨⟨some 23, Op.move (Operand.tmp 2), none⟩, []⟩,
  ⟨⟨some 24, Op.call { callee := (Callee.builtin Builtin.len), args := #[(Operand.tmp 23)], argTypes := #[27] }, none⟩, []⟩,
  ⟨⟨some 25, Op.binOp BinOp.gtr 3 (Operand.tmp 24) (Operand.const (Value.int IntKind.i64 1048576)) 3, none⟩, []⟩]) (.cond (Operand.tmp 25) (.seq (.reg [⟨⟨some 6, Op.assign (Operand.const (Value.bool true)), none⟩, []⟩]) .ret) .skip)) (.seq (.reg [⟨⟨some 7, Op.assign (Operand.const (Value.int IntKind.i64 1048576)), none⟩, []⟩]) (.seq (.reg [⟨⟨some 26, Op.load 36 (Operand.tmp 3), none⟩, []⟩,
  ⟨⟨some 27, Op.move (Operand.tmp 7), none⟩, []⟩,
  ⟨⟨some 28, Op.call { callee := (Callee.value (Operand.func 16)), args := #[(Operand.tmp 26), (Operand.tmp 27)], argTypes := #[36, 3] }, none⟩, []⟩,
  ⟨⟨some 7, Op.assign (Operand.tmp 28), none⟩, []⟩]) (.seq (.seq (.reg [⟨⟨some 29, Op.move (Operand.tmp 7), none⟩, []⟩,
  ⟨⟨some 30, Op.binOp BinOp.lss 3 (Operand.tmp 29) (Operand.const (Value.int IntKind.i64 0)) 3, none⟩, []⟩]) (.cond (Operand.tmp 30) (.seq (.reg [⟨⟨some 6, Op.assign (Operand.const (Value.bool true)), none⟩, []⟩]) .ret) .skip)) (.seq (.reg [⟨⟨some 32, Op.load 36 (Operand.tmp 3), none⟩, []⟩,
  ⟨⟨some 33, Op.call { callee := (Callee.value (Operand.func 18)), args := #[(Operand.tmp 32)], argTypes := #[36] }, none⟩, []⟩,
  ⟨⟨some 34, Op.move (Operand.tmp 1), none⟩, []⟩,
  ⟨⟨some 35, Op.call { callee := (Callee.value (Operand.func 19)), args := #[(Operand.tmp 34)], argTypes := #[27] }, none⟩, []⟩,
  ⟨⟨some 36, Op.move (Operand.tmp 2), none⟩, []⟩,
  ⟨⟨some 37, Op.call { callee := (Callee.value (Operand.func 19)), args := #[(Operand.tmp 36)], argTypes := #[27] }, none⟩, []⟩,
  ⟨⟨some 38, Op.call { callee := (Callee.value (Operand.func 17)), args := #[(Operand.tmp 33), (Operand.tmp 35), (Operand.tmp 37)], argTypes := #[26, 27, 27] }, none⟩, []⟩,
  ⟨⟨some 31, Op.move (Operand.tmp 38), none⟩, []⟩,
  ⟨⟨some 39, Op.extract (Operand.tmp 31) 0, none⟩, []⟩,
  ⟨⟨some 40, Op.extract (Operand.tmp 31) 1, none⟩, []⟩,
  ⟨⟨some 8, Op.assign (Operand.tmp 39), none⟩, []⟩,
  ⟨⟨some 9, Op.assign (Operand.tmp 40), none⟩, []⟩]) (.seq (.reg [⟨⟨some 41, Op.load 36 (Operand.tmp 3), none⟩, []⟩,
  ⟨⟨some 42, Op.call { callee := (Callee.value (Operand.func 18)), args := #[(Operand.tmp 41)], argTypes := #[36] }, none⟩, []⟩,
  ⟨⟨some 10, Op.alloc 26, none⟩, []⟩,
  ⟨⟨none, Op.store 26 (Operand.tmp 10) (Operand.tmp 42), none⟩, []⟩]) (.seq (.reg [⟨⟨some 43, Op.move (Operand.tmp 1), none⟩, []⟩,
  ⟨⟨some 44, Op.call { callee := (Callee.value (Operand.func 19)), args := #[(Operand.tmp 43)], argTypes := #[27] }, none⟩, []⟩,
  ⟨⟨some 11, Op.assign (Operand.tmp 44), none⟩, []⟩]) (.seq (.reg [⟨⟨some 45, Op.move (Operand.tmp 2), none⟩, []⟩,
  ⟨⟨some 46, Op.call { callee := (Callee.value (Operand.func 19)), args := #[(Operand.tmp 45)], argTypes := #[27] }, none⟩, []⟩,
  ⟨⟨some 12, Op.assign (Operand.tmp 46), none⟩, []⟩]) (.seq (.reg [⟨⟨some 48, Op.load 26 (Operand.tmp 10), none⟩, []⟩,
  ⟨⟨some 49, Op.move (Operand.tmp 11), none⟩, []⟩,
  ⟨⟨some 50, Op.move (Operand.tmp 12), none⟩, []⟩,
  ⟨⟨some 51, Op.call { callee := (Callee.value (Operand.func 20)), args := #[(Operand.tmp 48), (Operand.tmp 49), (Operand.tmp 50)], argTypes := #[26, 27, 27] }, none⟩, []⟩,
  ⟨⟨some 47, Op.move (Operand.tmp 51), none⟩, []⟩,
  ⟨⟨some 52, Op.extract (Operand.tmp 47) 0, none⟩, []⟩,
  ⟨⟨some 53, Op.extract (Operand.tmp 47) 1, none⟩, []⟩,
  ⟨⟨some 13, Op.assign (Operand.tmp 52), none⟩, []⟩,
  ⟨⟨some 14, Op.assign (Operand.tmp 53), none⟩, []⟩]) (.seq (.seq (.reg [⟨⟨some 54, Op.move (Operand.tmp 13), none⟩, []⟩,
  ⟨⟨some 55, Op.move (Operand.tmp 8), none⟩, []⟩,
  ⟨⟨some 56, Op.call { callee := (Callee.value (Operand.func 21)), args := #[(Operand.tmp 54), (Operand.tmp 55)], argTypes := #[38, 38] }, none⟩, []⟩,
  ⟨⟨some 57, Op.unOp UnOp.not 4 (Operand.tmp 56), none⟩, []⟩,
  ⟨⟨some 58, Op.move (Operand.tmp 57), none⟩, []⟩,
  ⟨⟨some 59, Op.move (Operand.tmp 14), some (58, false)⟩, []⟩,
  ⟨⟨some 60, Op.move (Operand.tmp 9), some (58, false)⟩, []⟩,
  ⟨⟨some 61, Op.binOp BinOp.neq 4 (Operand.tmp 59) (Operand.tmp 60) 4, some (58, false)⟩, []⟩,
  ⟨⟨some 62, Op.pick (Operand.tmp 58) (Operand.const (Value.bool true)) (Operand.tmp 61), none⟩, []⟩]) (.cond (Operand.tmp 62) (.seq (.reg [⟨⟨some 6, Op.assign (Operand.const (Value.bool false)), none⟩, []⟩]) .ret) .skip)) (.seq (.seq (.reg [⟨⟨some 63, Op.load 26 (Operand.tmp 10), none⟩, []⟩,
  ⟨⟨some 64, Op.load 36 (Operand.tmp 3), none⟩, []⟩,
  ⟨⟨some 65, Op.call { callee := (Callee.value (Operand.func 18)), args := #[(Operand.tmp 64)], argTypes := #[36] }, none⟩, [⟨some 63, Op.load 26 (Operand.tmp 10), none⟩]⟩,
  ⟨⟨some 66, Op.call { callee := (Callee.value (Operand.func 22)), args := #[(Operand.tmp 63), (Operand.tmp 65)], argTypes := #[26, 26] }, none⟩, []⟩,
  ⟨⟨some 67, Op.unOp UnOp.not 4 (Operand.tmp 66), none⟩, []⟩]) (.cond (Operand.tmp 67) (.seq (.reg [⟨⟨some 6, Op.assign (Operand.const (Value.bool false)), none⟩, []⟩]) .ret) .skip)) (.seq (.seq (.reg [⟨⟨some 68, Op.move (Operand.tmp 11), none⟩, []⟩,
  ⟨⟨some 69, Op.move (Operand.tmp 1), none⟩, []⟩,
  ⟨⟨some 70, Op.call { callee := (Callee.value (Operand.func 19)), args := #[(Operand.tmp 69)], argTypes := #[27] }, none⟩, []⟩,
  ⟨⟨some 71, Op.call { callee := (Callee.value (Operand.func 23)), args := #[(Operand.tmp 68), (Operand.tmp 70)], argTypes := #[27, 27] }, none⟩, []⟩,
  ⟨⟨some 72, Op.unOp UnOp.not 4 (Operand.tmp 71), none⟩, []⟩]) (.cond (Operand.tmp 72) (.seq (.reg [⟨⟨some 6, Op.assign (Operand.const (Value.bool false)), none⟩, []⟩]) .ret) .skip)) (.seq (.seq (.reg [⟨⟨some 73, Op.move (Operand.tmp 12), none⟩, []⟩,
  ⟨⟨some 74, Op.move (Operand.tmp 2), none⟩, []⟩,
  ⟨⟨some 75, Op.call { callee := (Callee.value (Operand.func 19)), args := #[(Operand.tmp 74)], argTypes := #[27] }, none⟩, []⟩,
  ⟨⟨some 76, Op.call { callee := (Callee.value (Operand.func 23)), args := #[(Operand.tmp 73), (Operand.tmp 75)], argTypes := #[27, 27] }, none⟩, []⟩,
  ⟨⟨some 77, Op.unOp UnOp.not 4 (Operand.tmp 76), none⟩, []⟩]) (.cond (Operand.tmp 77) (.seq (.reg [⟨⟨some 6, Op.assign (Operand.const (Value.bool false)), none⟩, []⟩]) .ret) .skip)) (.seq (.reg [⟨⟨some 15, Op.assign (Operand.const (Value.int IntKind.i64 1)), none⟩, []⟩]) (.seq (.reg [⟨⟨some 78, Op.load 26 (Operand.tmp 10), none⟩, []⟩,
  ⟨⟨some 79, Op.move (Operand.tmp 15), none⟩, []⟩,
  ⟨⟨some 80, Op.call { callee := (Callee.value (Operand.func 24)), args := #[(Operand.tmp 78), (Operand.tmp 79)], argTypes := #[26, 3] }, none⟩, []⟩,
  ⟨⟨some 15, Op.assign (Operand.tmp 80), none⟩, []⟩]) (.seq (.reg [⟨⟨some 81, Op.move (Operand.tmp 11), none⟩, []⟩,
  ⟨⟨some 82, Op.move (Operand.tmp 15), none⟩, []⟩,
  ⟨⟨some 83, Op.call { callee := (Callee.value (Operand.func 25)), args := #[(Operand.tmp 81), (Operand.tmp 82)], argTypes := #[27, 3] }, none⟩, []⟩,
  ⟨⟨some 15, Op.assign (Operand.tmp 83), none⟩, []⟩]) (.seq (.reg [⟨⟨some 84, Op.move (Operand.tmp 12), none⟩, []⟩,
  ⟨⟨some 85, Op.move (Operand.tmp 15), none⟩, []⟩,
  ⟨⟨some 86, Op.call { callee := (Callee.value (Operand.func 25)), args := #[(Operand.tmp 84), (Operand.tmp 85)], argTypes := #[27, 3] }, none⟩, []⟩,
  ⟨⟨some 15, Op.assign (Operand.tmp 86), none⟩, []⟩]) (.seq (.seq (.reg [⟨⟨some 87, Op.move (Operand.tmp 15), none⟩, []⟩,
  ⟨⟨some 88, Op.binOp BinOp.lss 3 (Operand.tmp 87) (Operand.const (Value.int IntKind.i64 0)) 3, none⟩, []⟩,
  ⟨⟨some 89, Op.move (Operand.tmp 88), none⟩, []⟩,
  ⟨⟨some 90, Op.move (Operand.tmp 13), some (89, false)⟩, []⟩,
  ⟨⟨some 91, Op.move (Operand.tmp 8), some (89, false)⟩, []⟩,
  ⟨⟨some 92, Op.call { callee := (Callee.value (Operand.func 21)), args := #[(Operand.tmp 90), (Operand.tmp 91)], argTypes := #[38, 38] }, some (89, false)⟩, []⟩,
  ⟨⟨some 93, Op.unOp UnOp.not 4 (Operand.tmp 92), some (89, false)⟩, []⟩,
  ⟨⟨some 94, Op.pick (Operand.tmp 89) (Operand.const (Value.bool true)) (Operand.tmp 93), none⟩, []⟩,
  ⟨⟨some 95, Op.move (Operand.tmp 94), none⟩, []⟩,
  ⟨⟨some 96, Op.move (Operand.tmp 14), some (95, false)⟩, []⟩,
  ⟨⟨some 97, Op.move (Operand.tmp 9), some (95, false)⟩, []⟩,
  ⟨⟨some 98, Op.binOp BinOp.neq 4 (Operand.tmp 96) (Operand.tmp 97) 4, some (95, false)⟩, []⟩,
  ⟨⟨some 99, Op.pick (Operand.tmp 95) (Operand.const (Value.bool true)) (Operand.tmp 98), none⟩, []⟩]) (.cond (Operand.tmp 99) (.seq (.reg [⟨⟨some 6, Op.assign (Operand.const (Value.bool false)), none⟩, []⟩]) .ret) .skip)) (.seq (.reg [⟨⟨some 16, Op.assign (Operand.const (Value.int IntKind.i64 1)), none⟩, []⟩]) (.seq (.reg [⟨⟨some 100, Op.move (Operand.tmp 13), none⟩, []⟩,
  ⟨⟨some 101, Op.move (Operand.tmp 16), none⟩, []⟩,
  ⟨⟨some 102, Op.call { callee := (Callee.value (Operand.func 26)), args := #[(Operand.tmp 100), (Operand.tmp 101)], argTypes := #[38, 3] }, none⟩, []⟩,
  ⟨⟨some 16, Op.assign (Operand.tmp 102), none⟩, []⟩]) (.seq (.reg [⟨⟨some 17, Op.assign (Operand.const (Value.int IntKind.i64 1)), none⟩, []⟩]) (.seq (.reg [⟨⟨some 103, Op.move (Operand.tmp 13), none⟩, []⟩,
  ⟨⟨some 104, Op.move (Operand.tmp 17), none⟩, []⟩,
  ⟨⟨some 105, Op.call { callee := (Callee.value (Operand.func 27)), args := #[(Operand.tmp 103), (Operand.tmp 104)], argTypes := #[38, 3] }, none⟩, []⟩,
  ⟨⟨some 17, Op.assign (Operand.tmp 105), none⟩, []⟩]) (.seq (.seq (.reg [⟨⟨some 106, Op.move (Operand.tmp 17), none⟩, []⟩,
  ⟨⟨some 107, Op.binOp BinOp.lss 3 (Operand.tmp 106) (Operand.const (Value.int IntKind.i64 0)) 3, none⟩, []⟩]) (.cond (Operand.tmp 107) (.seq (.reg [⟨⟨some 6, Op.assign (Operand.const (Value.bool false)), none⟩, []⟩]) .ret) .skip)) (.seq (.seq (.reg [⟨⟨some 108, Op.move (Operand.tmp 17), none⟩, []⟩,
  ⟨⟨some 109, Op.move (Operand.tmp 16), none⟩, []⟩,
  ⟨⟨some 110, Op.binOp BinOp.neq 3 (Operand.tmp 108) (Operand.tmp 109) 3, none⟩, []⟩]) (.cond (Operand.tmp 110) (.seq (.reg [⟨⟨some 6, Op.assign (Operand.const (Value.bool false)), none⟩, []⟩]) .ret) .skip)) (.seq (.reg [⟨⟨some 112, Op.load 36 (Operand.tmp 3), none⟩, []⟩,
  ⟨⟨some 113, Op.call { callee := (Callee.value (Operand.func 18)), args := #[(Operand.tmp 112)], argTypes := #[36] }, none⟩, []⟩,
  ⟨⟨some 114, Op.move (Operand.tmp 1), none⟩, []⟩,
  ⟨⟨some 115, Op.call { callee := (Callee.value (Operand.func 19)), args := #[(Operand.tmp 114)], argTypes := #[27] }, none⟩, []⟩,
  ⟨⟨some 116, Op.move (Operand.tmp 2), none⟩, []⟩,
  ⟨⟨some 117, Op.call { callee := (Callee.value (Operand.func 19)), args := #[(Operand.tmp 116)], argTypes := #[27] }, none⟩, []⟩,
  ⟨⟨some 118, Op.call { callee := (Callee.value (Operand.func 20)), args := #[(Operand.tmp 113), (Operand.tmp 115), (Operand.tmp 117)], argTypes := #[26, 27, 27] }, none⟩, []⟩,
  ⟨⟨some 111, Op.move (Operand.tmp 118), none⟩, []⟩,
  ⟨⟨some 119, Op.extract (Operand.tmp 111) 0, none⟩, []⟩,
  ⟨⟨some 120, Op.extract (Operand.tmp 111) 1, none⟩, []⟩,
  ⟨⟨some 18, Op.assign (Operand.tmp 119), none⟩, []⟩,
  ⟨⟨some 19, Op.assign (Operand.tmp 120), none⟩, []⟩]) (.seq (.seq (.reg [⟨⟨some 121, Op.move (Operand.tmp 18), none⟩, []⟩,
  ⟨⟨some 122, Op.move (Operand.tmp 8), none⟩, []⟩,
  ⟨⟨some 123, Op.call { callee := (Callee.value (Operand.func 21)), args := #[(Operand.tmp 121), (Operand.tmp 122)], argTypes := #[38, 38] }, none⟩, []⟩,
  ⟨⟨some 124, Op.unOp UnOp.not 4 (Operand.tmp 123), none⟩, []⟩,
  ⟨⟨some 125, Op.move (Operand.tmp 124), none⟩, []⟩,
  ⟨⟨some 126, Op.move (Operand.tmp 19), some (125, false)⟩, []⟩,
  ⟨⟨some 127, Op.move (Operand.tmp 9), some (125, false)⟩, []⟩,
  ⟨⟨some 128, Op.binOp BinOp.neq 4 (Operand.tmp 126) (Operand.tmp 127) 4, some (125, false)⟩, []⟩,
  ⟨⟨some 129, Op.pick (Operand.tmp 125) (Operand.const (Value.bool true)) (Operand.tmp 128), none⟩, []⟩]) (.cond (Operand.tmp 129) (.seq (.reg [⟨⟨some 6, Op.assign (Operand.const (Value.bool false)), none⟩, []⟩]) .ret) .skip)) (.seq (.reg [⟨⟨some 17, Op.assign (Operand.const (Value.int IntKind.i64 1)), none⟩, []⟩]) (.seq (.reg [⟨⟨some 130, Op.move (Operand.tmp 13), none⟩, []⟩,
  ⟨⟨some 131, Op.move (Operand.tmp 17), none⟩, []⟩,
  ⟨⟨some 132, Op.call { callee := (Callee.value (Operand.func 27)), args := #[(Operand.tmp 130), (Operand.tmp 131)], argTypes := #[38, 3] }, none⟩, []⟩,
  ⟨⟨some 17, Op.assign (Operand.tmp 132), none⟩, []⟩]) (.seq (.seq (.reg [⟨⟨some 133, Op.move (Operand.tmp 17), none⟩, []⟩,
  ⟨⟨some 134, Op.binOp BinOp.lss 3 (Operand.tmp 133) (Operand.const (Value.int IntKind.i64 0)) 3, none⟩, []⟩]) (.cond (Operand.tmp 134) (.seq (.reg [⟨⟨some 6, Op.assign (Operand.const (Value.bool false)), none⟩, []⟩]) .ret) .skip)) (.seq (.seq (.reg [⟨⟨some 135, Op.move (Operand.tmp 17), none⟩, []⟩,
  ⟨⟨some 136, Op.move (Operand.tmp 16), none⟩, []⟩,
  ⟨⟨some 137, Op.binOp BinOp.neq 3 (Operand.tmp 135) (Operand.tmp 136) 3, none⟩, []⟩]) (.cond (Operand.tmp 137) (.seq (.reg [⟨⟨some 6, Op.assign (Operand.const (Value.bool false)), none⟩, []⟩]) .ret) .skip)) (.seq (.reg [⟨⟨some 6, Op.assign (Operand.const (Value.bool true)), none⟩, []⟩]) .ret)))))))))))))))))))))))))))))))))
theorem sl4 : slim Try.f4.ntmps ords4 (Try.f4.body.getD .skip) = some cd4 := by kernel_rfl
theorem in4 {args : List Value} {H : AH} {R : Value → AH → Prop} (hl : args.length = 3) (h : ∀ (Q : Exit → Sl → AH → Prop), (∀ e s H, endA Try.prog [ResultVar.tmp 6] R e s H → Q e s H) → wpC Try.prog cd4 Q (enterA args) H) : ACalls Try.prog 4 args H R :=
  ACalls.intro (by kernel_rfl) Try.func4 rfl (by kernel_rfl) sl4 hl (of_decide_eq_true (by kernel_rfl)) (by kernel_rfl) h
end Go.Proofs.Ytldcbmmmheookaa.Ai
namespace Go.Proofs.Ytldcbmmmheookaa.Ai
open Go Go.RowKit
set_option linter.unusedVariables false
set_option linter.unusedSimpArgs false
set_option maxRecDepth 20000 in
set_option maxHeartbeats 8000000 in
theorem twILaw_c  (n0 : Int) (v0 : Value) (v1 : Value) (v2 : Value) (xs0 : List (Int × Int)) (xs1 : List Int) (xs2 : List Int) (H0 : AH) (r0 : RowP 71 H0 v0 xs0) (b0 : (∀ y ∈ xs0, I64 y.1 ∧ I64 y.2) ∧ (xs0.length : Int) ≤ 9223372036854775807) (r1 : Row 3 H0 v1 xs1) (b1 : ∀ y ∈ xs1, I64 y) (r2 : Row 3 H0 v2 xs2) (b2 : ∀ y ∈ xs2, I64 y) (bn0 : I64 n0) :
    ACalls Try.prog 4 [.agg (List.toArray [.int .i64 n0, v0]), v1, v2] H0 fun r H' => r = .bool true := by
  refine in4 rfl ?_
  intro Q hQ
  simp (maxSteps := 4000000) (disch := omega) only [cd4, r1.len Try.underlying27, r2.len Try.underlying27, r0.boxL, S, S1, S2, S3, S4, S5, ST, eq_self, reduceIte, reduceCtorEq, Nat.reduceEqDiff, Nat.reduceAdd]
  generalize hG0 : H0 ++ [AObj.cells [.int .i64 n0, v0] 36 false] = H1
  have p1 : H0 <+: H1 := by rw [← hG0]; exact List.prefix_append _ _
  have CB0_1 : H1[H0.length]? = some (.cells [.int .i64 n0, v0] 36 false) := by rw [← hG0]; exact at_new ..
  have L1 := p1.length_le
  have Lb := at_lt CB0_1
  try simp (maxSteps := 4000000) (disch := omega) only [r1.len Try.underlying27, r2.len Try.underlying27, ld_agg ag36 cs36 CB0_1, S, S1, S2, S3, S4, S5, ST, eq_self, reduceIte, reduceCtorEq, Nat.reduceEqDiff, Nat.reduceAdd]
  refine brD.intro (fun g1 => ?_) (fun g1 => ?_) <;> simp (maxSteps := 4000000) (disch := omega) only [r1.len Try.underlying27, r2.len Try.underlying27, ld_agg ag36 cs36 CB0_1, S, S1, S2, S3, S4, S5, ST, eq_self, reduceIte, reduceCtorEq, Nat.reduceEqDiff, Nat.reduceAdd]
  · refine hQ _ _ _ ?_
    simp (maxSteps := 4000000) (disch := omega) only [ld_agg ag36 cs36 CB0_1, S, S1, S2, S3, S4, S5, ST, eq_self, reduceIte, reduceCtorEq, Nat.reduceEqDiff, Nat.reduceAdd]
  have l1 : xs1.length ≤ 1048576 := by omega
  refine brD.intro (fun g2 => ?_) (fun g2 => ?_) <;> simp (maxSteps := 4000000) (disch := omega) only [r1.len Try.underlying27, r2.len Try.underlying27, ld_agg ag36 cs36 CB0_1, S, S1, S2, S3, S4, S5, ST, eq_self, reduceIte, reduceCtorEq, Nat.reduceEqDiff, Nat.reduceAdd]
  · refine hQ _ _ _ ?_
    simp (maxSteps := 4000000) (disch := omega) only [ld_agg ag36 cs36 CB0_1, S, S1, S2, S3, S4, S5, ST, eq_self, reduceIte, reduceCtorEq, Nat.reduceEqDiff, Nat.reduceAdd]
  have l2 : xs2.length ≤ 1048576 := by omega
  have Ra0_0 := r0.b
  have Ra0_1 := Ra0_0.pre p1
  have Ra1_0 := r1.b
  have Ra1_1 := Ra1_0.pre p1
  have Ra2_0 := r2.b
  have Ra2_1 := Ra2_0.pre p1
  refine CallH.by (szGraph_c n0 v0 xs0 (1048576) H1 Ra0_1.1 (by omega) b0.2) ?_
  rintro _ H2 ⟨rfl, p2⟩
  have Ra0_2 := Ra0_1.pre p2
  have Ra1_2 := Ra1_1.pre p2
  have Ra2_2 := Ra2_1.pre p2
  have CB0_2 := pre_at p2 CB0_1
  have L2 := p2.length_le
  simp (maxSteps := 4000000) (disch := omega) only [ld_agg ag36 cs36 CB0_2, S, S1, S2, S3, S4, S5, ST, eq_self, reduceIte, reduceCtorEq, Nat.reduceEqDiff, Nat.reduceAdd]
  by_cases g0 : 1048576 - (xs0.length : Int) < 0
  · rw [if_pos g0]
    try simp (maxSteps := 4000000) (disch := omega) only [ld_agg ag36 cs36 CB0_2, S, S1, S2, S3, S4, S5, ST, eq_self, reduceIte, reduceCtorEq, Nat.reduceEqDiff, Nat.reduceAdd]
    try (refine brD.intro (fun _ => ?_) (fun h => absurd h (by omega)))
    try simp (maxSteps := 4000000) (disch := omega) only [ld_agg ag36 cs36 CB0_2, S, S1, S2, S3, S4, S5, ST, eq_self, reduceIte, reduceCtorEq, Nat.reduceEqDiff, Nat.reduceAdd]
    refine hQ _ _ _ ?_
    simp (maxSteps := 4000000) (disch := omega) only [ld_agg ag36 cs36 CB0_2, S, S1, S2, S3, S4, S5, ST, eq_self, reduceIte, reduceCtorEq, Nat.reduceEqDiff, Nat.reduceAdd]
  rw [if_neg g0]
  try simp (maxSteps := 4000000) (disch := omega) only [g0, ld_agg ag36 cs36 CB0_2, S, S1, S2, S3, S4, S5, ST, eq_self, reduceIte, reduceCtorEq, Nat.reduceEqDiff, Nat.reduceAdd]
  try refine brD.intro (fun h => absurd h (by omega)) (fun _ => ?_)
  try simp (maxSteps := 4000000) (disch := omega) only [g0, ld_agg ag36 cs36 CB0_2, S, S1, S2, S3, S4, S5, ST, eq_self, reduceIte, reduceCtorEq, Nat.reduceEqDiff, Nat.reduceAdd]
  have l0 : xs0.length ≤ 1048576 := by omega
  have L0_big : xs0.length ≤ 1099511627776 := by omega
  have L1_big : xs1.length ≤ 1099511627776 := by omega
  have L2_big : xs2.length ≤ 1099511627776 := by omega
  refine CallH.by (toGraph_c n0 v0 xs0 H2 Ra0_2.1 L0_big) ?_
  rintro _ H3 ⟨c0, rfl, qc0, p3⟩
  have Ra0_3 := Ra0_2.pre p3
  have Ra1_3 := Ra1_2.pre p3
  have Ra2_3 := Ra2_2.pre p3
  have CB0_3 := pre_at p3 CB0_2
  have L3 := p3.length_le
  have Mc0_3 := InP.of qc0
  have Rc0_3 := Mc0_3.row
  simp (maxSteps := 4000000) (disch := omega) only [ld_agg ag36 cs36 CB0_3, S, S1, S2, S3, S4, S5, ST, eq_self, reduceIte, reduceCtorEq, Nat.reduceEqDiff, Nat.reduceAdd]
  refine CallH.by (toIntS_c v1 xs1 H3 Ra1_3.1 L1_big) ?_
  rintro c1 H4 ⟨qc1, p4⟩
  have Ra0_4 := Ra0_3.pre p4
  have Ra1_4 := Ra1_3.pre p4
  have Ra2_4 := Ra2_3.pre p4
  have Rc0_4 := Rc0_3.pre p4
  have Mc0_4 := Mc0_3.pre p4
  have CB0_4 := pre_at p4 CB0_3
  have L4 := p4.length_le
  have Mc1_4 := InI.of qc1.mine
  have Rc1_4 := Mc1_4.row
  simp (maxSteps := 4000000) (disch := omega) only [ld_agg ag36 cs36 CB0_4, S, S1, S2, S3, S4, S5, ST, eq_self, reduceIte, reduceCtorEq, Nat.reduceEqDiff, Nat.reduceAdd]
  refine CallH.by (toIntS_c v2 xs2 H4 Ra2_4.1 L2_big) ?_
  rintro c2 H5 ⟨qc2, p5⟩
  have Ra0_5 := Ra0_4.pre p5
  have Ra1_5 := Ra1_4.pre p5
  have Ra2_5 := Ra2_4.pre p5
  have Rc0_5 := Rc0_4.pre p5
  have Rc1_5 := Rc1_4.pre p5
  have Mc0_5 := Mc0_4.pre p5
  have Mc1_5 := Mc1_4.pre p5
  have CB0_5 := pre_at p5 CB0_4
  have L5 := p5.length_le
  have Mc2_5 := InI.of qc2.mine
  have Rc2_5 := Mc2_5.row
  simp (maxSteps := 4000000) (disch := omega) only [ld_agg ag36 cs36 CB0_5, S, S1, S2, S3, S4, S5, ST, eq_self, reduceIte, reduceCtorEq, Nat.reduceEqDiff, Nat.reduceAdd]
  refine CallH.by (TwS_c  n0 c0 c1 c2 xs0 xs1 xs2 H5 Rc0_5.1 l0 b0.1 Rc1_5.1 l1 b1 Rc2_5.1 l2 b2 bn0) ?_
  rintro _ H6 ⟨w0, rfl, qw0, p6⟩
  have Ra0_6 := Ra0_5.pre p6
  have Ra1_6 := Ra1_5.pre p6
  have Ra2_6 := Ra2_5.pre p6
  have Rc0_6 := Rc0_5.pre p6
  have Rc1_6 := Rc1_5.pre p6
  have Rc2_6 := Rc2_5.pre p6
  have Mc0_6 := Mc0_5.pre p6
  have Mc1_6 := Mc1_5.pre p6
  have Mc2_6 := Mc2_5.pre p6
  have CB0_6 := pre_at p6 CB0_5
  have L6 := p6.length_le
  have Mw0_6 := qw0
  have Rw0_6 := Mw0_6.row
  simp (maxSteps := 4000000) (disch := omega) only [ld_agg ag36 cs36 CB0_6, S, S1, S2, S3, S4, S5, ST, eq_self, reduceIte, reduceCtorEq, Nat.reduceEqDiff, Nat.reduceAdd]
  refine CallH.by (toGraph_c n0 v0 xs0 H6 Ra0_6.1 L0_big) ?_
  rintro _ H7 ⟨d0, rfl, qd0, p7⟩
  have Ra0_7 := Ra0_6.pre p7
  have Ra1_7 := Ra1_6.pre p7
  have Ra2_7 := Ra2_6.pre p7
  have Rw0_7 := Rw0_6.pre p7
  have Mw0_7 := Mw0_6.pre p7
  have CB0_7 := pre_at p7 CB0_6
  have L7 := p7.length_le
  have Md0_7 := InP.of qd0
  have Rd0_7 := Md0_7.row
  simp (maxSteps := 4000000) (disch := omega) only [ld_agg ag36 cs36 CB0_7, S, S1, S2, S3, S4, S5, ST, eq_self, reduceIte, reduceCtorEq, Nat.reduceEqDiff, Nat.reduceAdd]
  have hst0 := st_G Rd0_7.1 (at_new H7 (.cells [.int .i64 0, .slice none 0 0] 26 false)) rfl n0
  simp (maxSteps := 4000000) (disch := omega) only [alloc_G, hst0, set_new, ld_agg ag36 cs36 CB0_7, S, S1, S2, S3, S4, S5, ST, eq_self, reduceIte, reduceCtorEq, Nat.reduceEqDiff, Nat.reduceAdd]
  generalize hX0 : H7 ++ [AObj.cells [.int .i64 n0, d0] 26 false] = H8
  have p8 : H7 <+: H8 := by rw [← hX0]; exact List.prefix_append _ _
  have CX0_8 : H8[H7.length]? = some (.cells [.int .i64 n0, d0] 26 false) := by rw [← hX0]; exact at_new ..
  have Lx := at_lt CX0_8
  have Ra0_8 := Ra0_7.pre p8
  have Ra1_8 := Ra1_7.pre p8
  have Ra2_8 := Ra2_7.pre p8
  have Rw0_8 := Rw0_7.pre p8
  have Rd0_8 := Rd0_7.pre p8
  have Mw0_8 := Mw0_7.pre p8
  have Md0_8 := Md0_7.pre p8
  have CB0_8 := pre_at p8 CB0_7
  have L8 := p8.length_le
  try simp (maxSteps := 4000000) (disch := omega) only [ld_agg ag36 cs36 CB0_8, ld_agg ag26 cs26 CX0_8, S, S1, S2, S3, S4, S5, ST, eq_self, reduceIte, reduceCtorEq, Nat.reduceEqDiff, Nat.reduceAdd]
  refine CallH.by (toIntS_c v1 xs1 H8 Ra1_8.1 L1_big) ?_
  rintro d1 H9 ⟨qd1, p9⟩
  have Ra0_9 := Ra0_8.pre p9
  have Ra1_9 := Ra1_8.pre p9
  have Ra2_9 := Ra2_8.pre p9
  have Rw0_9 := Rw0_8.pre p9
  have Rd0_9 := Rd0_8.pre p9
  have Mw0_9 := Mw0_8.pre p9
  have Md0_9 := Md0_8.pre p9
  have CB0_9 := pre_at p9 CB0_8
  have CX0_9 := pre_at p9 CX0_8
  have L9 := p9.length_le
  have Md1_9 := InI.of qd1.mine
  have Rd1_9 := Md1_9.row
  simp (maxSteps := 4000000) (disch := omega) only [ld_agg ag36 cs36 CB0_9, ld_agg ag26 cs26 CX0_9, S, S1, S2, S3, S4, S5, ST, eq_self, reduceIte, reduceCtorEq, Nat.reduceEqDiff, Nat.reduceAdd]
  refine CallH.by (toIntS_c v2 xs2 H9 Ra2_9.1 L2_big) ?_
  rintro d2 H10 ⟨qd2, p10⟩
  have Ra0_10 := Ra0_9.pre p10
  have Ra1_10 := Ra1_9.pre p10
  have Ra2_10 := Ra2_9.pre p10
  have Rw0_10 := Rw0_9.pre p10
  have Rd0_10 := Rd0_9.pre p10
  have Rd1_10 := Rd1_9.pre p10
  have Mw0_10 := Mw0_9.pre p10
  have Md0_10 := Md0_9.pre p10
  have Md1_10 := Md1_9.pre p10
  have CB0_10 := pre_at p10 CB0_9
  have CX0_10 := pre_at p10 CX0_9
  have L10 := p10.length_le
  have Md2_10 := InI.of qd2.mine
  have Rd2_10 := Md2_10.row
  simp (maxSteps := 4000000) (disch := omega) only [ld_agg ag36 cs36 CB0_10, ld_agg ag26 cs26 CX0_10, S, S1, S2, S3, S4, S5, ST, eq_self, reduceIte, reduceCtorEq, Nat.reduceEqDiff, Nat.reduceAdd]
  refine CallH.by (TwI_c  n0 d0 d1 d2 xs0 xs1 xs2 H10 Rd0_10.1 l0 b0.1 Rd1_10.1 l1 b1 Rd2_10.1 l2 b2 bn0) ?_
  rintro _ H11 ⟨g0, rfl, qg0, p11⟩
  have Ra0_11 := Ra0_10.pre p11
  have Ra1_11 := Ra1_10.pre p11
  have Ra2_11 := Ra2_10.pre p11
  have Rw0_11 := Rw0_10.pre p11
  have Rd0_11 := Rd0_10.pre p11
  have Rd1_11 := Rd1_10.pre p11
  have Rd2_11 := Rd2_10.pre p11
  have Mw0_11 := Mw0_10.pre p11
  have Md0_11 := Md0_10.pre p11
  have Md1_11 := Md1_10.pre p11
  have Md2_11 := Md2_10.pre p11
  have CB0_11 := pre_at p11 CB0_10
  have CX0_11 := pre_at p11 CX0_10
  have L11 := p11.length_le
  have Mg0_11 := qg0
  have Rg0_11 := Mg0_11.row
  simp (maxSteps := 4000000) (disch := omega) only [ld_agg ag36 cs36 CB0_11, ld_agg ag26 cs26 CX0_11, S, S1, S2, S3, S4, S5, ST, eq_self, reduceIte, reduceCtorEq, Nat.reduceEqDiff, Nat.reduceAdd]
  have hR := tw_ok n0 xs0 xs1 xs2
  refine CallH.by (eqIntSS_c g0 w0 _ _ H11 Rg0_11 Rw0_11 hR.1 hR.2) ?_
  rintro _ _ ⟨rfl, rfl⟩
  simp (maxSteps := 4000000) (disch := omega) only [ld_agg ag36 cs36 CB0_11, ld_agg ag26 cs26 CX0_11, S, S1, S2, S3, S4, S5, ST, eq_self, reduceIte, reduceCtorEq, Nat.reduceEqDiff, Nat.reduceAdd]
  refine CallH.by (toGraph_c n0 v0 xs0 H11 Ra0_11.1 L0_big) ?_
  rintro _ H12 ⟨f0, rfl, qf0, p12⟩
  have Ra0_12 := Ra0_11.pre p12
  have Ra1_12 := Ra1_11.pre p12
  have Ra2_12 := Ra2_11.pre p12
  have Rw0_12 := Rw0_11.pre p12
  have Rd0_12 := Rd0_11.pre p12
  have Rd1_12 := Rd1_11.pre p12
  have Rd2_12 := Rd2_11.pre p12
  have Rg0_12 := Rg0_11.pre p12
  have Mw0_12 := Mw0_11.pre p12
  have Md0_12 := Md0_11.pre p12
  have Md1_12 := Md1_11.pre p12
  have Md2_12 := Md2_11.pre p12
  have Mg0_12 := Mg0_11.pre p12
  have CB0_12 := pre_at p12 CB0_11
  have CX0_12 := pre_at p12 CX0_11
  have L12 := p12.length_le
  have Mf0_12 := InP.of qf0
  have Rf0_12 := Mf0_12.row
  simp (maxSteps := 4000000) (disch := omega) only [ld_agg ag36 cs36 CB0_12, ld_agg ag26 cs26 CX0_12, S, S1, S2, S3, S4, S5, ST, eq_self, reduceIte, reduceCtorEq, Nat.reduceEqDiff, Nat.reduceAdd]
  refine CallH.by (eqGraph_c n0 n0 d0 f0 _ _ H12 Rd0_12.1 Rf0_12.1 L0_big) ?_
  rintro _ H13 ⟨rfl, p13⟩
  have Ra0_13 := Ra0_12.pre p13
  have Ra1_13 := Ra1_12.pre p13
  have Ra2_13 := Ra2_12.pre p13
  have Rw0_13 := Rw0_12.pre p13
  have Rd0_13 := Rd0_12.pre p13
  have Rd1_13 := Rd1_12.pre p13
  have Rd2_13 := Rd2_12.pre p13
  have Rg0_13 := Rg0_12.pre p13
  have Rf0_13 := Rf0_12.pre p13
  have Mw0_13 := Mw0_12.pre p13
  have Md0_13 := Md0_12.pre p13
  have Md1_13 := Md1_12.pre p13
  have Md2_13 := Md2_12.pre p13
  have Mg0_13 := Mg0_12.pre p13
  have Mf0_13 := Mf0_12.pre p13
  have CB0_13 := pre_at p13 CB0_12
  have CX0_13 := pre_at p13 CX0_12
  have L13 := p13.length_le
  simp (maxSteps := 4000000) (disch := omega) only [ld_agg ag36 cs36 CB0_13, ld_agg ag26 cs26 CX0_13, S, S1, S2, S3, S4, S5, ST, eq_self, reduceIte, reduceCtorEq, Nat.reduceEqDiff, Nat.reduceAdd]
  refine CallH.by (toIntS_c v1 xs1 H13 Ra1_13.1 L1_big) ?_
  rintro f1 H14 ⟨qf1, p14⟩
  have Ra0_14 := Ra0_13.pre p14
  have Ra1_14 := Ra1_13.pre p14
  have Ra2_14 := Ra2_13.pre p14
  have Rw0_14 := Rw0_13.pre p14
  have Rd0_14 := Rd0_13.pre p14
  have Rd1_14 := Rd1_13.pre p14
  have Rd2_14 := Rd2_13.pre p14
  have Rg0_14 := Rg0_13.pre p14
  have Mw0_14 := Mw0_13.pre p14
  have Md0_14 := Md0_13.pre p14
  have Md1_14 := Md1_13.pre p14
  have Md2_14 := Md2_13.pre p14
  have Mg0_14 := Mg0_13.pre p14
  have CB0_14 := pre_at p14 CB0_13
  have CX0_14 := pre_at p14 CX0_13
  have L14 := p14.length_le
  have Mf1_14 := InI.of qf1.mine
  have Rf1_14 := Mf1_14.row
  simp (maxSteps := 4000000) (disch := omega) only [ld_agg ag36 cs36 CB0_14, ld_agg ag26 cs26 CX0_14, S, S1, S2, S3, S4, S5, ST, eq_self, reduceIte, reduceCtorEq, Nat.reduceEqDiff, Nat.reduceAdd]
  refine CallH.by (eqIntS_c d1 f1 _ _ H14 Rd1_14.1 Rf1_14.1 L1_big) ?_
  rintro _ _ ⟨rfl, rfl⟩
  simp (maxSteps := 4000000) (disch := omega) only [ld_agg ag36 cs36 CB0_14, ld_agg ag26 cs26 CX0_14, S, S1, S2, S3, S4, S5, ST, eq_self, reduceIte, reduceCtorEq, Nat.reduceEqDiff, Nat.reduceAdd]
  refine CallH.by (toIntS_c v2 xs2 H14 Ra2_14.1 L2_big) ?_
  rintro f2 H15 ⟨qf2, p15⟩
  have Ra0_15 := Ra0_14.pre p15
  have Ra1_15 := Ra1_14.pre p15
  have Ra2_15 := Ra2_14.pre p15
  have Rw0_15 := Rw0_14.pre p15
  have Rd0_15 := Rd0_14.pre p15
  have Rd1_15 := Rd1_14.pre p15
  have Rd2_15 := Rd2_14.pre p15
  have Rg0_15 := Rg0_14.pre p15
  have Mw0_15 := Mw0_14.pre p15
  have Md0_15 := Md0_14.pre p15
  have Md1_15 := Md1_14.pre p15
  have Md2_15 := Md2_14.pre p15
  have Mg0_15 := Mg0_14.pre p15
  have CB0_15 := pre_at p15 CB0_14
  have CX0_15 := pre_at p15 CX0_14
  have L15 := p15.length_le
  have Mf2_15 := InI.of qf2.mine
  have Rf2_15 := Mf2_15.row
  simp (maxSteps := 4000000) (disch := omega) only [ld_agg ag36 cs36 CB0_15, ld_agg ag26 cs26 CX0_15, S, S1, S2, S3, S4, S5, ST, eq_self, reduceIte, reduceCtorEq, Nat.reduceEqDiff, Nat.reduceAdd]
  refine CallH.by (eqIntS_c d2 f2 _ _ H15 Rd2_15.1 Rf2_15.1 L2_big) ?_
  rintro _ _ ⟨rfl, rfl⟩
  simp (maxSteps := 4000000) (disch := omega) only [ld_agg ag36 cs36 CB0_15, ld_agg ag26 cs26 CX0_15, S, S1, S2, S3, S4, S5, ST, eq_self, reduceIte, reduceCtorEq, Nat.reduceEqDiff, Nat.reduceAdd]
  refine CallH.by (markGraph_B n0 d0 _ _ _ _ H15 Md0_15 L0_big (by omega) (by omega)) ?_
  rintro _ H17 ⟨rfl, H16, n_16, e16, p17⟩
  have L16 := Nat.le_of_eq e16.1.symm
  have Ra0_16 := Ra0_15.keep e16 (by omega)
  have Ra1_16 := Ra1_15.keep e16 (by omega)
  have Ra2_16 := Ra2_15.keep e16 (by omega)
  have Mw0_16 := Mw0_15.keep e16 (by omega)
  have Rw0_16 := Mw0_16.row
  have Md1_16 := Md1_15.keep e16 (by omega)
  have Rd1_16 := Md1_16.row
  have Md2_16 := Md2_15.keep e16 (by omega)
  have Rd2_16 := Md2_16.row
  have Mg0_16 := Mg0_15.keep e16 (by omega)
  have Rg0_16 := Mg0_16.row
  have CB0_16 := e16.2 _ _ (by omega) CB0_15
  have CX0_16 := e16.2 _ _ (by omega) CX0_15
  have Ra0_17 := Ra0_16.pre p17
  have Ra1_17 := Ra1_16.pre p17
  have Ra2_17 := Ra2_16.pre p17
  have Rw0_17 := Rw0_16.pre p17
  have Rd1_17 := Rd1_16.pre p17
  have Rd2_17 := Rd2_16.pre p17
  have Rg0_17 := Rg0_16.pre p17
  have Mw0_17 := Mw0_16.pre p17
  have Md1_17 := Md1_16.pre p17
  have Md2_17 := Md2_16.pre p17
  have Mg0_17 := Mg0_16.pre p17
  have CB0_17 := pre_at p17 CB0_16
  have CX0_17 := pre_at p17 CX0_16
  have L17 := p17.length_le
  simp (maxSteps := 4000000) (disch := omega) only [ld_agg ag36 cs36 CB0_17, ld_agg ag26 cs26 CX0_17, S, S1, S2, S3, S4, S5, ST, eq_self, reduceIte, reduceCtorEq, Nat.reduceEqDiff, Nat.reduceAdd]
  refine CallH.by (markIntS_B d1 _ _ _ _ H17 Md1_17 L1_big (by omega)) ?_
  rintro _ H18 ⟨rfl, n_18, e18⟩
  have L18 := Nat.le_of_eq e18.1.symm
  have Ra0_18 := Ra0_17.keep e18 (by omega)
  have Ra1_18 := Ra1_17.keep e18 (by omega)
  have Ra2_18 := Ra2_17.keep e18 (by omega)
  have Mw0_18 := Mw0_17.keep e18 (by omega)
  have Rw0_18 := Mw0_18.row
  have Md2_18 := Md2_17.keep e18 (by omega)
  have Rd2_18 := Md2_18.row
  have Mg0_18 := Mg0_17.keep e18 (by omega)
  have Rg0_18 := Mg0_18.row
  have CB0_18 := e18.2 _ _ (by omega) CB0_17
  have CX0_18 := e18.2 _ _ (by omega) CX0_17
  simp (maxSteps := 4000000) (disch := omega) only [ld_agg ag36 cs36 CB0_18, ld_agg ag26 cs26 CX0_18, S, S1, S2, S3, S4, S5, ST, eq_self, reduceIte, reduceCtorEq, Nat.reduceEqDiff, Nat.reduceAdd]
  refine CallH.by (markIntS_B d2 _ _ _ _ H18 Md2_18 L2_big (by omega)) ?_
  rintro _ H19 ⟨rfl, n_19, e19⟩
  have L19 := Nat.le_of_eq e19.1.symm
  have Ra0_19 := Ra0_18.keep e19 (by omega)
  have Ra1_19 := Ra1_18.keep e19 (by omega)
  have Ra2_19 := Ra2_18.keep e19 (by omega)
  have Mw0_19 := Mw0_18.keep e19 (by omega)
  have Rw0_19 := Mw0_19.row
  have Mg0_19 := Mg0_18.keep e19 (by omega)
  have Rg0_19 := Mg0_19.row
  have CB0_19 := e19.2 _ _ (by omega) CB0_18
  have CX0_19 := e19.2 _ _ (by omega) CX0_18
  simp (maxSteps := 4000000) (disch := omega) only [ld_agg ag36 cs36 CB0_19, ld_agg ag26 cs26 CX0_19, S, S1, S2, S3, S4, S5, ST, eq_self, reduceIte, reduceCtorEq, Nat.reduceEqDiff, Nat.reduceAdd]
  refine brD.intro (fun g => absurd g (by omega)) (fun gk => ?_)
  simp (maxSteps := 4000000) (disch := omega) only [gk, ld_agg ag36 cs36 CB0_19, ld_agg ag26 cs26 CX0_19, S, S1, S2, S3, S4, S5, ST, eq_self, reduceIte, reduceCtorEq, Nat.reduceEqDiff, Nat.reduceAdd]
  refine CallH.by (eqIntSS_c g0 w0 _ _ H19 Rg0_19 Rw0_19 hR.1 hR.2) ?_
  rintro _ _ ⟨rfl, rfl⟩
  simp (maxSteps := 4000000) (disch := omega) only [ld_agg ag36 cs36 CB0_19, ld_agg ag26 cs26 CX0_19, S, S1, S2, S3, S4, S5, ST, eq_self, reduceIte, reduceCtorEq, Nat.reduceEqDiff, Nat.reduceAdd]
  try simp (maxSteps := 4000000) (disch := omega) only [gk, ld_agg ag36 cs36 CB0_19, ld_agg ag26 cs26 CX0_19, S, S1, S2, S3, S4, S5, ST, eq_self, reduceIte, reduceCtorEq, Nat.reduceEqDiff, Nat.reduceAdd]
  refine CallH.by (markIntSS_B g0 _ _ _ _ H19 Mg0_19 hR.1 hR.2 (by omega)) ?_
  rintro _ H20 ⟨rfl, n_20, e20⟩
  have L20 := Nat.le_of_eq e20.1.symm
  have Ra0_20 := Ra0_19.keep e20 (by omega)
  have Ra1_20 := Ra1_19.keep e20 (by omega)
  have Ra2_20 := Ra2_19.keep e20 (by omega)
  have Mw0_20 := Mw0_19.keep e20 (by omega)
  have Rw0_20 := Mw0_20.row
  have CB0_20 := e20.2 _ _ (by omega) CB0_19
  have CX0_20 := e20.2 _ _ (by omega) CX0_19
  have Mg0_20 := n_20
  have Rg0_20 := n_20.row
  simp (maxSteps := 4000000) (disch := omega) only [ld_agg ag36 cs36 CB0_20, ld_agg ag26 cs26 CX0_20, S, S1, S2, S3, S4, S5, ST, eq_self, reduceIte, reduceCtorEq, Nat.reduceEqDiff, Nat.reduceAdd]
  refine CallH.by (heldIntSS_c g0 _ 1 H20 Rg0_20 hR.1 hR.2 (by omega)) ?_
  rintro _ _ ⟨rfl, rfl⟩
  simp (maxSteps := 4000000) (disch := omega) only [ld_agg ag36 cs36 CB0_20, ld_agg ag26 cs26 CX0_20, S, S1, S2, S3, S4, S5, ST, eq_self, reduceIte, reduceCtorEq, Nat.reduceEqDiff, Nat.reduceAdd]
  refine brD.intro (fun g => absurd g (by omega)) (fun _ => ?_)
  simp (maxSteps := 4000000) (disch := omega) only [ld_agg ag36 cs36 CB0_20, ld_agg ag26 cs26 CX0_20, S, S1, S2, S3, S4, S5, ST, eq_self, reduceIte, reduceCtorEq, Nat.reduceEqDiff, Nat.reduceAdd]
  refine CallH.by (toGraph_c n0 v0 xs0 H20 Ra0_20.1 L0_big) ?_
  rintro _ H21 ⟨e0, rfl, qe0, p21⟩
  have Ra0_21 := Ra0_20.pre p21
  have Ra1_21 := Ra1_20.pre p21
  have Ra2_21 := Ra2_20.pre p21
  have Rw0_21 := Rw0_20.pre p21
  have Rg0_21 := Rg0_20.pre p21
  have Mw0_21 := Mw0_20.pre p21
  have Mg0_21 := Mg0_20.pre p21
  have CB0_21 := pre_at p21 CB0_20
  have CX0_21 := pre_at p21 CX0_20
  have L21 := p21.length_le
  have Me0_21 := InP.of qe0
  have Re0_21 := Me0_21.row
  simp (maxSteps := 4000000) (disch := omega) only [ld_agg ag36 cs36 CB0_21, ld_agg ag26 cs26 CX0_21, S, S1, S2, S3, S4, S5, ST, eq_self, reduceIte, reduceCtorEq, Nat.reduceEqDiff, Nat.reduceAdd]
  refine CallH.by (toIntS_c v1 xs1 H21 Ra1_21.1 L1_big) ?_
  rintro e1 H22 ⟨qe1, p22⟩
  have Ra0_22 := Ra0_21.pre p22
  have Ra1_22 := Ra1_21.pre p22
  have Ra2_22 := Ra2_21.pre p22
  have Rw0_22 := Rw0_21.pre p22
  have Rg0_22 := Rg0_21.pre p22
  have Re0_22 := Re0_21.pre p22
  have Mw0_22 := Mw0_21.pre p22
  have Mg0_22 := Mg0_21.pre p22
  have Me0_22 := Me0_21.pre p22
  have CB0_22 := pre_at p22 CB0_21
  have CX0_22 := pre_at p22 CX0_21
  have L22 := p22.length_le
  have Me1_22 := InI.of qe1.mine
  have Re1_22 := Me1_22.row
  simp (maxSteps := 4000000) (disch := omega) only [ld_agg ag36 cs36 CB0_22, ld_agg ag26 cs26 CX0_22, S, S1, S2, S3, S4, S5, ST, eq_self, reduceIte, reduceCtorEq, Nat.reduceEqDiff, Nat.reduceAdd]
  refine CallH.by (toIntS_c v2 xs2 H22 Ra2_22.1 L2_big) ?_
  rintro e2 H23 ⟨qe2, p23⟩
  have Ra0_23 := Ra0_22.pre p23
  have Ra1_23 := Ra1_22.pre p23
  have Ra2_23 := Ra2_22.pre p23
  have Rw0_23 := Rw0_22.pre p23
  have Rg0_23 := Rg0_22.pre p23
  have Re0_23 := Re0_22.pre p23
  have Re1_23 := Re1_22.pre p23
  have Mw0_23 := Mw0_22.pre p23
  have Mg0_23 := Mg0_22.pre p23
  have Me0_23 := Me0_22.pre p23
  have Me1_23 := Me1_22.pre p23
  have CB0_23 := pre_at p23 CB0_22
  have CX0_23 := pre_at p23 CX0_22
  have L23 := p23.length_le
  have Me2_23 := InI.of qe2.mine
  have Re2_23 := Me2_23.row
  simp (maxSteps := 4000000) (disch := omega) only [ld_agg ag36 cs36 CB0_23, ld_agg ag26 cs26 CX0_23, S, S1, S2, S3, S4, S5, ST, eq_self, reduceIte, reduceCtorEq, Nat.reduceEqDiff, Nat.reduceAdd]
  refine CallH.by (TwI_c  n0 e0 e1 e2 xs0 xs1 xs2 H23 Re0_23.1 l0 b0.1 Re1_23.1 l1 b1 Re2_23.1 l2 b2 bn0) ?_
  rintro _ H24 ⟨h0, rfl, qh0, p24⟩
  have Ra0_24 := Ra0_23.pre p24
  have Ra1_24 := Ra1_23.pre p24
  have Ra2_24 := Ra2_23.pre p24
  have Rw0_24 := Rw0_23.pre p24
  have Rg0_24 := Rg0_23.pre p24
  have Re0_24 := Re0_23.pre p24
  have Re1_24 := Re1_23.pre p24
  have Re2_24 := Re2_23.pre p24
  have Mw0_24 := Mw0_23.pre p24
  have Mg0_24 := Mg0_23.pre p24
  have Me0_24 := Me0_23.pre p24
  have Me1_24 := Me1_23.pre p24
  have Me2_24 := Me2_23.pre p24
  have CB0_24 := pre_at p24 CB0_23
  have CX0_24 := pre_at p24 CX0_23
  have L24 := p24.length_le
  have Mh0_24 := qh0
  have Rh0_24 := Mh0_24.row
  simp (maxSteps := 4000000) (disch := omega) only [ld_agg ag36 cs36 CB0_24, ld_agg ag26 cs26 CX0_24, S, S1, S2, S3, S4, S5, ST, eq_self, reduceIte, reduceCtorEq, Nat.reduceEqDiff, Nat.reduceAdd]
  refine CallH.by (eqIntSS_c h0 w0 _ _ H24 Rh0_24 Rw0_24 hR.1 hR.2) ?_
  rintro _ _ ⟨rfl, rfl⟩
  simp (maxSteps := 4000000) (disch := omega) only [ld_agg ag36 cs36 CB0_24, ld_agg ag26 cs26 CX0_24, S, S1, S2, S3, S4, S5, ST, eq_self, reduceIte, reduceCtorEq, Nat.reduceEqDiff, Nat.reduceAdd]
  refine CallH.by (heldIntSS_c g0 _ 1 H24 Rg0_24 hR.1 hR.2 (by omega)) ?_
  rintro _ _ ⟨rfl, rfl⟩
  simp (maxSteps := 4000000) (disch := omega) only [ld_agg ag36 cs36 CB0_24, ld_agg ag26 cs26 CX0_24, S, S1, S2, S3, S4, S5, ST, eq_self, reduceIte, reduceCtorEq, Nat.reduceEqDiff, Nat.reduceAdd]
  refine brD.intro (fun g => absurd g (by omega)) (fun _ => ?_)
  simp (maxSteps := 4000000) (disch := omega) only [ld_agg ag36 cs36 CB0_24, ld_agg ag26 cs26 CX0_24, S, S1, S2, S3, S4, S5, ST, eq_self, reduceIte, reduceCtorEq, Nat.reduceEqDiff, Nat.reduceAdd]
  refine hQ _ _ _ ?_
  simp (maxSteps := 4000000) (disch := omega) only [ld_agg ag36 cs36 CB0_24, ld_agg ag26 cs26 CX0_24, S, S1, S2, S3, S4, S5, ST, eq_self, reduceIte, reduceCtorEq, Nat.reduceEqDiff, Nat.reduceAdd]
end Go.Proofs.Ytldcbmmmheookaa.Ai
