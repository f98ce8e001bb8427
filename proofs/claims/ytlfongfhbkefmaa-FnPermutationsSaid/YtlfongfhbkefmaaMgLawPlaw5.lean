/- Texts of this claim, joined: Plaw, ArB. -/
import Derived.Test.YtlfongfhbkefmaaProg
import Derived.KernelRfl
import Derived.Test.YtlfongfhbkefmaaMgLawPlaw4
namespace Go.Proofs.Ytlfongfhbkefmaa.Ai
open Go
def ords10 : List (Nat × List (Nat × Bool)) := []
def cd10 : Cd := (.seq (.reg [⟨⟨some 2, Op.assign (Operand.const (Value.bool false)), none⟩, []⟩]) (.seq (.seq (.reg [⟨⟨some 33, Op.move (Operand.tmp 0), none⟩, []⟩,
  ⟨⟨some 34, Op.call { callee := (Callee.value (Operand.func 39)), args := #[(Operand.tmp 33)], argTypes := #[56] }, none⟩, []⟩]) (.cond (Operand.tmp 34) (.seq (.reg [⟨⟨some 2, Op.assign (Operand.const (Value.bool true)), none⟩, []⟩]) .ret) .skip)) (.seq (.reg [⟨⟨some 35, Op.move (Operand.tmp 0), none⟩, []⟩,
  ⟨⟨some 36, Op.call { callee := (Callee.value (Operand.func 40)), args := #[(Operand.tmp 35)], argTypes := #[56] }, none⟩, []⟩,
  ⟨⟨some 3, Op.assign (Operand.tmp 36), none⟩, []⟩]) (.seq (.reg [⟨⟨some 38, Op.move (Operand.tmp 3), none⟩, []⟩,
  ⟨⟨some 39, Op.call { callee := (Callee.value (Operand.func 41)), args := #[(Operand.tmp 38)], argTypes := #[38] }, none⟩, []⟩,
  ⟨⟨some 37, Op.move (Operand.tmp 39), none⟩, []⟩,
  ⟨⟨some 40, Op.extract (Operand.tmp 37) 0, none⟩, []⟩,
  ⟨⟨some 41, Op.extract (Operand.tmp 37) 1, none⟩, []⟩,
  ⟨⟨some 4, Op.assign (Operand.tmp 40), none⟩, []⟩,
  ⟨⟨some 5, Op.assign (Operand.tmp 41), none⟩, []⟩]) (.seq (.reg [⟨⟨some 43, Op.move (Operand.tmp 3), none⟩, []⟩,
  ⟨⟨some 44, Op.call { callee := (Callee.value (Operand.func 42)), args := #[(Operand.tmp 43)], argTypes := #[38] }, none⟩, []⟩,
  ⟨⟨some 42, Op.move (Operand.tmp 44), none⟩, []⟩,
  ⟨⟨some 45, Op.extract (Operand.tmp 42) 0, none⟩, []⟩,
  ⟨⟨some 46, Op.extract (Operand.tmp 42) 1, none⟩, []⟩,
  ⟨⟨some 6, Op.assign (Operand.tmp 45), none⟩, []⟩,
  ⟨⟨some 7, Op.assign (Operand.tmp 46), none⟩, []⟩]) (.seq (.reg [⟨⟨some 48, Op.move (Operand.tmp 3), none⟩, []⟩,
  ⟨⟨some 49, Op.call { callee := (Callee.value (Operand.func 43)), args := #[(Operand.tmp 48)], argTypes := #[38] }, none⟩, []⟩,
  ⟨⟨some 47, Op.move (Operand.tmp 49), none⟩, []⟩,
  ⟨⟨some 50, Op.extract (Operand.tmp 47) 0, none⟩, []⟩,
  ⟨⟨some 51, Op.extract (Operand.tmp 47) 1, none⟩, []⟩,
  ⟨⟨some 8, Op.assign (Operand.tmp 50), none⟩, []⟩,
  ⟨⟨some 9, Op.assign (Operand.tmp 51), none⟩, []⟩]) (.seq (.reg [⟨⟨some 53, Op.move (Operand.tmp 3), none⟩, []⟩,
  ⟨⟨some 54, Op.call { callee := (Callee.value (Operand.func 44)), args := #[(Operand.tmp 53)], argTypes := #[38] }, none⟩, []⟩,
  ⟨⟨some 52, Op.move (Operand.tmp 54), none⟩, []⟩,
  ⟨⟨some 55, Op.extract (Operand.tmp 52) 0, none⟩, []⟩,
  ⟨⟨some 56, Op.extract (Operand.tmp 52) 1, none⟩, []⟩,
  ⟨⟨some 10, Op.assign (Operand.tmp 55), none⟩, []⟩,
  ⟨⟨some 11, Op.assign (Operand.tmp 56), none⟩, []⟩]) (.seq (.reg [⟨⟨some 58, Op.move (Operand.tmp 3), none⟩, []⟩,
  ⟨⟨some 59, Op.call { callee := (Callee.value (Operand.func 45)), args := #[(Operand.tmp 58)], argTypes := #[38] }, none⟩, []⟩,
  ⟨⟨some 57, Op.move (Operand.tmp 59), none⟩, []⟩,
  ⟨⟨some 60, Op.extract (Operand.tmp 57) 0, none⟩, []⟩,
  ⟨⟨some 61, Op.extract (Operand.tmp 57) 1, none⟩, []⟩,
  ⟨⟨some 12, Op.assign (Operand.tmp 60), none⟩, []⟩,
  ⟨⟨some 13, Op.assign (Operand.tmp 61), none⟩, []⟩]) (.seq (.reg [⟨⟨some 63, Op.move (Operand.tmp 3), none⟩, []⟩,
  ⟨⟨some 64, Op.call { callee := (Callee.value (Operand.func 46)), args := #[(Operand.tmp 63)], argTypes := #[38] }, none⟩, []⟩,
  ⟨⟨some 62, Op.move (Operand.tmp 64), none⟩, []⟩,
  ⟨⟨some 65, Op.extract (Operand.tmp 62) 0, none⟩, []⟩,
  ⟨⟨some 66, Op.extract (Operand.tmp 62) 1, none⟩, []⟩,
  ⟨⟨some 14, Op.assign (Operand.tmp 65), none⟩, []⟩,
  ⟨⟨some 15, Op.assign (Operand.tmp 66), none⟩, []⟩]) (.seq (.reg [⟨⟨some 68, Op.move (Operand.tmp 3), none⟩, []⟩,
  ⟨⟨some 69, Op.call { callee := (Callee.value (Operand.func 47)), args := #[(Operand.tmp 68)], argTypes := #[38] }, none⟩, []⟩,
  ⟨⟨some 67, Op.move (Operand.tmp 69), none⟩, []⟩,
  ⟨⟨some 70, Op.extract (Operand.tmp 67) 0, none⟩, []⟩,
  ⟨⟨some 71, Op.extract (Operand.tmp 67) 1, none⟩, []⟩,
  ⟨⟨some 16, Op.assign (Operand.tmp 70), none⟩, []⟩,
  ⟨⟨some 17, Op.assign (Operand.tmp 71), none⟩, []⟩]) (.seq (.reg [⟨⟨some 73, Op.move (Operand.tmp 3), none⟩, []⟩,
  ⟨⟨some 74, Op.call { callee := (Callee.value (Operand.func 48)), args := #[(Operand.tmp 73)], argTypes := #[38] }, none⟩, []⟩,
  ⟨⟨some 72, Op.move (Operand.tmp 74), none⟩, []⟩,
  ⟨⟨some 75, Op.extract (Operand.tmp 72) 0, none⟩, []⟩,
  ⟨⟨some 76, Op.extract (Operand.tmp 72) 1, none⟩, []⟩,
  ⟨⟨some 18, Op.assign (Operand.tmp 75), none⟩, []⟩,
  ⟨⟨some 19, Op.assign (Operand.tmp 76), none⟩, []⟩]) (.seq (.reg [⟨⟨some 78, Op.move (Operand.tmp 0), none⟩, []⟩,
  ⟨⟨some 79, Op.call { callee := (Callee.value (Operand.func 50)), args := #[(Operand.tmp 78), (Operand.const (Value.int IntKind.i64 1))], argTypes := #[56, 3] }, none⟩, []⟩,
  ⟨⟨some 80, Op.call { callee := (Callee.value (Operand.func 49)), args := #[(Operand.tmp 79)], argTypes := #[56] }, none⟩, []⟩,
  ⟨⟨some 77, Op.move (Operand.tmp 80), none⟩, []⟩,
  ⟨⟨some 81, Op.extract (Operand.tmp 77) 0, none⟩, []⟩,
  ⟨⟨some 82, Op.extract (Operand.tmp 77) 1, none⟩, []⟩,
  ⟨⟨some 20, Op.assign (Operand.tmp 81), none⟩, []⟩,
  ⟨⟨some 21, Op.assign (Operand.tmp 82), none⟩, []⟩]) (.seq (.reg [⟨⟨some 84, Op.move (Operand.tmp 20), none⟩, []⟩,
  ⟨⟨some 85, Op.move (Operand.tmp 21), none⟩, []⟩,
  ⟨⟨some 86, Op.call { callee := (Callee.value (Operand.func 51)), args := #[(Operand.tmp 84), (Operand.tmp 85)], argTypes := #[38, 22] }, none⟩, []⟩,
  ⟨⟨some 83, Op.move (Operand.tmp 86), none⟩, []⟩,
  ⟨⟨some 87, Op.extract (Operand.tmp 83) 0, none⟩, []⟩,
  ⟨⟨some 88, Op.extract (Operand.tmp 83) 1, none⟩, []⟩,
  ⟨⟨some 22, Op.assign (Operand.tmp 87), none⟩, []⟩,
  ⟨⟨some 23, Op.assign (Operand.tmp 88), none⟩, []⟩]) (.seq (.reg [⟨⟨some 90, Op.move (Operand.tmp 20), none⟩, []⟩,
  ⟨⟨some 91, Op.move (Operand.tmp 21), none⟩, []⟩,
  ⟨⟨some 92, Op.call { callee := (Callee.value (Operand.func 52)), args := #[(Operand.tmp 90), (Operand.tmp 91)], argTypes := #[38, 22] }, none⟩, []⟩,
  ⟨⟨some 89, Op.move (Operand.tmp 92), none⟩, []⟩,
  ⟨⟨some 93, Op.extract (Operand.tmp 89) 0, none⟩, []⟩,
  ⟨⟨some 94, Op.extract (Operand.tmp 89) 1, none⟩, []⟩,
  ⟨⟨some 24, Op.assign (Operand.tmp 93), none⟩, []⟩,
  ⟨⟨some 25, Op.assign (Operand.tmp 94), none⟩, []⟩]) (.seq (.seq (.reg [⟨⟨some 95, Op.move (Operand.tmp 5), none⟩, []⟩,
  ⟨⟨some 96, Op.move (Operand.tmp 7), none⟩, []⟩,
  ⟨⟨some 97, Op.binOp BinOp.neq 4 (Operand.tmp 95) (Operand.tmp 96) 4, none⟩, []⟩,
  ⟨⟨some 98, Op.move (Operand.tmp 97), none⟩, []⟩,
  ⟨⟨some 99, Op.move (Operand.tmp 4), some (98, false)⟩, []⟩,
  ⟨⟨some 100, Op.move (Operand.tmp 6), some (98, false)⟩, []⟩,
  ⟨⟨some 101, Op.call { callee := (Callee.value (Operand.func 53)), args := #[(Operand.tmp 99), (Operand.tmp 100)], argTypes := #[22, 22] }, some (98, false)⟩, []⟩,
  ⟨⟨some 102, Op.unOp UnOp.not 4 (Operand.tmp 101), some (98, false)⟩, []⟩,
  ⟨⟨some 103, Op.pick (Operand.tmp 98) (Operand.const (Value.bool true)) (Operand.tmp 102), none⟩, []⟩,
  ⟨⟨some 104, Op.move (Operand.tmp 103), none⟩, []⟩,
  ⟨⟨some 105, Op.move (Operand.tmp 9), some (104, false)⟩, []⟩,
  ⟨⟨some 106, Op.move (Operand.tmp 11), some (104, false)⟩, []⟩,
  ⟨⟨some 107, Op.binOp BinOp.neq 4 (Operand.tmp 105) (Operand.tmp 106) 4, some (104, false)⟩, []⟩,
  ⟨⟨some 108, Op.pick (Operand.tmp 104) (Operand.const (Value.bool true)) (Operand.tmp 107), none⟩, []⟩,
  ⟨⟨some 109, Op.move (Operand.tmp 108), none⟩, []⟩,
  ⟨⟨some 110, Op.move (Operand.tmp 8), some (109, false)⟩, []⟩,
  ⟨⟨some 111, Op.move (Operand.tmp 10), some (109, false)⟩, []⟩,
  ⟨⟨some 112, Op.call { callee := (Callee.value (Operand.func 54)), args := #[(Operand.tmp 110), (Operand.tmp 111)], argTypes := #[26, 26] }, some (109, false)⟩, []⟩,
  ⟨⟨some 113, Op.unOp UnOp.not 4 (Operand.tmp 112), some (109, false)⟩, []⟩,
  ⟨⟨some 114, Op.pick (Operand.tmp 109) (Operand.const (Value.bool true)) (Operand.tmp 113), none⟩, []⟩,
  ⟨⟨some 115, Op.move (Operand.tmp 114), none⟩, []⟩,
  ⟨⟨some 116, Op.move (Operand.tmp 12), some (115, false)⟩, []⟩,
  ⟨⟨some 117, Op.move (Operand.tmp 14), some (115, false)⟩, []⟩,
  ⟨⟨some 118, Op.binOp BinOp.neq 3 (Operand.tmp 116) (Operand.tmp 117) 3, some (115, false)⟩, []⟩,
  ⟨⟨some 119, Op.pick (Operand.tmp 115) (Operand.const (Value.bool true)) (Operand.tmp 118), none⟩, []⟩,
  ⟨⟨some 120, Op.move (Operand.tmp 119), none⟩, []⟩,
  ⟨⟨some 121, Op.move (Operand.tmp 13), some (120, false)⟩, []⟩,
  ⟨⟨some 122, Op.move (Operand.tmp 15), some (120, false)⟩, []⟩,
  ⟨⟨some 123, Op.binOp BinOp.neq 4 (Operand.tmp 121) (Operand.tmp 122) 4, some (120, false)⟩, []⟩,
  ⟨⟨some 124, Op.pick (Operand.tmp 120) (Operand.const (Value.bool true)) (Operand.tmp 123), none⟩, []⟩,
  ⟨⟨some 125, Op.move (Operand.tmp 124), none⟩, []⟩,
  ⟨⟨some 126, Op.move (Operand.tmp 16), some (125, false)⟩, []⟩,
  ⟨⟨some 127, Op.move (Operand.tmp 18), some (125, false)⟩, []⟩,
  ⟨⟨some 128, Op.binOp BinOp.neq 3 (Operand.tmp 126) (Operand.tmp 127) 3, some (125, false)⟩, []⟩,
  ⟨⟨some 129, Op.pick (Operand.tmp 125) (Operand.const (Value.bool true)) (Operand.tmp 128), none⟩, []⟩,
  ⟨⟨some 130, Op.move (Operand.tmp 129), none⟩, []⟩,
  ⟨⟨some 131, Op.move (Operand.tmp 17), some (130, false)⟩, []⟩,
  ⟨⟨some 132, Op.move (Operand.tmp 19), some (130, false)⟩, []⟩,
  ⟨⟨some 133, Op.binOp BinOp.neq 4 (Operand.tmp 131) (Operand.tmp 132) 4, some (130, false)⟩, []⟩,
  ⟨⟨some 134, Op.pick (Operand.tmp 130) (Operand.const (Value.bool true)) (Operand.tmp 133), none⟩, []⟩,
  ⟨⟨some 135, Op.move (Operand.tmp 134), none⟩, []⟩,
  ⟨⟨some 136, Op.move (Operand.tmp 23), some (135, false)⟩, []⟩,
  ⟨⟨some 137, Op.move (Operand.tmp 25), some (135, false)⟩, []⟩,
  ⟨⟨some 138, Op.binOp BinOp.neq 4 (Operand.tmp 136) (Operand.tmp 137) 4, some (135, false)⟩, []⟩,
  ⟨⟨some 139, Op.pick (Operand.tmp 135) (Operand.const (Value.bool true)) (Operand.tmp 138), none⟩, []⟩,
  ⟨⟨some 140, Op.move (Operand.tmp 139), none⟩, []⟩,
  ⟨⟨some 141, Op.move (Operand.tmp 22), some (140, false)⟩, []⟩,
  ⟨⟨some 142, Op.move (Operand.tmp 24), some (140, false)⟩, []⟩,
  ⟨⟨some 143, Op.call { callee := (Callee.value (Operand.func 55)), args := #[(Operand.tmp 141), (Operand.tmp 142)], argTypes := #[38, 38] }, some (140, false)⟩, []⟩,
  ⟨⟨some 144, Op.unOp UnOp.not 4 (Operand.tmp 143), some (140, false)⟩, []⟩,
  ⟨⟨some 145, Op.pick (Operand.tmp 140) (Operand.const (Value.bool true)) (Operand.tmp 144), none⟩, []⟩,
  ⟨⟨some 146, Op.move (Operand.tmp 145), none⟩, []⟩,
  ⟨⟨some 147, Op.move (Operand.tmp 3), some (146, false)⟩, []⟩,
  ⟨⟨some 148, Op.call { callee := (Callee.value (Operand.func 56)), args := #[(Operand.tmp 147)], argTypes := #[38] }, some (146, false)⟩, []⟩,
  ⟨⟨some 149, Op.move (Operand.tmp 3), some (146, false)⟩, []⟩,
  ⟨⟨some 150, Op.call { callee := (Callee.value (Operand.func 57)), args := #[(Operand.tmp 149)], argTypes := #[38] }, some (146, false)⟩, []⟩,
  ⟨⟨some 151, Op.binOp BinOp.neq 4 (Operand.tmp 148) (Operand.tmp 150) 4, some (146, false)⟩, []⟩,
  ⟨⟨some 152, Op.pick (Operand.tmp 146) (Operand.const (Value.bool true)) (Operand.tmp 151), none⟩, []⟩]) (.cond (Operand.tmp 152) (.seq (.reg [⟨⟨some 2, Op.assign (Operand.const (Value.bool false)), none⟩, []⟩]) .ret) .skip)) (.seq (.seq (.reg [⟨⟨some 153, Op.move (Operand.tmp 23), none⟩, []⟩]) (.cond (Operand.tmp 153) (.seq (.reg [⟨⟨some 155, Op.move (Operand.tmp 20), none⟩, []⟩,
  ⟨⟨some 156, Op.call { callee := (Callee.value (Operand.func 45)), args := #[(Operand.tmp 155)], argTypes := #[38] }, none⟩, []⟩,
  ⟨⟨some 154, Op.move (Operand.tmp 156), none⟩, []⟩,
  ⟨⟨some 157, Op.extract (Operand.tmp 154) 0, none⟩, []⟩,
  ⟨⟨some 158, Op.extract (Operand.tmp 154) 1, none⟩, []⟩,
  ⟨⟨some 26, Op.assign (Operand.tmp 157), none⟩, []⟩,
  ⟨⟨some 27, Op.assign (Operand.tmp 158), none⟩, []⟩]) (.seq (.reg [⟨⟨some 160, Op.move (Operand.tmp 22), none⟩, []⟩,
  ⟨⟨some 161, Op.call { callee := (Callee.value (Operand.func 45)), args := #[(Operand.tmp 160)], argTypes := #[38] }, none⟩, []⟩,
  ⟨⟨some 159, Op.move (Operand.tmp 161), none⟩, []⟩,
  ⟨⟨some 162, Op.extract (Operand.tmp 159) 0, none⟩, []⟩,
  ⟨⟨some 163, Op.extract (Operand.tmp 159) 1, none⟩, []⟩,
  ⟨⟨some 28, Op.assign (Operand.tmp 162), none⟩, []⟩,
  ⟨⟨some 29, Op.assign (Operand.tmp 163), none⟩, []⟩]) (.seq (.reg [⟨⟨some 164, Op.move (Operand.tmp 29), none⟩, []⟩,
  ⟨⟨some 165, Op.unOp UnOp.not 4 (Operand.tmp 164), none⟩, []⟩,
  ⟨⟨some 166, Op.move (Operand.tmp 165), none⟩, []⟩,
  ⟨⟨some 167, Op.move (Operand.tmp 26), some (166, false)⟩, []⟩,
  ⟨⟨some 168, Op.move (Operand.tmp 28), some (166, false)⟩, []⟩,
  ⟨⟨some 169, Op.binOp BinOp.add 3 (Operand.tmp 167) (Operand.tmp 168) 3, some (166, false)⟩, []⟩,
  ⟨⟨some 170, Op.move (Operand.tmp 21), some (166, false)⟩, []⟩,
  ⟨⟨some 171, Op.call { callee := (Callee.builtin Builtin.len), args := #[(Operand.tmp 170)], argTypes := #[22] }, some (166, false)⟩, []⟩,
  ⟨⟨some 172, Op.binOp BinOp.add 3 (Operand.tmp 169) (Operand.tmp 171) 3, some (166, false)⟩, []⟩,
  ⟨⟨some 173, Op.binOp BinOp.rem 3 (Operand.tmp 172) (Operand.const (Value.int IntKind.i64 2)) 3, some (166, false)⟩, []⟩,
  ⟨⟨some 174, Op.binOp BinOp.neq 3 (Operand.tmp 173) (Operand.const (Value.int IntKind.i64 0)) 3, some (166, false)⟩, []⟩,
  ⟨⟨some 175, Op.pick (Operand.tmp 166) (Operand.const (Value.bool true)) (Operand.tmp 174), none⟩, []⟩,
  ⟨⟨some 176, Op.move (Operand.tmp 175), none⟩, []⟩,
  ⟨⟨some 177, Op.move (Operand.tmp 28), some (176, false)⟩, []⟩,
  ⟨⟨some 178, Op.move (Operand.tmp 26), some (176, false)⟩, []⟩,
  ⟨⟨some 179, Op.move (Operand.tmp 21), some (176, false)⟩, []⟩,
  ⟨⟨some 180, Op.call { callee := (Callee.builtin Builtin.len), args := #[(Operand.tmp 179)], argTypes := #[22] }, some (176, false)⟩, []⟩,
  ⟨⟨some 181, Op.binOp BinOp.add 3 (Operand.tmp 178) (Operand.tmp 180) 3, some (176, false)⟩, []⟩,
  ⟨⟨some 182, Op.binOp BinOp.gtr 3 (Operand.tmp 177) (Operand.tmp 181) 3, some (176, false)⟩, []⟩,
  ⟨⟨some 183, Op.pick (Operand.tmp 176) (Operand.const (Value.bool true)) (Operand.tmp 182), none⟩, []⟩]) (.cond (Operand.tmp 183) (.seq (.reg [⟨⟨some 2, Op.assign (Operand.const (Value.bool false)), none⟩, []⟩]) .ret) .skip)))) .skip)) (.seq (.seq (.reg [⟨⟨some 184, Op.move (Operand.tmp 5), none⟩, []⟩,
  ⟨⟨some 185, Op.unOp UnOp.not 4 (Operand.tmp 184), none⟩, []⟩]) (.cond (Operand.tmp 185) (.seq (.reg [⟨⟨some 186, Op.move (Operand.tmp 3), none⟩, []⟩,
  ⟨⟨some 187, Op.call { callee := (Callee.value (Operand.func 57)), args := #[(Operand.tmp 186)], argTypes := #[38] }, none⟩, []⟩,
  ⟨⟨some 188, Op.unOp UnOp.not 4 (Operand.tmp 187), none⟩, []⟩,
  ⟨⟨some 2, Op.assign (Operand.tmp 188), none⟩, []⟩]) .ret) .skip)) (.seq (.reg [⟨⟨some 190, Op.move (Operand.tmp 3), none⟩, []⟩,
  ⟨⟨some 191, Op.move (Operand.tmp 4), none⟩, []⟩,
  ⟨⟨some 192, Op.call { callee := (Callee.value (Operand.func 51)), args := #[(Operand.tmp 190), (Operand.tmp 191)], argTypes := #[38, 22] }, none⟩, []⟩,
  ⟨⟨some 189, Op.move (Operand.tmp 192), none⟩, []⟩,
  ⟨⟨some 193, Op.extract (Operand.tmp 189) 0, none⟩, []⟩,
  ⟨⟨some 194, Op.extract (Operand.tmp 189) 1, none⟩, []⟩,
  ⟨⟨some 30, Op.assign (Operand.tmp 193), none⟩, []⟩,
  ⟨⟨some 31, Op.assign (Operand.tmp 194), none⟩, []⟩]) (.seq (.seq (.reg [⟨⟨some 32, Op.assign (Operand.const (Value.int IntKind.i64 0)), none⟩, []⟩]) (.block 0 (.loop (.seq (.seq (.reg [⟨⟨some 195, Op.move (Operand.tmp 32), none⟩, []⟩,
  ⟨⟨some 196, Op.move (Operand.tmp 30), none⟩, []⟩,
  ⟨⟨some 197, Op.call { callee := (Callee.builtin Builtin.len), args := #[(Operand.tmp 196)], argTypes := #[38] }, none⟩, []⟩,
  ⟨⟨some 198, Op.binOp BinOp.lss 3 (Operand.tmp 195) (Operand.tmp 197) 3, none⟩, []⟩]) (.cond (Operand.tmp 198) .skip (.exit 0))) (.seq (.block 1 (.seq (.reg [⟨⟨some 201, Op.move (Operand.tmp 30), none⟩, []⟩,
  ⟨⟨some 202, Op.move (Operand.tmp 32), none⟩, []⟩,
  ⟨⟨some 203, Op.indexAddr 38 (Operand.tmp 201) (Operand.tmp 202), none⟩, []⟩,
  ⟨⟨some 204, Op.load 3 (Operand.tmp 203), none⟩, []⟩,
  ⟨⟨some 205, Op.move (Operand.tmp 32), none⟩, []⟩,
  ⟨⟨some 206, Op.binOp BinOp.neq 3 (Operand.tmp 204) (Operand.tmp 205) 3, none⟩, []⟩]) (.cond (Operand.tmp 206) (.seq (.reg [⟨⟨some 2, Op.assign (Operand.const (Value.bool false)), none⟩, []⟩]) .ret) .skip))) (.reg [⟨⟨some 199, Op.move (Operand.tmp 32), none⟩, []⟩,
  ⟨⟨some 200, Op.binOp BinOp.add 3 (Operand.tmp 199) (Operand.const (Value.int IntKind.i64 1)) 3, none⟩, []⟩,
  ⟨⟨some 32, Op.assign (Operand.tmp 200), none⟩, []⟩])))))) (.seq (.reg [⟨⟨some 207, Op.move (Operand.tmp 31), none⟩, []⟩,
  ⟨⟨some 208, Op.move (Operand.tmp 207), none⟩, []⟩,
  ⟨⟨some 209, Op.move (Operand.tmp 4), some (208, true)⟩, []⟩,
  ⟨⟨some 210, Op.call { callee := (Callee.builtin Builtin.len), args := #[(Operand.tmp 209)], argTypes := #[22] }, some (208, true)⟩, []⟩,
  ⟨⟨some 211, Op.move (Operand.tmp 12), some (208, true)⟩, []⟩,
  ⟨⟨some 212, Op.binOp BinOp.eql 3 (Operand.tmp 210) (Operand.tmp 211) 3, some (208, true)⟩, []⟩,
  ⟨⟨some 213, Op.pick (Operand.tmp 208) (Operand.tmp 212) (Operand.const (Value.bool false)), none⟩, []⟩,
  ⟨⟨some 214, Op.move (Operand.tmp 213), none⟩, []⟩,
  ⟨⟨some 215, Op.move (Operand.tmp 12), some (214, true)⟩, []⟩,
  ⟨⟨some 216, Op.move (Operand.tmp 3), some (214, true)⟩, []⟩,
  ⟨⟨some 217, Op.call { callee := (Callee.builtin Builtin.len), args := #[(Operand.tmp 216)], argTypes := #[38] }, some (214, true)⟩, []⟩,
  ⟨⟨some 218, Op.move (Operand.tmp 8), some (214, true)⟩, []⟩,
  ⟨⟨some 219, Op.call { callee := (Callee.builtin Builtin.len), args := #[(Operand.tmp 218)], argTypes := #[26] }, some (214, true)⟩, []⟩,
  ⟨⟨some 220, Op.binOp BinOp.sub 3 (Operand.tmp 217) (Operand.tmp 219) 3, some (214, true)⟩, []⟩,
  ⟨⟨some 221, Op.binOp BinOp.eql 3 (Operand.tmp 215) (Operand.tmp 220) 3, some (214, true)⟩, []⟩,
  ⟨⟨some 222, Op.pick (Operand.tmp 214) (Operand.tmp 221) (Operand.const (Value.bool false)), none⟩, []⟩,
  ⟨⟨some 223, Op.move (Operand.tmp 222), none⟩, []⟩,
  ⟨⟨some 224, Op.move (Operand.tmp 12), some (223, true)⟩, []⟩,
  ⟨⟨some 225, Op.move (Operand.tmp 16), some (223, true)⟩, []⟩,
  ⟨⟨some 226, Op.binOp BinOp.add 3 (Operand.tmp 224) (Operand.tmp 225) 3, some (223, true)⟩, []⟩,
  ⟨⟨some 227, Op.binOp BinOp.rem 3 (Operand.tmp 226) (Operand.const (Value.int IntKind.i64 2)) 3, some (223, true)⟩, []⟩,
  ⟨⟨some 228, Op.binOp BinOp.eql 3 (Operand.tmp 227) (Operand.const (Value.int IntKind.i64 0)) 3, some (223, true)⟩, []⟩,
  ⟨⟨some 229, Op.pick (Operand.tmp 223) (Operand.tmp 228) (Operand.const (Value.bool false)), none⟩, []⟩,
  ⟨⟨some 2, Op.assign (Operand.tmp 229), none⟩, []⟩]) .ret))))))))))))))))))))
theorem sl10 : slim Try.f10.ntmps ords10 (Try.f10.body.getD .skip) = some cd10 := by kernel_rfl
theorem in10 {args : List Value} {H : AH} {R : Value → AH → Prop} (hl : args.length = 1) (h : ∀ (Q : Exit → Sl → AH → Prop), (∀ e s H, endA Try.prog [ResultVar.tmp 2] R e s H → Q e s H) → wpC Try.prog cd10 Q (enterA args) H) : ACalls Try.prog 10 args H R :=
  ACalls.intro (by kernel_rfl) Try.func10 rfl (by kernel_rfl) sl10 hl (of_decide_eq_true (by kernel_rfl)) (by kernel_rfl) h
end Go.Proofs.Ytlfongfhbkefmaa.Ai
namespace Go.Proofs.Ytlfongfhbkefmaa.Ai
open Go Go.RowKit
set_option linter.unusedVariables false
set_option linter.unusedSimpArgs false
theorem rng64 {p : List Int} (h : ∀ y ∈ p, -1 ≤ y ∧ y ≤ 9) : ∀ y ∈ p, I64 y := fun y hy => by have := h y hy; exact ⟨by omega, by omega⟩
theorem prm64 {p : List Int} (hp : Prm p) : ∀ y ∈ p, I64 y := fun y hy => by
  obtain ⟨i, hi, rfl⟩ := List.mem_iff_getElem.1 hy
  have := (prm_range hp).1 i hi
  have e : p.getD i 0 = p[i] := by simp [hi]
  rw [e] at this
  have := hp.1
  exact ⟨by omega, by omega⟩
theorem cycR_sm (p : List Int) : (cycR p).length ≤ 8 ∧ ∀ l ∈ cycR p, l.length ≤ 1000000 := by
  unfold cycR
  split
  · rename_i h
    have h8 := h.1
    refine ⟨Nat.le_trans (cycSt_len p p.length) h8, fun l hl => ?_⟩
    have key : ∀ k, k ≤ p.length → ∀ l ∈ (cycSt p k).1, l.length ≤ p.length := by
      intro k
      induction k with
      | zero => intro _ l hl; simp [cycSt] at hl
      | succ k ih =>
        intro hk l hl
        simp only [cycSt] at hl
        split at hl
        · exact ih (by omega) l hl
        · rcases List.mem_append.1 hl with q | q
          · exact ih (by omega) l q
          · rw [List.mem_singleton] at q
            subst q
            obtain ⟨c, hw⟩ := way_ex h (x := k) (by omega)
            rw [← hw.done]; exact hw.len.2
    have := key p.length (Nat.le_refl _) l hl
    omega
  · exact ⟨by simp, by simp⟩
set_option maxRecDepth 20000 in
set_option maxHeartbeats 8000000 in
theorem plawLaw_c (va : Value) (us : List Value) (H : AH) (hr : RowV 5 H va us) (hb : ∀ i, i < us.length → ∃ b : Nat, us.getD i undef = .int .u8 (b : Int) ∧ b < 256) (hl : (us.length : Int) ≤ 9223372036854775807) :
    ACalls Try.prog 10 [va] H fun r H' => r = .bool true := by
  refine in10 rfl ?_
  intro Q hQ
  simp (maxSteps := 1000000) (disch := omega) only [cd10, S, S1, S2, S3, S4, S5, ST, eq_self, reduceIte, reduceCtorEq, Nat.reduceEqDiff, Nat.reduceAdd]
  refine CallH.by (vBig_c hr hl) ?_
  rintro _ _ ⟨rfl, rfl⟩
  simp (maxSteps := 1000000) (disch := omega) only [S, S1, S2, S3, S4, S5, ST, eq_self, reduceIte, reduceCtorEq, Nat.reduceEqDiff, Nat.reduceAdd]
  refine brD.intro (fun g => ?_) (fun g => ?_)
  · simp (maxSteps := 1000000) (disch := omega) only [S, S1, S2, S3, S4, S5, ST, eq_self, reduceIte, reduceCtorEq, Nat.reduceEqDiff, Nat.reduceAdd]
    refine hQ _ _ _ ?_
    simp (maxSteps := 1000000) (disch := omega) only [S, S1, S2, S3, S4, S5, ST, eq_self, reduceIte, reduceCtorEq, Nat.reduceEqDiff, Nat.reduceAdd]
  have hby : Byt H va us := ⟨hr, hb, by omega⟩
  simp (maxSteps := 1000000) (disch := omega) only [S, S1, S2, S3, S4, S5, ST, eq_self, reduceIte, reduceCtorEq, Nat.reduceEqDiff, Nat.reduceAdd]
  refine CallH.by (DrawSort_c hby) ?_
  rintro vp H1 ⟨p, hO, hpl, hpr, p1⟩
  have hp := hO.row
  have h64 := rng64 hpr
  simp (maxSteps := 1000000) (disch := omega) only [S, S1, S2, S3, S4, S5, ST, eq_self, reduceIte, reduceCtorEq, Nat.reduceEqDiff, Nat.reduceAdd]
  refine CallH.by (SortI_c vp p H1 hp (by omega) h64) ?_
  rintro _ H2 ⟨g1, rfl, m1, p2⟩
  have m1 := m1.row
  simp (maxSteps := 1000000) (disch := omega) only [S, S1, S2, S3, S4, S5, ST, eq_self, reduceIte, reduceCtorEq, Nat.reduceEqDiff, Nat.reduceAdd]
  refine CallH.by (SortS_c vp p H2 (hp.pre p2) (by omega) h64) ?_
  rintro _ H3 ⟨g2, rfl, m2, p3⟩
  have m2 := m2.row
  have q3 := p2.trans p3
  simp (maxSteps := 1000000) (disch := omega) only [S, S1, S2, S3, S4, S5, ST, eq_self, reduceIte, reduceCtorEq, Nat.reduceEqDiff, Nat.reduceAdd]
  refine CallH.by (CycI_c vp p H3 (hp.pre q3) (by omega) h64) ?_
  rintro _ H4 ⟨c1, rfl, k1, p4⟩
  have q4 := q3.trans p4
  simp (maxSteps := 1000000) (disch := omega) only [S, S1, S2, S3, S4, S5, ST, eq_self, reduceIte, reduceCtorEq, Nat.reduceEqDiff, Nat.reduceAdd]
  refine CallH.by (CycS_c vp p H4 (hp.pre q4) (by omega) h64) ?_
  rintro _ H5 ⟨c2, rfl, k2, p5⟩
  have q5 := q4.trans p5
  simp (maxSteps := 1000000) (disch := omega) only [S, S1, S2, S3, S4, S5, ST, eq_self, reduceIte, reduceCtorEq, Nat.reduceEqDiff, Nat.reduceAdd]
  refine CallH.by (SwapCI_c vp p H5 (hp.pre q5) (by omega) h64) ?_
  rintro _ H6 ⟨rfl, p6⟩
  have q6 := q5.trans p6
  simp (maxSteps := 1000000) (disch := omega) only [S, S1, S2, S3, S4, S5, ST, eq_self, reduceIte, reduceCtorEq, Nat.reduceEqDiff, Nat.reduceAdd]
  refine CallH.by (SwapCS_c vp p H6 (hp.pre q6) (by omega) h64) ?_
  rintro _ H7 ⟨rfl, p7⟩
  have q7 := q6.trans p7
  simp (maxSteps := 1000000) (disch := omega) only [S, S1, S2, S3, S4, S5, ST, eq_self, reduceIte, reduceCtorEq, Nat.reduceEqDiff, Nat.reduceAdd]
  refine CallH.by (InvI_c vp p H7 (hp.pre q7) (by omega) h64) ?_
  rintro _ H8 ⟨rfl, p8⟩
  have q8 := q7.trans p8
  simp (maxSteps := 1000000) (disch := omega) only [S, S1, S2, S3, S4, S5, ST, eq_self, reduceIte, reduceCtorEq, Nat.reduceEqDiff, Nat.reduceAdd]
  refine CallH.by (InvS_c vp p H8 (hp.pre q8) (by omega) h64) ?_
  rintro _ H9 ⟨rfl, p9⟩
  have q9 := q8.trans p9
  simp (maxSteps := 1000000) (disch := omega) only [S, S1, S2, S3, S4, S5, ST, eq_self, reduceIte, reduceCtorEq, Nat.reduceEqDiff, Nat.reduceAdd]
  refine CallH.by (vCut_c (hby.pre (p1.trans q9)) (by omega)) ?_
  rintro vc H10 ⟨ws, hby2, p10⟩
  have q10 := q9.trans p10
  simp (maxSteps := 1000000) (disch := omega) only [S, S1, S2, S3, S4, S5, ST, eq_self, reduceIte, reduceCtorEq, Nat.reduceEqDiff, Nat.reduceAdd]
  refine CallH.by (DrawPlaces_c hby2) ?_
  rintro _ H11 ⟨vq, vs, q, ss, rfl, hq, hql, hqr, hss, hsl, hsr, p11⟩
  have q11 := q10.trans p11
  have q64 := rng64 hqr
  have s64 : ∀ s ∈ ss, I64 s.1 ∧ I64 s.2 := fun s hs => by have := hsr s hs; exact ⟨⟨by omega, by omega⟩, ⟨by omega, by omega⟩⟩
  simp (maxSteps := 1000000) (disch := omega) only [S, S1, S2, S3, S4, S5, ST, eq_self, reduceIte, reduceCtorEq, Nat.reduceEqDiff, Nat.reduceAdd]
  refine CallH.by (PlaceI_c vq vs q ss H11 hq (by omega) q64 hss (by omega) s64) ?_
  rintro _ H12 ⟨w1, rfl, n1, p12⟩
  have n1 := n1.row
  have q12 := q11.trans p12
  simp (maxSteps := 1000000) (disch := omega) only [S, S1, S2, S3, S4, S5, ST, eq_self, reduceIte, reduceCtorEq, Nat.reduceEqDiff, Nat.reduceAdd]
  refine CallH.by (PlaceS_c vq vs q ss H12 (hq.pre p12) (by omega) q64 (hss.pre p12) (by omega) s64) ?_
  rintro _ H13 ⟨w2, rfl, n2, p13⟩
  have n2 := n2.row
  have q13 := q12.trans p13
  have b11 := p12.trans p13
  have hcs := cycR_sm p
  have hsl8 := sortR_len p
  have hpl8 := placeR_len q ss
  have PI := PermI_c vp p H13 (hp.pre q13) (by omega) h64
  have C1 := vPairs_c g1 g2 (sortR p) H13 (m1.pre (p3.trans (p4.trans (p5.trans (p6.trans (p7.trans (p8.trans (p9.trans (p10.trans (p11.trans b11)))))))))) (m2.pre (p4.trans (p5.trans (p6.trans (p7.trans (p8.trans (p9.trans (p10.trans (p11.trans b11))))))))) (by omega)
  have C2 := vTable_c c1 c2 (cycR p) H13 (k1.row.pre (p5.trans (p6.trans (p7.trans (p8.trans (p9.trans (p10.trans (p11.trans b11)))))))) (k2.row.pre (p6.trans (p7.trans (p8.trans (p9.trans (p10.trans (p11.trans b11))))))) (by omega) hcs.2
  have C3 := vInts_c w1 w2 (placeR q ss) H13 (n1.pre p13) n2 (by omega)
  generalize hbp : decide (Prm p) = bp
  generalize hbq : decide (plcOk q ss) = bq
  rw [hbp] at PI
  have f1 : decide (¬ bp = bp) = false := by simp
  have f2 : decide (¬ bq = bq) = false := by simp
  have f3 : decide (¬ swapR p = swapR p) = false := by simp
  have f4 : decide (¬ invR p = invR p) = false := by simp
  have y1 : (bp != bp) = false := by simp
  have y2 : (bq != bq) = false := by simp
  have z1 : (!decide (bp = bp)) = false := by simp
  have z2 : (!decide (bq = bq)) = false := by simp
  simp (maxSteps := 1000000) (disch := omega) only [f1, y1, z1, S, S1, S2, S3, S4, S5, ST, eq_self, reduceIte, reduceCtorEq, Nat.reduceEqDiff, Nat.reduceAdd]
  refine CallH.by C1 ?_
  rintro _ _ ⟨rfl, rfl⟩
  simp (maxSteps := 1000000) (disch := omega) only [f1, y1, z1, S, S1, S2, S3, S4, S5, ST, eq_self, reduceIte, reduceCtorEq, Nat.reduceEqDiff, Nat.reduceAdd]
  refine CallH.by C2 ?_
  rintro _ _ ⟨rfl, rfl⟩
  simp (maxSteps := 4000000) (disch := omega) only [f1, f2, f3, f4, y1, y2, z1, z2, S, S1, S2, S3, S4, S5, ST, eq_self, reduceIte, reduceCtorEq, Nat.reduceEqDiff, Nat.reduceAdd]
  refine CallH.by C3 ?_
  rintro _ _ ⟨rfl, rfl⟩
  simp (maxSteps := 1000000) (disch := omega) only [S, S1, S2, S3, S4, S5, ST, eq_self, reduceIte, reduceCtorEq, Nat.reduceEqDiff, Nat.reduceAdd]
  refine CallH.by PI ?_
  rintro _ H14 ⟨rfl, p14⟩
  simp (maxSteps := 1000000) (disch := omega) only [f1, y1, z1, S, S1, S2, S3, S4, S5, ST, eq_self, reduceIte, reduceCtorEq, Nat.reduceEqDiff, Nat.reduceAdd]
  refine CallH.by (PermS_c vp p H14 (hp.pre (q13.trans p14)) (by omega) h64) ?_
  rintro _ H15 ⟨rfl, p15⟩
  rw [hbp]
  have q15 := q13.trans (p14.trans p15)
  simp (maxSteps := 1000000) (disch := omega) only [f1, y1, z1, S, S1, S2, S3, S4, S5, ST, eq_self, reduceIte, reduceCtorEq, Nat.reduceEqDiff, Nat.reduceAdd]
  cases bq
  · simp (maxSteps := 1000000) (disch := omega) only [S, S1, S2, S3, S4, S5, ST, eq_self, reduceIte, reduceCtorEq, Nat.reduceEqDiff, Nat.reduceAdd]
    cases bp
    · simp (maxSteps := 1000000) (disch := omega) only [S, S1, S2, S3, S4, S5, ST, eq_self, reduceIte, reduceCtorEq, Nat.reduceEqDiff, Nat.reduceAdd]
      refine CallH.by (PermS_c vp p H15 (hp.pre q15) (by omega) h64) ?_
      rintro _ HZ ⟨rfl, pZ⟩
      rw [hbp]
      simp (maxSteps := 1000000) (disch := omega) only [S, S1, S2, S3, S4, S5, ST, eq_self, reduceIte, reduceCtorEq, Nat.reduceEqDiff, Nat.reduceAdd]
      refine hQ _ _ _ ?_
      simp (maxSteps := 1000000) (disch := omega) only [S, S1, S2, S3, S4, S5, ST, eq_self, reduceIte, reduceCtorEq, Nat.reduceEqDiff, Nat.reduceAdd]
    · simp (maxSteps := 1000000) (disch := omega) only [S, S1, S2, S3, S4, S5, ST, eq_self, reduceIte, reduceCtorEq, Nat.reduceEqDiff, Nat.reduceAdd]
      have pP : Prm p := of_decide_eq_true hbp
      have pl := prm_law pP
      have m1' := m1.pre (p3.trans (p4.trans (p5.trans (p6.trans (p7.trans (p8.trans (p9.trans (p10.trans (p11.trans (b11.trans (p14.trans p15)))))))))))
      have sr64 : ∀ s ∈ sortR p, I64 s.1 ∧ I64 s.2 := fun s hs => by
        have h0 := pP.1
        obtain ⟨i, hi, rfl⟩ := List.mem_iff_getElem.1 hs
        have := pl.1.2 _ (List.getElem_mem hi)
        unfold swOk at this
        exact ⟨⟨by omega, by omega⟩, ⟨by omega, by omega⟩⟩
      refine CallH.by (PlaceI_c vp g1 p (sortR p) H15 (hp.pre q15) (by omega) h64 m1' (by omega) sr64) ?_
      rintro _ HY ⟨w3, rfl, n3, p3'⟩
      have n3 := n3.row
      have l8 := pl.2.2.1
      rw [decide_eq_true pl.1]
      simp (maxSteps := 1000000) (disch := omega) only [S, S1, S2, S3, S4, S5, ST, eq_self, reduceIte, reduceCtorEq, Nat.reduceEqDiff, Nat.reduceAdd]
      obtain ⟨cus, cr1, cr0, cr2, cr3⟩ := k1.row
      have u1 : ((sortR p).length : Int) = swapR p := pl.2.2.2.1
      have u2 : swapR p = (p.length : Int) - (cus.length : Int) := by have := pl.2.2.2.2.1; omega
      have u3 : (swapR p + invR p).tmod 2 = 0 := by
        rw [Int.tmod_eq_emod_of_nonneg (by omega)]; exact pl.2.2.2.2.2.1
      refine LoopH.by (fun m s H' => ∃ (i : Nat), m + i = (placeR p (sortR p)).length ∧ s 3 = vp ∧ s 4 = g1 ∧ s 8 = c1 ∧ s 12 = .int .i64 (swapR p) ∧ s 16 = .int .i64 (invR p) ∧ s 30 = w3 ∧ s 31 = .bool true ∧ s 32 = .int .i64 ((i : Nat) : Int) ∧ HY = H') (placeR p (sortR p)).length ?_ ?_
      · exact ⟨0, by simp, rfl, rfl, rfl, rfl, rfl, rfl, rfl, rfl, rfl⟩
      rintro m s H' ⟨i, hm, h3, h4, h8, h12, h16, h30, h31, h32, rfl⟩
      simp (maxSteps := 1000000) (disch := omega) only [h30, h32, n3.len Try.underlying38, S, S1, S2, S3, S4, S5, ST, eq_self, reduceIte, reduceCtorEq, Nat.reduceEqDiff, Nat.reduceAdd]
      refine brD.intro (fun g => ?_) (fun g => ?_)
      · have hi : i < (placeR p (sortR p)).length := by omega
        have cc := n3.cell hi
        rw [pl.2.1 i (by omega)] at cc
        have e1 : ¬ ¬ ((i : Nat) : Int) = ((i : Nat) : Int) := fun h => h rfl
        simp (maxSteps := 1000000) (disch := omega) only [h30, h32, n3.ix Try.underlying38 cs3, Int.toNat_natCast, cc, decide_eq_false e1, wrap64, S, S1, S2, S3, S4, S5, ST, eq_self, reduceIte, reduceCtorEq, Nat.reduceEqDiff, Nat.reduceAdd]
        refine ⟨m - 1, by omega, i + 1, ?_⟩
        (repeat' first | exact rfl | apply And.intro) <;> first | (simp only [Value.int.injEq, true_and]; omega) | omega | rfl | assumption | (simp; done) | (simp; omega)
      · simp (maxSteps := 1000000) (disch := omega) only [h3, h4, h8, h12, h16, h30, h31, h32, m1'.len Try.underlying22, hp.len Try.underlying38, cr1.len Try.underlying26, decide_eq_true u1, wrap64, decide_eq_true u2, u3, S, S1, S2, S3, S4, S5, ST, eq_self, reduceIte, reduceCtorEq, Nat.reduceEqDiff, Nat.reduceAdd]
        refine hQ _ _ _ ?_
        simp (maxSteps := 1000000) (disch := omega) only [S, S1, S2, S3, S4, S5, ST, eq_self, reduceIte, reduceCtorEq, Nat.reduceEqDiff, Nat.reduceAdd]
  · simp (maxSteps := 1000000) (disch := omega) only [S, S1, S2, S3, S4, S5, ST, eq_self, reduceIte, reduceCtorEq, Nat.reduceEqDiff, Nat.reduceAdd]
    have n1' := n1.pre (p13.trans (p14.trans p15))
    have mq := prm_moved (of_decide_eq_true hbq)
    have qP : Prm q := (of_decide_eq_true hbq).1
    have lq := prm_law qP
    have lw := prm_law mq.1
    refine CallH.by (SwapCI_c vq q H15 (hq.pre (b11.trans (p14.trans p15))) (by omega) q64) ?_
    rintro _ H16 ⟨rfl, p16⟩
    simp (maxSteps := 1000000) (disch := omega) only [S, S1, S2, S3, S4, S5, ST, eq_self, reduceIte, reduceCtorEq, Nat.reduceEqDiff, Nat.reduceAdd]
    refine CallH.by (SwapCI_c w1 (placeR q ss) H16 (n1'.pre p16) (by omega) (prm64 mq.1)) ?_
    rintro _ H17 ⟨rfl, p17⟩
    rw [decide_eq_true mq.1]
    have q17 := q15.trans (p16.trans p17)
    have t1 : (swapR q + swapR (placeR q ss) + (ss.length : Int)).tmod 2 = 0 := by
      rw [Int.tmod_eq_emod_of_nonneg (by omega)]; exact mq.2.1
    have t2 : ¬ ¬ (swapR q + swapR (placeR q ss) + (ss.length : Int)).tmod 2 = 0 := fun h => h t1
    have t3 : ¬ (swapR q + (ss.length : Int)) < swapR (placeR q ss) := by omega
    simp (maxSteps := 4000000) (disch := omega) only [wrap64, hss.len Try.underlying22, t1, decide_eq_false t2, decide_eq_false t3, S, S1, S2, S3, S4, S5, ST, eq_self, reduceIte, reduceCtorEq, Nat.reduceEqDiff, Nat.reduceAdd]
    cases bp
    · simp (maxSteps := 1000000) (disch := omega) only [S, S1, S2, S3, S4, S5, ST, eq_self, reduceIte, reduceCtorEq, Nat.reduceEqDiff, Nat.reduceAdd]
      refine CallH.by (PermS_c vp p H17 (hp.pre q17) (by omega) h64) ?_
      rintro _ HZ ⟨rfl, pZ⟩
      rw [hbp]
      simp (maxSteps := 1000000) (disch := omega) only [S, S1, S2, S3, S4, S5, ST, eq_self, reduceIte, reduceCtorEq, Nat.reduceEqDiff, Nat.reduceAdd]
      refine hQ _ _ _ ?_
      simp (maxSteps := 1000000) (disch := omega) only [S, S1, S2, S3, S4, S5, ST, eq_self, reduceIte, reduceCtorEq, Nat.reduceEqDiff, Nat.reduceAdd]
    · simp (maxSteps := 1000000) (disch := omega) only [S, S1, S2, S3, S4, S5, ST, eq_self, reduceIte, reduceCtorEq, Nat.reduceEqDiff, Nat.reduceAdd]
      have pP : Prm p := of_decide_eq_true hbp
      have pl := prm_law pP
      have m1' := m1.pre (p3.trans (p4.trans (p5.trans (p6.trans (p7.trans (p8.trans (p9.trans (p10.trans (p11.trans (b11.trans (p14.trans (p15.trans (p16.trans p17)))))))))))))
      have sr64 : ∀ s ∈ sortR p, I64 s.1 ∧ I64 s.2 := fun s hs => by
        have h0 := pP.1
        obtain ⟨i, hi, rfl⟩ := List.mem_iff_getElem.1 hs
        have := pl.1.2 _ (List.getElem_mem hi)
        unfold swOk at this
        exact ⟨⟨by omega, by omega⟩, ⟨by omega, by omega⟩⟩
      refine CallH.by (PlaceI_c vp g1 p (sortR p) H17 (hp.pre q17) (by omega) h64 m1' (by omega) sr64) ?_
      rintro _ HY ⟨w3, rfl, n3, p3'⟩
      have n3 := n3.row
      have l8 := pl.2.2.1
      rw [decide_eq_true pl.1]
      simp (maxSteps := 1000000) (disch := omega) only [S, S1, S2, S3, S4, S5, ST, eq_self, reduceIte, reduceCtorEq, Nat.reduceEqDiff, Nat.reduceAdd]
      obtain ⟨cus, cr1, cr0, cr2, cr3⟩ := k1.row
      have u1 : ((sortR p).length : Int) = swapR p := pl.2.2.2.1
      have u2 : swapR p = (p.length : Int) - (cus.length : Int) := by have := pl.2.2.2.2.1; omega
      have u3 : (swapR p + invR p).tmod 2 = 0 := by
        rw [Int.tmod_eq_emod_of_nonneg (by omega)]; exact pl.2.2.2.2.2.1
      refine LoopH.by (fun m s H' => ∃ (i : Nat), m + i = (placeR p (sortR p)).length ∧ s 3 = vp ∧ s 4 = g1 ∧ s 8 = c1 ∧ s 12 = .int .i64 (swapR p) ∧ s 16 = .int .i64 (invR p) ∧ s 30 = w3 ∧ s 31 = .bool true ∧ s 32 = .int .i64 ((i : Nat) : Int) ∧ HY = H') (placeR p (sortR p)).length ?_ ?_
      · exact ⟨0, by simp, rfl, rfl, rfl, rfl, rfl, rfl, rfl, rfl, rfl⟩
      rintro m s H' ⟨i, hm, h3, h4, h8, h12, h16, h30, h31, h32, rfl⟩
      simp (maxSteps := 1000000) (disch := omega) only [h30, h32, n3.len Try.underlying38, S, S1, S2, S3, S4, S5, ST, eq_self, reduceIte, reduceCtorEq, Nat.reduceEqDiff, Nat.reduceAdd]
      refine brD.intro (fun g => ?_) (fun g => ?_)
      · have hi : i < (placeR p (sortR p)).length := by omega
        have cc := n3.cell hi
        rw [pl.2.1 i (by omega)] at cc
        have e1 : ¬ ¬ ((i : Nat) : Int) = ((i : Nat) : Int) := fun h => h rfl
        simp (maxSteps := 1000000) (disch := omega) only [h30, h32, n3.ix Try.underlying38 cs3, Int.toNat_natCast, cc, decide_eq_false e1, wrap64, S, S1, S2, S3, S4, S5, ST, eq_self, reduceIte, reduceCtorEq, Nat.reduceEqDiff, Nat.reduceAdd]
        refine ⟨m - 1, by omega, i + 1, ?_⟩
        (repeat' first | exact rfl | apply And.intro) <;> first | (simp only [Value.int.injEq, true_and]; omega) | omega | rfl | assumption | (simp; done) | (simp; omega)
      · simp (maxSteps := 1000000) (disch := omega) only [h3, h4, h8, h12, h16, h30, h31, h32, m1'.len Try.underlying22, hp.len Try.underlying38, cr1.len Try.underlying26, decide_eq_true u1, wrap64, decide_eq_true u2, u3, S, S1, S2, S3, S4, S5, ST, eq_self, reduceIte, reduceCtorEq, Nat.reduceEqDiff, Nat.reduceAdd]
        refine hQ _ _ _ ?_
        simp (maxSteps := 1000000) (disch := omega) only [S, S1, S2, S3, S4, S5, ST, eq_self, reduceIte, reduceCtorEq, Nat.reduceEqDiff, Nat.reduceAdd]
end Go.Proofs.Ytlfongfhbkefmaa.Ai
namespace Go.Proofs.Ytlfongfhbkefmaa.Ai
open Go Go.RowKit
set_option linter.unusedVariables false
set_option linter.unusedSimpArgs false
def byts (zs : List Int) : List Value := zs.map fun z => .int .u8 z
theorem byts_len (xs : List Int) : (byts xs).length = xs.length := by simp [byts]
theorem byts_at (xs : List Int) {i : Nat} (h : i < xs.length) : (byts xs)[i]? = some (.int .u8 (xs.getD i 0)) := by
  simp [byts, h, List.getElem?_eq_getElem]
theorem Args.addBytes {P : Program} {t e : TypeId} {W : World} {base : Nat} {a : Option Addr} {len cap : Nat} {zs : List Int} {μ : Mu} {H : AH} (h : Args P μ H W) (hc : P.cellsOf e = 1) (hu : P.underlying t = some (.slice e))
    (hok : Value.okWide P W .any base t (.slice a len cap)) (hrow : IsRow .u8 W a len cap zs) :
    ∃ (μ' : Mu) (obj : AObj) (va : Value) (us : List Value), Args P μ' (H ++ [obj]) W ∧ μ.Le μ' ∧ TRel μ' va (.slice a len cap) ∧ RowV e (H ++ [obj]) va us ∧ (∀ i, i < us.length → ∃ b : Nat, us.getD i undef = .int .u8 (b : Int) ∧ b < 256) ∧ (us.length : Int) ≤ 9223372036854775807 := by
  rcases hrow with ⟨rfl, rfl, rfl, rfl⟩ | ⟨x, rfl, hl, hm, hz, hcell, hwf⟩
  · refine ⟨μ, .dead, .slice none 0 0, [], ⟨h.rel.phantom .dead, ?_⟩, Mu.Le.refl _, ⟨rfl, rfl, rfl⟩, .inl ⟨rfl, rfl⟩, fun i hi => absurd hi (by simp), by simp⟩
    intro o y hy
    rw [getElem?_snoc] at hy
    split at hy
    · cases hy; rfl
    · exact h.ro o y hy
  · simp only [Value.okWide, hu, Cell.okWide, Cell.ok] at hok
    obtain ⟨_, _, _, hspot, row, cells, hsh, _⟩ := hok
    have hblk : x.block < W.heap.size := by
      unfold World.shape? at hsh
      cases hb : W.heap[x.block]? with
      | none => rw [hb] at hsh; cases hsh
      | some o => exact (Array.getElem?_eq_some_iff.1 hb).1
    have hx : ∀ i, x.add i = ⟨x.block, x.off + i, none⟩ := by intro i; cases x; simp_all [Addr.add]
    have hfree : μ H.length = none := h.rel.dom _ (Nat.le_refl _)
    have hle := Mu.le_put (L := ⟨x.block, x.off, cap, 1⟩) hfree
    have hro : ∀ (o : Nat) (y : AObj), (H ++ [AObj.cells (byts zs) e true])[o]? = some y → y.wr = false := by
      intro o y hy
      rw [getElem?_snoc] at hy
      split at hy
      · cases hy; rfl
      · exact h.ro o y hy
    refine ⟨μ.put H.length ⟨x.block, x.off, cap, 1⟩, .cells (byts zs) e true, .slice (some ⟨H.length, 0, none⟩) len len, byts (zs.take len), ⟨?_, hro⟩, hle, ?_, ?_, ?_, ?_⟩
    · refine ⟨?_, ?_, ?_, ?_⟩
      · intro o ho
        simp only [List.length_append, List.length_cons, List.length_nil] at ho
        rw [Mu.put_other _ _ _ (by omega)]; exact h.rel.dom o (by omega)
      · intro o vs t' ro L ho hL
        rw [getElem?_snoc] at ho
        split at ho
        · rename_i eo
          subst eo
          simp only [Option.some.injEq, AObj.cells.injEq] at ho
          obtain ⟨rfl, rfl, rfl⟩ := ho
          rw [Mu.put_same] at hL
          cases hL
          refine ⟨hblk, by simp, hc.symm, by rw [byts_len]; show zs.length ≤ cap; omega, ?_, fun h => by cases h⟩
          intro i v hv
          have hi : i < zs.length := by have := (List.getElem?_eq_some_iff.1 hv).1; rwa [byts_len] at this
          rw [byts_at zs hi] at hv
          cases hv
          refine ⟨_, ?_, rfl⟩
          rw [← hx]; exact hcell i hi
        · rename_i eo
          rw [Mu.put_other _ _ _ eo] at hL
          obtain ⟨h2, h3, h4, h5, h6, h7⟩ := h.rel.cells_ o vs t' ro L ho hL
          refine ⟨h2, h3, h4, h5, ?_, h7⟩
          intro i v hv
          obtain ⟨cv, g1, g2⟩ := h6 i v hv
          exact ⟨cv, g1, g2.mono hle⟩
      · intro o es L ho hL
        rw [getElem?_snoc] at ho
        split at ho
        · cases ho
        · have := h.ro o _ ho
          cases this
      · intro o o' y y' L L' hne ho ho' hw
        have := hro o y ho
        rw [this] at hw; cases hw
    · refine ⟨rfl, rfl, x, cap, rfl, hl, .inr ⟨⟨x.block, x.off, cap, 1⟩, Mu.put_same _ _ _, ?_, by simp⟩⟩
      have := hx 0
      cases x
      simp_all
    · refine .inr ⟨H.length, 0, byts zs, true, ?_, at_new .., ?_, ?_⟩
      · have : (byts (zs.take len)).length = len := by rw [byts_len]; simp; omega
        rw [this]
      · rw [byts_len, byts_len]; simp; omega
      · have : (byts (zs.take len)).length = len := by rw [byts_len]; simp; omega
        rw [this, List.drop_zero]
        simp [byts, List.map_take]
    · intro i hi
      rw [byts_len] at hi
      have h1 := byts_at (zs.take len) hi
      have hm2 : (zs.take len).getD i 0 ∈ zs.take len := by
        rw [List.getD_eq_getElem?_getD, List.getElem?_eq_getElem hi]
        exact List.getElem_mem hi
      have := hwf _ (List.mem_of_mem_take hm2)
      simp [Lit.wf, IntKind.min, IntKind.max, IntKind.signed, IntKind.bits] at this
      rw [List.getD_eq_getElem?_getD, h1]
      have h0 : 0 ≤ (zs.take len).getD i 0 ∧ (zs.take len).getD i 0 < 256 := by
        simp only [List.getD_eq_getElem?_getD, List.getElem?_take] at this ⊢
        omega
      exact ⟨((zs.take len).getD i 0).toNat, by rw [Int.toNat_of_nonneg h0.1]; rfl, by omega⟩
    · rw [byts_len, List.length_take]
      unfold maxLen at hm
      omega
end Go.Proofs.Ytlfongfhbkefmaa.Ai
