/- Slim code of this translation. By the kernel. -/
import Derived.Test.YtedlnjcfacadgaaProg
import Derived.Test.YtedlnjcfacadgaaAiC
import Derived.KernelRfl
namespace Go.Proofs.Ytedlnjcfacadgaa.Ai
open Go

/- loop.example/g01128/laws.FnExactFanOf -/
def ords6 : List (Nat × List (Nat × Bool)) := []
def cd6 : Cd := (.seq (.reg [⟨⟨some 4, Op.assign (Operand.const (Value.bool false)), none⟩, []⟩]) (.seq (.reg [⟨⟨some 14, Op.move (Operand.tmp 0), none⟩, []⟩,
  ⟨⟨some 15, Op.move (Operand.tmp 1), none⟩, []⟩,
  ⟨⟨some 16, Op.call { callee := (Callee.value (Operand.func 22)), args := #[(Operand.tmp 14), (Operand.tmp 15)], argTypes := #[3, 3] }, none⟩, []⟩,
  ⟨⟨some 13, Op.move (Operand.tmp 16), none⟩, []⟩,
  ⟨⟨some 17, Op.extract (Operand.tmp 13) 0, none⟩, []⟩,
  ⟨⟨some 18, Op.extract (Operand.tmp 13) 1, none⟩, []⟩,
  ⟨⟨some 5, Op.assign (Operand.tmp 17), none⟩, []⟩,
  ⟨⟨some 6, Op.assign (Operand.tmp 18), none⟩, []⟩]) (.seq (.reg [⟨⟨some 20, Op.move (Operand.tmp 0), none⟩, []⟩,
  ⟨⟨some 21, Op.move (Operand.tmp 1), none⟩, []⟩,
  ⟨⟨some 22, Op.call { callee := (Callee.value (Operand.func 23)), args := #[(Operand.tmp 20), (Operand.tmp 21)], argTypes := #[3, 3] }, none⟩, []⟩,
  ⟨⟨some 19, Op.move (Operand.tmp 22), none⟩, []⟩,
  ⟨⟨some 23, Op.extract (Operand.tmp 19) 0, none⟩, []⟩,
  ⟨⟨some 24, Op.extract (Operand.tmp 19) 1, none⟩, []⟩,
  ⟨⟨some 7, Op.assign (Operand.tmp 23), none⟩, []⟩,
  ⟨⟨some 8, Op.assign (Operand.tmp 24), none⟩, []⟩]) (.seq (.seq (.reg [⟨⟨some 25, Op.move (Operand.tmp 7), none⟩, []⟩,
  ⟨⟨some 26, Op.move (Operand.tmp 5), none⟩, []⟩,
  ⟨⟨some 27, Op.call { callee := (Callee.value (Operand.func 19)), args := #[(Operand.tmp 25), (Operand.tmp 26)], argTypes := #[25, 25] }, none⟩, []⟩,
  ⟨⟨some 28, Op.unOp UnOp.not 4 (Operand.tmp 27), none⟩, []⟩,
  ⟨⟨some 29, Op.move (Operand.tmp 28), none⟩, []⟩,
  ⟨⟨some 30, Op.move (Operand.tmp 8), some (29, false)⟩, []⟩,
  ⟨⟨some 31, Op.move (Operand.tmp 6), some (29, false)⟩, []⟩,
  ⟨⟨some 32, Op.binOp BinOp.neq 4 (Operand.tmp 30) (Operand.tmp 31) 4, some (29, false)⟩, []⟩,
  ⟨⟨some 33, Op.pick (Operand.tmp 29) (Operand.const (Value.bool true)) (Operand.tmp 32), none⟩, []⟩]) (.cond (Operand.tmp 33) (.seq (.reg [⟨⟨some 4, Op.assign (Operand.const (Value.bool false)), none⟩, []⟩]) .ret) .skip)) (.seq (.reg [⟨⟨some 9, Op.assign (Operand.const (Value.int IntKind.i64 1)), none⟩, []⟩]) (.seq (.reg [⟨⟨some 34, Op.move (Operand.tmp 7), none⟩, []⟩,
  ⟨⟨some 35, Op.move (Operand.tmp 9), none⟩, []⟩,
  ⟨⟨some 36, Op.call { callee := (Callee.value (Operand.func 24)), args := #[(Operand.tmp 34), (Operand.tmp 35)], argTypes := #[25, 3] }, none⟩, []⟩,
  ⟨⟨some 9, Op.assign (Operand.tmp 36), none⟩, []⟩]) (.seq (.reg [⟨⟨some 10, Op.assign (Operand.const (Value.int IntKind.i64 1)), none⟩, []⟩]) (.seq (.reg [⟨⟨some 37, Op.move (Operand.tmp 7), none⟩, []⟩,
  ⟨⟨some 38, Op.move (Operand.tmp 10), none⟩, []⟩,
  ⟨⟨some 39, Op.call { callee := (Callee.value (Operand.func 25)), args := #[(Operand.tmp 37), (Operand.tmp 38)], argTypes := #[25, 3] }, none⟩, []⟩,
  ⟨⟨some 10, Op.assign (Operand.tmp 39), none⟩, []⟩]) (.seq (.seq (.reg [⟨⟨some 40, Op.move (Operand.tmp 10), none⟩, []⟩,
  ⟨⟨some 41, Op.binOp BinOp.lss 3 (Operand.tmp 40) (Operand.const (Value.int IntKind.i64 0)) 3, none⟩, []⟩]) (.cond (Operand.tmp 41) (.seq (.reg [⟨⟨some 4, Op.assign (Operand.const (Value.bool false)), none⟩, []⟩]) .ret) .skip)) (.seq (.seq (.reg [⟨⟨some 42, Op.move (Operand.tmp 10), none⟩, []⟩,
  ⟨⟨some 43, Op.move (Operand.tmp 9), none⟩, []⟩,
  ⟨⟨some 44, Op.binOp BinOp.neq 3 (Operand.tmp 42) (Operand.tmp 43) 3, none⟩, []⟩]) (.cond (Operand.tmp 44) (.seq (.reg [⟨⟨some 4, Op.assign (Operand.const (Value.bool false)), none⟩, []⟩]) .ret) .skip)) (.seq (.reg [⟨⟨some 46, Op.move (Operand.tmp 0), none⟩, []⟩,
  ⟨⟨some 47, Op.move (Operand.tmp 1), none⟩, []⟩,
  ⟨⟨some 48, Op.call { callee := (Callee.value (Operand.func 23)), args := #[(Operand.tmp 46), (Operand.tmp 47)], argTypes := #[3, 3] }, none⟩, []⟩,
  ⟨⟨some 45, Op.move (Operand.tmp 48), none⟩, []⟩,
  ⟨⟨some 49, Op.extract (Operand.tmp 45) 0, none⟩, []⟩,
  ⟨⟨some 50, Op.extract (Operand.tmp 45) 1, none⟩, []⟩,
  ⟨⟨some 11, Op.assign (Operand.tmp 49), none⟩, []⟩,
  ⟨⟨some 12, Op.assign (Operand.tmp 50), none⟩, []⟩]) (.seq (.seq (.reg [⟨⟨some 51, Op.move (Operand.tmp 11), none⟩, []⟩,
  ⟨⟨some 52, Op.move (Operand.tmp 5), none⟩, []⟩,
  ⟨⟨some 53, Op.call { callee := (Callee.value (Operand.func 19)), args := #[(Operand.tmp 51), (Operand.tmp 52)], argTypes := #[25, 25] }, none⟩, []⟩,
  ⟨⟨some 54, Op.unOp UnOp.not 4 (Operand.tmp 53), none⟩, []⟩,
  ⟨⟨some 55, Op.move (Operand.tmp 54), none⟩, []⟩,
  ⟨⟨some 56, Op.move (Operand.tmp 12), some (55, false)⟩, []⟩,
  ⟨⟨some 57, Op.move (Operand.tmp 6), some (55, false)⟩, []⟩,
  ⟨⟨some 58, Op.binOp BinOp.neq 4 (Operand.tmp 56) (Operand.tmp 57) 4, some (55, false)⟩, []⟩,
  ⟨⟨some 59, Op.pick (Operand.tmp 55) (Operand.const (Value.bool true)) (Operand.tmp 58), none⟩, []⟩]) (.cond (Operand.tmp 59) (.seq (.reg [⟨⟨some 4, Op.assign (Operand.const (Value.bool false)), none⟩, []⟩]) .ret) .skip)) (.seq (.reg [⟨⟨some 10, Op.assign (Operand.const (Value.int IntKind.i64 1)), none⟩, []⟩]) (.seq (.reg [⟨⟨some 60, Op.move (Operand.tmp 7), none⟩, []⟩,
  ⟨⟨some 61, Op.move (Operand.tmp 10), none⟩, []⟩,
  ⟨⟨some 62, Op.call { callee := (Callee.value (Operand.func 25)), args := #[(Operand.tmp 60), (Operand.tmp 61)], argTypes := #[25, 3] }, none⟩, []⟩,
  ⟨⟨some 10, Op.assign (Operand.tmp 62), none⟩, []⟩]) (.seq (.seq (.reg [⟨⟨some 63, Op.move (Operand.tmp 10), none⟩, []⟩,
  ⟨⟨some 64, Op.binOp BinOp.lss 3 (Operand.tmp 63) (Operand.const (Value.int IntKind.i64 0)) 3, none⟩, []⟩]) (.cond (Operand.tmp 64) (.seq (.reg [⟨⟨some 4, Op.assign (Operand.const (Value.bool false)), none⟩, []⟩]) .ret) .skip)) (.seq (.seq (.reg [⟨⟨some 65, Op.move (Operand.tmp 10), none⟩, []⟩,
  ⟨⟨some 66, Op.move (Operand.tmp 9), none⟩, []⟩,
  ⟨⟨some 67, Op.binOp BinOp.neq 3 (Operand.tmp 65) (Operand.tmp 66) 3, none⟩, []⟩]) (.cond (Operand.tmp 67) (.seq (.reg [⟨⟨some 4, Op.assign (Operand.const (Value.bool false)), none⟩, []⟩]) .ret) .skip)) (.seq (.reg [⟨⟨some 4, Op.assign (Operand.const (Value.bool true)), none⟩, []⟩]) .ret)))))))))))))))))
theorem sl6 : slim Try.f6.ntmps ords6 (Try.f6.body.getD .skip) = some cd6 := by kernel_rfl
theorem in6 {args : List Value} {H : AH} {R : Value → AH → Prop} (hl : args.length = 2) (h : ∀ (Q : Exit → Sl → AH → Prop), (∀ e s H, endA Try.prog [ResultVar.tmp 4] R e s H → Q e s H) → wpC Try.prog cd6 Q (enterA args) H) : ACalls Try.prog 6 args H R :=
  ACalls.intro (by kernel_rfl) Try.func6 rfl (by kernel_rfl) sl6 hl (of_decide_eq_true (by kernel_rfl)) (by kernel_rfl) h
end Go.Proofs.Ytedlnjcfacadgaa.Ai
