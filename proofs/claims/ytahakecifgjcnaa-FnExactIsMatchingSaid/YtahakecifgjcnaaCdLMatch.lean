/- Slim code of this translation. By the kernel. -/
import Derived.Test.YtahakecifgjcnaaProg
import Derived.Test.YtahakecifgjcnaaAiM2
import Derived.KernelRfl
namespace Go.Proofs.Ytahakecifgjcnaa.Ai
open Go

/- loop.example/g01128/laws.FnExactIsMatching -/
def ords5 : List (Nat × List (Nat × Bool)) := [(13, [(0, false), (1, false), (2, true), (3, true), (4, false)])]
def cd5 : Cd := (.seq (.reg [⟨⟨some 2, Op.box 37 (Operand.tmp 0), none⟩, []⟩,
  ⟨⟨some 4, Op.assign (Operand.const (Value.bool false)), none⟩, []⟩]) (.seq (.seq (.reg [⟨⟨some 12, Op.move (Operand.tmp 1), none⟩, []⟩,
  ⟨⟨some 13, Op.call { callee := (Callee.builtin Builtin.len), args := #[(Operand.tmp 12)], argTypes := #[22] }, none⟩, []⟩,
  ⟨⟨some 14, Op.binOp BinOp.gtr 3 (Operand.tmp 13) (Operand.const (Value.int IntKind.i64 1048576)) 3, none⟩, []⟩]) (.cond (Operand.tmp 14) (.seq (.reg [⟨⟨some 4, Op.assign (Operand.const (Value.bool true)), none⟩, []⟩]) .ret) .skip)) (.seq (.reg [⟨⟨some 5, Op.assign (Operand.const (Value.int IntKind.i64 1048576)), none⟩, []⟩]) (.seq (.reg [⟨⟨some 15, Op.load 37 (Operand.tmp 2), none⟩, []⟩,
  ⟨⟨some 16, Op.move (Operand.tmp 5), none⟩, []⟩,
  ⟨⟨some 17, Op.call { callee := (Callee.value (Operand.func 27)), args := #[(Operand.tmp 15), (Operand.tmp 16)], argTypes := #[37, 3] }, none⟩, []⟩,
  ⟨⟨some 5, Op.assign (Operand.tmp 17), none⟩, []⟩]) (.seq (.seq (.reg [⟨⟨some 18, Op.move (Operand.tmp 5), none⟩, []⟩,
  ⟨⟨some 19, Op.binOp BinOp.lss 3 (Operand.tmp 18) (Operand.const (Value.int IntKind.i64 0)) 3, none⟩, []⟩]) (.cond (Operand.tmp 19) (.seq (.reg [⟨⟨some 4, Op.assign (Operand.const (Value.bool true)), none⟩, []⟩]) .ret) .skip)) (.seq (.reg [⟨⟨some 21, Op.load 37 (Operand.tmp 2), none⟩, []⟩,
  ⟨⟨some 22, Op.call { callee := (Callee.value (Operand.func 29)), args := #[(Operand.tmp 21)], argTypes := #[37] }, none⟩, []⟩,
  ⟨⟨some 23, Op.move (Operand.tmp 1), none⟩, []⟩,
  ⟨⟨some 24, Op.call { callee := (Callee.value (Operand.func 17)), args := #[(Operand.tmp 23)], argTypes := #[22] }, none⟩, []⟩,
  ⟨⟨some 25, Op.call { callee := (Callee.value (Operand.func 28)), args := #[(Operand.tmp 22), (Operand.tmp 24)], argTypes := #[41, 22] }, none⟩, []⟩,
  ⟨⟨some 20, Op.move (Operand.tmp 25), none⟩, []⟩,
  ⟨⟨some 26, Op.extract (Operand.tmp 20) 0, none⟩, []⟩,
  ⟨⟨some 27, Op.extract (Operand.tmp 20) 1, none⟩, []⟩,
  ⟨⟨some 6, Op.assign (Operand.tmp 26), none⟩, []⟩,
  ⟨⟨some 7, Op.assign (Operand.tmp 27), none⟩, []⟩]) (.seq (.reg [⟨⟨some 28, Op.load 37 (Operand.tmp 2), none⟩, []⟩,
  ⟨⟨some 29, Op.call { callee := (Callee.value (Operand.func 29)), args := #[(Operand.tmp 28)], argTypes := #[37] }, none⟩, []⟩,
  ⟨⟨some 8, Op.alloc 41, none⟩, []⟩,
  ⟨⟨none, Op.store 41 (Operand.tmp 8) (Operand.tmp 29), none⟩, []⟩]) (.seq (.reg [⟨⟨some 30, Op.move (Operand.tmp 1), none⟩, []⟩,
  ⟨⟨some 31, Op.call { callee := (Callee.value (Operand.func 17)), args := #[(Operand.tmp 30)], argTypes := #[22] }, none⟩, []⟩,
  ⟨⟨some 9, Op.assign (Operand.tmp 31), none⟩, []⟩]) (.seq (.reg [⟨⟨some 33, Op.load 41 (Operand.tmp 8), none⟩, []⟩,
  ⟨⟨some 34, Op.move (Operand.tmp 9), none⟩, []⟩,
  ⟨⟨some 35, Op.call { callee := (Callee.value (Operand.func 30)), args := #[(Operand.tmp 33), (Operand.tmp 34)], argTypes := #[41, 22] }, none⟩, []⟩,
  ⟨⟨some 32, Op.move (Operand.tmp 35), none⟩, []⟩,
  ⟨⟨some 36, Op.extract (Operand.tmp 32) 0, none⟩, []⟩,
  ⟨⟨some 37, Op.extract (Operand.tmp 32) 1, none⟩, []⟩,
  ⟨⟨some 10, Op.assign (Operand.tmp 36), none⟩, []⟩,
  ⟨⟨some 11, Op.assign (Operand.tmp 37), none⟩, []⟩]) (.seq (.seq (.reg [⟨⟨some 38, Op.move (Operand.tmp 10), none⟩, []⟩,
  ⟨⟨some 39, Op.move (Operand.tmp 6), none⟩, []⟩,
  ⟨⟨some 40, Op.binOp BinOp.neq 4 (Operand.tmp 38) (Operand.tmp 39) 4, none⟩, []⟩,
  ⟨⟨some 41, Op.move (Operand.tmp 40), none⟩, []⟩,
  ⟨⟨some 42, Op.move (Operand.tmp 11), some (41, false)⟩, []⟩,
  ⟨⟨some 43, Op.move (Operand.tmp 7), some (41, false)⟩, []⟩,
  ⟨⟨some 44, Op.binOp BinOp.neq 4 (Operand.tmp 42) (Operand.tmp 43) 4, some (41, false)⟩, []⟩,
  ⟨⟨some 45, Op.pick (Operand.tmp 41) (Operand.const (Value.bool true)) (Operand.tmp 44), none⟩, []⟩]) (.cond (Operand.tmp 45) (.seq (.reg [⟨⟨some 4, Op.assign (Operand.const (Value.bool false)), none⟩, []⟩]) .ret) .skip)) (.seq (.seq (.reg [⟨⟨some 46, Op.load 41 (Operand.tmp 8), none⟩, []⟩,
  ⟨⟨some 47, Op.load 37 (Operand.tmp 2), none⟩, []⟩,
  ⟨⟨some 48, Op.call { callee := (Callee.value (Operand.func 29)), args := #[(Operand.tmp 47)], argTypes := #[37] }, none⟩, [⟨some 46, Op.load 41 (Operand.tmp 8), none⟩]⟩,
  ⟨⟨some 49, Op.call { callee := (Callee.value (Operand.func 31)), args := #[(Operand.tmp 46), (Operand.tmp 48)], argTypes := #[41, 41] }, none⟩, []⟩,
  ⟨⟨some 50, Op.unOp UnOp.not 4 (Operand.tmp 49), none⟩, []⟩]) (.cond (Operand.tmp 50) (.seq (.reg [⟨⟨some 4, Op.assign (Operand.const (Value.bool false)), none⟩, []⟩]) .ret) .skip)) (.seq (.seq (.reg [⟨⟨some 51, Op.move (Operand.tmp 9), none⟩, []⟩,
  ⟨⟨some 52, Op.move (Operand.tmp 1), none⟩, []⟩,
  ⟨⟨some 53, Op.call { callee := (Callee.value (Operand.func 17)), args := #[(Operand.tmp 52)], argTypes := #[22] }, none⟩, []⟩,
  ⟨⟨some 54, Op.call { callee := (Callee.value (Operand.func 20)), args := #[(Operand.tmp 51), (Operand.tmp 53)], argTypes := #[22, 22] }, none⟩, []⟩,
  ⟨⟨some 55, Op.unOp UnOp.not 4 (Operand.tmp 54), none⟩, []⟩]) (.cond (Operand.tmp 55) (.seq (.reg [⟨⟨some 4, Op.assign (Operand.const (Value.bool false)), none⟩, []⟩]) .ret) .skip)) (.seq (.reg [⟨⟨some 4, Op.assign (Operand.const (Value.bool true)), none⟩, []⟩]) .ret)))))))))))))
theorem sl5 : slim Try.f5.ntmps ords5 (Try.f5.body.getD .skip) = some cd5 := by kernel_rfl
theorem in5 {args : List Value} {H : AH} {R : Value → AH → Prop} (hl : args.length = 2) (h : ∀ (Q : Exit → Sl → AH → Prop), (∀ e s H, endA Try.prog [ResultVar.tmp 4] R e s H → Q e s H) → wpC Try.prog cd5 Q (enterA args) H) : ACalls Try.prog 5 args H R :=
  ACalls.intro (by kernel_rfl) Try.func5 rfl (by kernel_rfl) sl5 hl (of_decide_eq_true (by kernel_rfl)) (by kernel_rfl) h
end Go.Proofs.Ytahakecifgjcnaa.Ai
