/- Slim code of this translation. By the kernel. -/
import Derived.Test.YtedlnjcfacadgaaProg
import Derived.Test.YtedlnjcfacadgaaAiC
import Derived.KernelRfl
namespace Go.Proofs.Ytedlnjcfacadgaa.Ai
open Go

/- loop.example/g01128/laws.FnExactWalkWinding -/
def ords5 : List (Nat × List (Nat × Bool)) := []
def cd5 : Cd := (.seq (.reg [⟨⟨some 4, Op.assign (Operand.const (Value.bool false)), none⟩, []⟩]) (.seq (.seq (.reg [⟨⟨some 10, Op.move (Operand.tmp 1), none⟩, []⟩,
  ⟨⟨some 11, Op.call { callee := (Callee.builtin Builtin.len), args := #[(Operand.tmp 10)], argTypes := #[25] }, none⟩, []⟩,
  ⟨⟨some 12, Op.binOp BinOp.gtr 3 (Operand.tmp 11) (Operand.const (Value.int IntKind.i64 1048576)) 3, none⟩, []⟩]) (.cond (Operand.tmp 12) (.seq (.reg [⟨⟨some 4, Op.assign (Operand.const (Value.bool true)), none⟩, []⟩]) .ret) .skip)) (.seq (.reg [⟨⟨some 14, Op.move (Operand.tmp 0), none⟩, []⟩,
  ⟨⟨some 15, Op.move (Operand.tmp 1), none⟩, []⟩,
  ⟨⟨some 16, Op.call { callee := (Callee.value (Operand.func 17)), args := #[(Operand.tmp 15)], argTypes := #[25] }, none⟩, []⟩,
  ⟨⟨some 17, Op.call { callee := (Callee.value (Operand.func 20)), args := #[(Operand.tmp 14), (Operand.tmp 16)], argTypes := #[3, 25] }, none⟩, []⟩,
  ⟨⟨some 13, Op.move (Operand.tmp 17), none⟩, []⟩,
  ⟨⟨some 18, Op.extract (Operand.tmp 13) 0, none⟩, []⟩,
  ⟨⟨some 19, Op.extract (Operand.tmp 13) 1, none⟩, []⟩,
  ⟨⟨some 5, Op.assign (Operand.tmp 18), none⟩, []⟩,
  ⟨⟨some 6, Op.assign (Operand.tmp 19), none⟩, []⟩]) (.seq (.reg [⟨⟨some 20, Op.move (Operand.tmp 1), none⟩, []⟩,
  ⟨⟨some 21, Op.call { callee := (Callee.value (Operand.func 17)), args := #[(Operand.tmp 20)], argTypes := #[25] }, none⟩, []⟩,
  ⟨⟨some 7, Op.assign (Operand.tmp 21), none⟩, []⟩]) (.seq (.reg [⟨⟨some 23, Op.move (Operand.tmp 0), none⟩, []⟩,
  ⟨⟨some 24, Op.move (Operand.tmp 7), none⟩, []⟩,
  ⟨⟨some 25, Op.call { callee := (Callee.value (Operand.func 21)), args := #[(Operand.tmp 23), (Operand.tmp 24)], argTypes := #[3, 25] }, none⟩, []⟩,
  ⟨⟨some 22, Op.move (Operand.tmp 25), none⟩, []⟩,
  ⟨⟨some 26, Op.extract (Operand.tmp 22) 0, none⟩, []⟩,
  ⟨⟨some 27, Op.extract (Operand.tmp 22) 1, none⟩, []⟩,
  ⟨⟨some 8, Op.assign (Operand.tmp 26), none⟩, []⟩,
  ⟨⟨some 9, Op.assign (Operand.tmp 27), none⟩, []⟩]) (.seq (.seq (.reg [⟨⟨some 28, Op.move (Operand.tmp 8), none⟩, []⟩,
  ⟨⟨some 29, Op.move (Operand.tmp 5), none⟩, []⟩,
  ⟨⟨some 30, Op.binOp BinOp.neq 3 (Operand.tmp 28) (Operand.tmp 29) 3, none⟩, []⟩,
  ⟨⟨some 31, Op.move (Operand.tmp 30), none⟩, []⟩,
  ⟨⟨some 32, Op.move (Operand.tmp 9), some (31, false)⟩, []⟩,
  ⟨⟨some 33, Op.move (Operand.tmp 6), some (31, false)⟩, []⟩,
  ⟨⟨some 34, Op.binOp BinOp.neq 4 (Operand.tmp 32) (Operand.tmp 33) 4, some (31, false)⟩, []⟩,
  ⟨⟨some 35, Op.pick (Operand.tmp 31) (Operand.const (Value.bool true)) (Operand.tmp 34), none⟩, []⟩]) (.cond (Operand.tmp 35) (.seq (.reg [⟨⟨some 4, Op.assign (Operand.const (Value.bool false)), none⟩, []⟩]) .ret) .skip)) (.seq (.seq (.reg [⟨⟨some 36, Op.move (Operand.tmp 7), none⟩, []⟩,
  ⟨⟨some 37, Op.move (Operand.tmp 1), none⟩, []⟩,
  ⟨⟨some 38, Op.call { callee := (Callee.value (Operand.func 17)), args := #[(Operand.tmp 37)], argTypes := #[25] }, none⟩, []⟩,
  ⟨⟨some 39, Op.call { callee := (Callee.value (Operand.func 19)), args := #[(Operand.tmp 36), (Operand.tmp 38)], argTypes := #[25, 25] }, none⟩, []⟩,
  ⟨⟨some 40, Op.unOp UnOp.not 4 (Operand.tmp 39), none⟩, []⟩]) (.cond (Operand.tmp 40) (.seq (.reg [⟨⟨some 4, Op.assign (Operand.const (Value.bool false)), none⟩, []⟩]) .ret) .skip)) (.seq (.reg [⟨⟨some 4, Op.assign (Operand.const (Value.bool true)), none⟩, []⟩]) .ret))))))))
theorem sl5 : slim Try.f5.ntmps ords5 (Try.f5.body.getD .skip) = some cd5 := by kernel_rfl
theorem in5 {args : List Value} {H : AH} {R : Value → AH → Prop} (hl : args.length = 2) (h : ∀ (Q : Exit → Sl → AH → Prop), (∀ e s H, endA Try.prog [ResultVar.tmp 4] R e s H → Q e s H) → wpC Try.prog cd5 Q (enterA args) H) : ACalls Try.prog 5 args H R :=
  ACalls.intro (by kernel_rfl) Try.func5 rfl (by kernel_rfl) sl5 hl (of_decide_eq_true (by kernel_rfl)) (by kernel_rfl) h
end Go.Proofs.Ytedlnjcfacadgaa.Ai
