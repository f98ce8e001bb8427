/- Slim code of this translation. By the kernel. -/
import Derived.Test.YtnoihoeaconllaaProg
import Derived.Test.YtnoihoeaconllaaAiC
import Derived.KernelRfl
namespace Go.Proofs.Ytnoihoeaconllaa.Ai
open Go

/- loop.example/g01128/laws.FnExactFanBound -/
def ords3 : List (Nat × List (Nat × Bool)) := []
def cd3 : Cd := (.seq (.reg [⟨⟨some 6, Op.assign (Operand.const (Value.bool false)), none⟩, []⟩]) (.seq (.seq (.reg [⟨⟨some 13, Op.move (Operand.tmp 1), none⟩, []⟩,
  ⟨⟨some 14, Op.call { callee := (Callee.builtin Builtin.len), args := #[(Operand.tmp 13)], argTypes := #[22] }, none⟩, []⟩,
  ⟨⟨some 15, Op.binOp BinOp.gtr 3 (Operand.tmp 14) (Operand.const (Value.int IntKind.i64 1048576)) 3, none⟩, []⟩]) (.cond (Operand.tmp 15) (.seq (.reg [⟨⟨some 6, Op.assign (Operand.const (Value.bool true)), none⟩, []⟩]) .ret) .skip)) (.seq (.seq (.reg [⟨⟨some 16, Op.move (Operand.tmp 2), none⟩, []⟩,
  ⟨⟨some 17, Op.call { callee := (Callee.builtin Builtin.len), args := #[(Operand.tmp 16)], argTypes := #[22] }, none⟩, []⟩,
  ⟨⟨some 18, Op.binOp BinOp.gtr 3 (Operand.tmp 17) (Operand.const (Value.int IntKind.i64 1048576)) 3, none⟩, []⟩]) (.cond (Operand.tmp 18) (.seq (.reg [⟨⟨some 6, Op.assign (Operand.const (Value.bool true)), none⟩, []⟩]) .ret) .skip)) (.seq (.reg [⟨⟨some 20, Op.move (Operand.tmp 0), none⟩, []⟩,
  ⟨⟨some 21, Op.move (Operand.tmp 1), none⟩, []⟩,
  ⟨⟨some 22, Op.call { callee := (Callee.value (Operand.func 16)), args := #[(Operand.tmp 21)], argTypes := #[22] }, none⟩, []⟩,
  ⟨⟨some 23, Op.move (Operand.tmp 2), none⟩, []⟩,
  ⟨⟨some 24, Op.call { callee := (Callee.value (Operand.func 16)), args := #[(Operand.tmp 23)], argTypes := #[22] }, none⟩, []⟩,
  ⟨⟨some 25, Op.call { callee := (Callee.value (Operand.func 15)), args := #[(Operand.tmp 20), (Operand.tmp 22), (Operand.tmp 24)], argTypes := #[3, 22, 22] }, none⟩, []⟩,
  ⟨⟨some 19, Op.move (Operand.tmp 25), none⟩, []⟩,
  ⟨⟨some 26, Op.extract (Operand.tmp 19) 0, none⟩, []⟩,
  ⟨⟨some 27, Op.extract (Operand.tmp 19) 1, none⟩, []⟩,
  ⟨⟨some 7, Op.assign (Operand.tmp 26), none⟩, []⟩,
  ⟨⟨some 8, Op.assign (Operand.tmp 27), none⟩, []⟩]) (.seq (.reg [⟨⟨some 28, Op.move (Operand.tmp 1), none⟩, []⟩,
  ⟨⟨some 29, Op.call { callee := (Callee.value (Operand.func 16)), args := #[(Operand.tmp 28)], argTypes := #[22] }, none⟩, []⟩,
  ⟨⟨some 9, Op.assign (Operand.tmp 29), none⟩, []⟩]) (.seq (.reg [⟨⟨some 30, Op.move (Operand.tmp 2), none⟩, []⟩,
  ⟨⟨some 31, Op.call { callee := (Callee.value (Operand.func 16)), args := #[(Operand.tmp 30)], argTypes := #[22] }, none⟩, []⟩,
  ⟨⟨some 10, Op.assign (Operand.tmp 31), none⟩, []⟩]) (.seq (.reg [⟨⟨some 33, Op.move (Operand.tmp 0), none⟩, []⟩,
  ⟨⟨some 34, Op.move (Operand.tmp 9), none⟩, []⟩,
  ⟨⟨some 35, Op.move (Operand.tmp 10), none⟩, []⟩,
  ⟨⟨some 36, Op.call { callee := (Callee.value (Operand.func 17)), args := #[(Operand.tmp 33), (Operand.tmp 34), (Operand.tmp 35)], argTypes := #[3, 22, 22] }, none⟩, []⟩,
  ⟨⟨some 32, Op.move (Operand.tmp 36), none⟩, []⟩,
  ⟨⟨some 37, Op.extract (Operand.tmp 32) 0, none⟩, []⟩,
  ⟨⟨some 38, Op.extract (Operand.tmp 32) 1, none⟩, []⟩,
  ⟨⟨some 11, Op.assign (Operand.tmp 37), none⟩, []⟩,
  ⟨⟨some 12, Op.assign (Operand.tmp 38), none⟩, []⟩]) (.seq (.seq (.reg [⟨⟨some 39, Op.move (Operand.tmp 11), none⟩, []⟩,
  ⟨⟨some 40, Op.move (Operand.tmp 7), none⟩, []⟩,
  ⟨⟨some 41, Op.binOp BinOp.neq 3 (Operand.tmp 39) (Operand.tmp 40) 3, none⟩, []⟩,
  ⟨⟨some 42, Op.move (Operand.tmp 41), none⟩, []⟩,
  ⟨⟨some 43, Op.move (Operand.tmp 12), some (42, false)⟩, []⟩,
  ⟨⟨some 44, Op.move (Operand.tmp 8), some (42, false)⟩, []⟩,
  ⟨⟨some 45, Op.binOp BinOp.neq 4 (Operand.tmp 43) (Operand.tmp 44) 4, some (42, false)⟩, []⟩,
  ⟨⟨some 46, Op.pick (Operand.tmp 42) (Operand.const (Value.bool true)) (Operand.tmp 45), none⟩, []⟩]) (.cond (Operand.tmp 46) (.seq (.reg [⟨⟨some 6, Op.assign (Operand.const (Value.bool false)), none⟩, []⟩]) .ret) .skip)) (.seq (.seq (.reg [⟨⟨some 47, Op.move (Operand.tmp 9), none⟩, []⟩,
  ⟨⟨some 48, Op.move (Operand.tmp 1), none⟩, []⟩,
  ⟨⟨some 49, Op.call { callee := (Callee.value (Operand.func 16)), args := #[(Operand.tmp 48)], argTypes := #[22] }, none⟩, []⟩,
  ⟨⟨some 50, Op.call { callee := (Callee.value (Operand.func 18)), args := #[(Operand.tmp 47), (Operand.tmp 49)], argTypes := #[22, 22] }, none⟩, []⟩,
  ⟨⟨some 51, Op.unOp UnOp.not 4 (Operand.tmp 50), none⟩, []⟩]) (.cond (Operand.tmp 51) (.seq (.reg [⟨⟨some 6, Op.assign (Operand.const (Value.bool false)), none⟩, []⟩]) .ret) .skip)) (.seq (.seq (.reg [⟨⟨some 52, Op.move (Operand.tmp 10), none⟩, []⟩,
  ⟨⟨some 53, Op.move (Operand.tmp 2), none⟩, []⟩,
  ⟨⟨some 54, Op.call { callee := (Callee.value (Operand.func 16)), args := #[(Operand.tmp 53)], argTypes := #[22] }, none⟩, []⟩,
  ⟨⟨some 55, Op.call { callee := (Callee.value (Operand.func 18)), args := #[(Operand.tmp 52), (Operand.tmp 54)], argTypes := #[22, 22] }, none⟩, []⟩,
  ⟨⟨some 56, Op.unOp UnOp.not 4 (Operand.tmp 55), none⟩, []⟩]) (.cond (Operand.tmp 56) (.seq (.reg [⟨⟨some 6, Op.assign (Operand.const (Value.bool false)), none⟩, []⟩]) .ret) .skip)) (.seq (.reg [⟨⟨some 6, Op.assign (Operand.const (Value.bool true)), none⟩, []⟩]) .ret)))))))))))
theorem sl3 : slim Try.f3.ntmps ords3 (Try.f3.body.getD .skip) = some cd3 := by kernel_rfl
theorem in3 {args : List Value} {H : AH} {R : Value → AH → Prop} (hl : args.length = 3) (h : ∀ (Q : Exit → Sl → AH → Prop), (∀ e s H, endA Try.prog [ResultVar.tmp 6] R e s H → Q e s H) → wpC Try.prog cd3 Q (enterA args) H) : ACalls Try.prog 3 args H R :=
  ACalls.intro (by kernel_rfl) Try.func3 rfl (by kernel_rfl) sl3 hl (of_decide_eq_true (by kernel_rfl)) (by kernel_rfl) h
end Go.Proofs.Ytnoihoeaconllaa.Ai
