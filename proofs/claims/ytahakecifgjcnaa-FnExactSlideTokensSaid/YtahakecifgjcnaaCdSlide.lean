/- Slim code of this translation. By the kernel. -/
import Derived.Test.YtahakecifgjcnaaProg
import Derived.Test.YtahakecifgjcnaaAiM2
import Derived.KernelRfl
namespace Go.Proofs.Ytahakecifgjcnaa.Ai
open Go

/- loop.example/g01128/spec.SlideTokens -/
def ords49 : List (Nat × List (Nat × Bool)) := [(8, [(0, false), (1, false), (2, false), (3, false), (4, false), (5, false), (6, true), (7, false)])]
def cd49 : Cd := (.seq (.reg [⟨⟨some 3, Op.box 41 (Operand.tmp 0), none⟩, []⟩,
  ⟨⟨some 6, Op.assign (Operand.const (Value.slice none 0 0)), none⟩, []⟩,
  ⟨⟨some 7, Op.assign (Operand.const (Value.bool false)), none⟩, []⟩]) (.seq (.seq (.reg [⟨⟨some 11, Op.load 41 (Operand.tmp 3), none⟩, []⟩,
  ⟨⟨some 12, Op.move (Operand.tmp 1), none⟩, []⟩,
  ⟨⟨some 13, Op.call { callee := (Callee.value (Operand.func 98)), args := #[(Operand.tmp 11), (Operand.tmp 12)], argTypes := #[41, 22] }, none⟩, []⟩,
  ⟨⟨some 14, Op.unOp UnOp.not 4 (Operand.tmp 13), none⟩, []⟩]) (.cond (Operand.tmp 14) (.seq (.reg [⟨⟨some 15, Op.buildSlice 22 0 #[], none⟩, []⟩,
  ⟨⟨some 6, Op.assign (Operand.tmp 15), none⟩, []⟩,
  ⟨⟨some 7, Op.assign (Operand.const (Value.bool false)), none⟩, []⟩]) .ret) .skip)) (.seq (.reg [⟨⟨some 16, Op.move (Operand.tmp 1), none⟩, []⟩,
  ⟨⟨some 17, Op.call { callee := (Callee.value (Operand.func 58)), args := #[(Operand.tmp 16)], argTypes := #[22] }, none⟩, []⟩,
  ⟨⟨some 8, Op.assign (Operand.tmp 17), none⟩, []⟩]) (.seq (.seq (.reg [⟨⟨some 9, Op.assign (Operand.const (Value.int IntKind.i64 0)), none⟩, []⟩]) (.block 0 (.loop (.seq (.seq (.reg [⟨⟨some 18, Op.move (Operand.tmp 9), none⟩, []⟩,
  ⟨⟨some 19, Op.move (Operand.tmp 2), none⟩, []⟩,
  ⟨⟨some 20, Op.call { callee := (Callee.builtin Builtin.len), args := #[(Operand.tmp 19)], argTypes := #[22] }, none⟩, []⟩,
  ⟨⟨some 21, Op.binOp BinOp.lss 3 (Operand.tmp 18) (Operand.tmp 20) 3, none⟩, []⟩]) (.cond (Operand.tmp 21) .skip (.exit 0))) (.seq (.block 1 (.seq (.reg [⟨⟨some 24, Op.move (Operand.tmp 8), none⟩, []⟩,
  ⟨⟨some 25, Op.call { callee := (Callee.value (Operand.func 99)), args := #[(Operand.tmp 24), (Operand.const (Value.int IntKind.i64 0))], argTypes := #[22, 3] }, none⟩, []⟩,
  ⟨⟨some 10, Op.assign (Operand.tmp 25), none⟩, []⟩]) (.seq (.seq (.reg [⟨⟨some 26, Op.load 41 (Operand.tmp 3), none⟩, []⟩,
  ⟨⟨some 27, Op.move (Operand.tmp 10), none⟩, []⟩,
  ⟨⟨some 28, Op.move (Operand.tmp 2), none⟩, []⟩,
  ⟨⟨some 29, Op.move (Operand.tmp 9), none⟩, []⟩,
  ⟨⟨some 30, Op.indexAddr 22 (Operand.tmp 28) (Operand.tmp 29), none⟩, []⟩,
  ⟨⟨some 31, Op.load 3 (Operand.tmp 30), none⟩, []⟩,
  ⟨⟨some 32, Op.call { callee := (Callee.value (Operand.func 100)), args := #[(Operand.tmp 26), (Operand.tmp 27), (Operand.tmp 31)], argTypes := #[41, 3, 3] }, none⟩, []⟩,
  ⟨⟨some 33, Op.unOp UnOp.not 4 (Operand.tmp 32), none⟩, []⟩]) (.cond (Operand.tmp 33) (.seq (.reg [⟨⟨some 34, Op.buildSlice 22 0 #[], none⟩, []⟩,
  ⟨⟨some 6, Op.assign (Operand.tmp 34), none⟩, []⟩,
  ⟨⟨some 7, Op.assign (Operand.const (Value.bool false)), none⟩, []⟩]) .ret) .skip)) (.reg [⟨⟨some 35, Op.move (Operand.tmp 8), none⟩, []⟩,
  ⟨⟨some 36, Op.move (Operand.tmp 10), none⟩, []⟩,
  ⟨⟨some 37, Op.move (Operand.tmp 2), none⟩, []⟩,
  ⟨⟨some 38, Op.move (Operand.tmp 9), none⟩, []⟩,
  ⟨⟨some 39, Op.indexAddr 22 (Operand.tmp 37) (Operand.tmp 38), none⟩, []⟩,
  ⟨⟨some 40, Op.load 3 (Operand.tmp 39), none⟩, []⟩,
  ⟨⟨some 41, Op.call { callee := (Callee.value (Operand.func 59)), args := #[(Operand.tmp 35), (Operand.tmp 36), (Operand.tmp 40)], argTypes := #[22, 3, 3] }, none⟩, []⟩,
  ⟨⟨some 8, Op.assign (Operand.tmp 41), none⟩, []⟩])))) (.reg [⟨⟨some 22, Op.move (Operand.tmp 9), none⟩, []⟩,
  ⟨⟨some 23, Op.binOp BinOp.add 3 (Operand.tmp 22) (Operand.const (Value.int IntKind.i64 1)) 3, none⟩, []⟩,
  ⟨⟨some 9, Op.assign (Operand.tmp 23), none⟩, []⟩])))))) (.seq (.reg [⟨⟨some 42, Op.move (Operand.tmp 8), none⟩, []⟩,
  ⟨⟨some 6, Op.assign (Operand.tmp 42), none⟩, []⟩,
  ⟨⟨some 7, Op.assign (Operand.const (Value.bool true)), none⟩, []⟩]) .ret)))))
theorem sl49 : slim Try.f49.ntmps ords49 (Try.f49.body.getD .skip) = some cd49 := by kernel_rfl
theorem in49 {args : List Value} {H : AH} {R : Value → AH → Prop} (hl : args.length = 3) (h : ∀ (Q : Exit → Sl → AH → Prop), (∀ e s H, endA Try.prog [ResultVar.tmp 6, ResultVar.tmp 7] R e s H → Q e s H) → wpC Try.prog cd49 Q (enterA args) H) : ACalls Try.prog 49 args H R :=
  ACalls.intro (by kernel_rfl) Try.func49 rfl (by kernel_rfl) sl49 hl (of_decide_eq_true (by kernel_rfl)) (by kernel_rfl) h

/- loop.example/g01128/impl.SlideTokens -/
def ords50 : List (Nat × List (Nat × Bool)) := []
def cd50 : Cd := (.seq (.reg [⟨⟨some 3, Op.box 41 (Operand.tmp 0), none⟩, []⟩,
  ⟨⟨some 6, Op.assign (Operand.const (Value.slice none 0 0)), none⟩, []⟩,
  ⟨⟨some 7, Op.assign (Operand.const (Value.bool false)), none⟩, []⟩]) (.seq (.seq (.reg [⟨⟨some 14, Op.load 41 (Operand.tmp 3), none⟩, []⟩,
  ⟨⟨some 15, Op.move (Operand.tmp 1), none⟩, []⟩,
  ⟨⟨some 16, Op.call { callee := (Callee.value (Operand.func 101)), args := #[(Operand.tmp 14), (Operand.tmp 15)], argTypes := #[41, 22] }, none⟩, []⟩,
  ⟨⟨some 17, Op.unOp UnOp.not 4 (Operand.tmp 16), none⟩, []⟩]) (.cond (Operand.tmp 17) (.seq (.reg [⟨⟨some 6, Op.assign (Operand.const (Value.slice none 0 0)), none⟩, []⟩,
  ⟨⟨some 7, Op.assign (Operand.const (Value.bool false)), none⟩, []⟩]) .ret) .skip)) (.seq (.reg [⟨⟨some 18, Op.move (Operand.tmp 1), none⟩, []⟩,
  ⟨⟨some 19, Op.call { callee := (Callee.value (Operand.func 62)), args := #[(Operand.tmp 18)], argTypes := #[22] }, none⟩, []⟩,
  ⟨⟨some 8, Op.assign (Operand.tmp 19), none⟩, []⟩]) (.seq (.seq (.reg [⟨⟨some 20, Op.move (Operand.tmp 2), none⟩, []⟩,
  ⟨⟨some 21, Op.call { callee := (Callee.builtin Builtin.len), args := #[(Operand.tmp 20)], argTypes := #[22] }, none⟩, []⟩,
  ⟨⟨some 22, Op.move (Operand.const (Value.int IntKind.i64 0)), none⟩, []⟩]) (.block 0 (.loop (.seq (.reg [⟨⟨some 23, Op.binOp BinOp.lss 3 (Operand.tmp 22) (Operand.tmp 21) 3, none⟩, []⟩]) (.seq (.cond (Operand.tmp 23) .skip (.exit 0)) (.seq (.block 1 (.seq (.reg [⟨⟨some 24, Op.indexAddr 22 (Operand.tmp 20) (Operand.tmp 22), none⟩, []⟩,
  ⟨⟨some 25, Op.load 3 (Operand.tmp 24), none⟩, []⟩,
  ⟨⟨some 10, Op.assign (Operand.tmp 25), none⟩, []⟩]) (.seq (.reg [⟨⟨some 27, Op.load 41 (Operand.tmp 3), none⟩, []⟩,
  ⟨⟨some 28, Op.move (Operand.tmp 8), none⟩, []⟩,
  ⟨⟨some 29, Op.call { callee := (Callee.value (Operand.func 102)), args := #[(Operand.tmp 27), (Operand.tmp 28)], argTypes := #[41, 22] }, none⟩, []⟩,
  ⟨⟨some 26, Op.move (Operand.tmp 29), none⟩, []⟩,
  ⟨⟨some 30, Op.extract (Operand.tmp 26) 0, none⟩, []⟩,
  ⟨⟨some 31, Op.extract (Operand.tmp 26) 1, none⟩, []⟩,
  ⟨⟨some 11, Op.assign (Operand.tmp 30), none⟩, []⟩,
  ⟨⟨some 12, Op.assign (Operand.tmp 31), none⟩, []⟩]) (.seq (.reg [⟨⟨some 32, Op.move (Operand.tmp 12), none⟩, []⟩,
  ⟨⟨some 33, Op.move (Operand.tmp 10), none⟩, []⟩,
  ⟨⟨some 34, Op.call { callee := (Callee.value (Operand.func 103)), args := #[(Operand.tmp 32), (Operand.tmp 33)], argTypes := #[22, 3] }, none⟩, []⟩,
  ⟨⟨some 13, Op.assign (Operand.tmp 34), none⟩, []⟩]) (.seq (.seq (.reg [⟨⟨some 35, Op.move (Operand.tmp 13), none⟩, []⟩,
  ⟨⟨some 36, Op.binOp BinOp.lss 3 (Operand.tmp 35) (Operand.const (Value.int IntKind.i64 0)) 3, none⟩, []⟩]) (.cond (Operand.tmp 36) (.seq (.reg [⟨⟨some 6, Op.assign (Operand.const (Value.slice none 0 0)), none⟩, []⟩,
  ⟨⟨some 7, Op.assign (Operand.const (Value.bool false)), none⟩, []⟩]) .ret) .skip)) (.reg [⟨⟨some 37, Op.move (Operand.tmp 11), none⟩, []⟩,
  ⟨⟨some 38, Op.move (Operand.tmp 13), none⟩, []⟩,
  ⟨⟨some 39, Op.indexAddr 47 (Operand.tmp 37) (Operand.tmp 38), none⟩, []⟩,
  ⟨⟨some 40, Op.load 22 (Operand.tmp 39), none⟩, []⟩,
  ⟨⟨some 8, Op.assign (Operand.tmp 40), none⟩, []⟩])))))) (.reg [⟨⟨some 41, Op.binOp BinOp.add 3 (Operand.tmp 22) (Operand.const (Value.int IntKind.i64 1)) 3, none⟩, []⟩,
  ⟨⟨some 22, Op.move (Operand.tmp 41), none⟩, []⟩]))))))) (.seq (.reg [⟨⟨some 42, Op.move (Operand.tmp 8), none⟩, []⟩,
  ⟨⟨some 6, Op.assign (Operand.tmp 42), none⟩, []⟩,
  ⟨⟨some 7, Op.assign (Operand.const (Value.bool true)), none⟩, []⟩]) .ret)))))
theorem sl50 : slim Try.f50.ntmps ords50 (Try.f50.body.getD .skip) = some cd50 := by kernel_rfl
theorem in50 {args : List Value} {H : AH} {R : Value → AH → Prop} (hl : args.length = 3) (h : ∀ (Q : Exit → Sl → AH → Prop), (∀ e s H, endA Try.prog [ResultVar.tmp 6, ResultVar.tmp 7] R e s H → Q e s H) → wpC Try.prog cd50 Q (enterA args) H) : ACalls Try.prog 50 args H R :=
  ACalls.intro (by kernel_rfl) Try.func50 rfl (by kernel_rfl) sl50 hl (of_decide_eq_true (by kernel_rfl)) (by kernel_rfl) h
end Go.Proofs.Ytahakecifgjcnaa.Ai
