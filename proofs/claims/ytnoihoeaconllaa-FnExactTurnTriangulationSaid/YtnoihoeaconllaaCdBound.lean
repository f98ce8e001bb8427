/- Slim code of this translation. By the kernel. -/
import Derived.Test.YtnoihoeaconllaaProg
import Derived.Test.YtnoihoeaconllaaAiC
import Derived.KernelRfl
namespace Go.Proofs.Ytnoihoeaconllaa.Ai
open Go

/- loop.example/g01128/spec.l1Least -/
def ords55 : List (Nat × List (Nat × Bool)) := []
def cd55 : Cd := (.seq (.reg [⟨⟨some 4, Op.assign (Operand.const (Value.int IntKind.i64 0)), none⟩, []⟩]) (.seq (.seq (.reg [⟨⟨some 5, Op.move (Operand.tmp 0), none⟩, []⟩,
  ⟨⟨some 6, Op.move (Operand.tmp 1), none⟩, []⟩,
  ⟨⟨some 7, Op.binOp BinOp.lss 3 (Operand.tmp 5) (Operand.tmp 6) 3, none⟩, []⟩]) (.cond (Operand.tmp 7) (.seq (.reg [⟨⟨some 8, Op.move (Operand.tmp 0), none⟩, []⟩,
  ⟨⟨some 4, Op.assign (Operand.tmp 8), none⟩, []⟩]) .ret) .skip)) (.seq (.reg [⟨⟨some 9, Op.move (Operand.tmp 1), none⟩, []⟩,
  ⟨⟨some 4, Op.assign (Operand.tmp 9), none⟩, []⟩]) .ret)))
theorem sl55 : slim Try.f55.ntmps ords55 (Try.f55.body.getD .skip) = some cd55 := by kernel_rfl
theorem in55 {args : List Value} {H : AH} {R : Value → AH → Prop} (hl : args.length = 2) (h : ∀ (Q : Exit → Sl → AH → Prop), (∀ e s H, endA Try.prog [ResultVar.tmp 4] R e s H → Q e s H) → wpC Try.prog cd55 Q (enterA args) H) : ACalls Try.prog 55 args H R :=
  ACalls.intro (by kernel_rfl) Try.func55 rfl (by kernel_rfl) sl55 hl (of_decide_eq_true (by kernel_rfl)) (by kernel_rfl) h

/- loop.example/g01128/spec.FanBound -/
def ords15 : List (Nat × List (Nat × Bool)) := []
def cd15 : Cd := (.seq (.reg [⟨⟨some 6, Op.assign (Operand.const (Value.int IntKind.i64 0)), none⟩, []⟩,
  ⟨⟨some 7, Op.assign (Operand.const (Value.bool false)), none⟩, []⟩]) (.seq (.seq (.reg [⟨⟨some 10, Op.move (Operand.tmp 0), none⟩, []⟩,
  ⟨⟨some 11, Op.move (Operand.tmp 1), none⟩, []⟩,
  ⟨⟨some 12, Op.call { callee := (Callee.value (Operand.func 54)), args := #[(Operand.tmp 10), (Operand.tmp 11)], argTypes := #[3, 22] }, none⟩, []⟩,
  ⟨⟨some 13, Op.unOp UnOp.not 4 (Operand.tmp 12), none⟩, []⟩,
  ⟨⟨some 14, Op.move (Operand.tmp 13), none⟩, []⟩,
  ⟨⟨some 15, Op.move (Operand.tmp 0), some (14, false)⟩, []⟩,
  ⟨⟨some 16, Op.move (Operand.tmp 2), some (14, false)⟩, []⟩,
  ⟨⟨some 17, Op.call { callee := (Callee.value (Operand.func 54)), args := #[(Operand.tmp 15), (Operand.tmp 16)], argTypes := #[3, 22] }, some (14, false)⟩, []⟩,
  ⟨⟨some 18, Op.unOp UnOp.not 4 (Operand.tmp 17), some (14, false)⟩, []⟩,
  ⟨⟨some 19, Op.pick (Operand.tmp 14) (Operand.const (Value.bool true)) (Operand.tmp 18), none⟩, []⟩]) (.cond (Operand.tmp 19) (.seq (.reg [⟨⟨some 6, Op.assign (Operand.const (Value.int IntKind.i64 0)), none⟩, []⟩,
  ⟨⟨some 7, Op.assign (Operand.const (Value.bool false)), none⟩, []⟩]) .ret) .skip)) (.seq (.reg [⟨⟨some 20, Op.move (Operand.tmp 0), none⟩, []⟩,
  ⟨⟨some 21, Op.binOp BinOp.mul 3 (Operand.const (Value.int IntKind.i64 2)) (Operand.tmp 20) 3, none⟩, []⟩,
  ⟨⟨some 8, Op.assign (Operand.tmp 21), none⟩, []⟩]) (.seq (.seq (.reg [⟨⟨some 9, Op.assign (Operand.const (Value.int IntKind.i64 0)), none⟩, []⟩]) (.block 0 (.loop (.seq (.seq (.reg [⟨⟨some 22, Op.move (Operand.tmp 9), none⟩, []⟩,
  ⟨⟨some 23, Op.move (Operand.tmp 0), none⟩, []⟩,
  ⟨⟨some 24, Op.binOp BinOp.lss 3 (Operand.tmp 22) (Operand.tmp 23) 3, none⟩, []⟩]) (.cond (Operand.tmp 24) .skip (.exit 0))) (.seq (.block 1 (.reg [⟨⟨some 27, Op.move (Operand.tmp 8), none⟩, []⟩,
  ⟨⟨some 28, Op.move (Operand.tmp 0), none⟩, []⟩,
  ⟨⟨some 29, Op.binOp BinOp.sub 3 (Operand.tmp 28) (Operand.const (Value.int IntKind.i64 3)) 3, none⟩, []⟩,
  ⟨⟨some 30, Op.binOp BinOp.mul 3 (Operand.const (Value.int IntKind.i64 2)) (Operand.tmp 29) 3, none⟩, []⟩,
  ⟨⟨some 31, Op.move (Operand.tmp 1), none⟩, []⟩,
  ⟨⟨some 32, Op.move (Operand.tmp 9), none⟩, []⟩,
  ⟨⟨some 33, Op.call { callee := (Callee.value (Operand.func 56)), args := #[(Operand.tmp 31), (Operand.tmp 32)], argTypes := #[22, 3] }, none⟩, []⟩,
  ⟨⟨some 34, Op.binOp BinOp.sub 3 (Operand.tmp 30) (Operand.tmp 33) 3, none⟩, []⟩,
  ⟨⟨some 35, Op.move (Operand.tmp 2), none⟩, []⟩,
  ⟨⟨some 36, Op.move (Operand.tmp 9), none⟩, []⟩,
  ⟨⟨some 37, Op.call { callee := (Callee.value (Operand.func 56)), args := #[(Operand.tmp 35), (Operand.tmp 36)], argTypes := #[22, 3] }, none⟩, []⟩,
  ⟨⟨some 38, Op.binOp BinOp.sub 3 (Operand.tmp 34) (Operand.tmp 37) 3, none⟩, []⟩,
  ⟨⟨some 39, Op.call { callee := (Callee.value (Operand.func 55)), args := #[(Operand.tmp 27), (Operand.tmp 38)], argTypes := #[3, 3] }, none⟩, []⟩,
  ⟨⟨some 8, Op.assign (Operand.tmp 39), none⟩, []⟩])) (.reg [⟨⟨some 25, Op.move (Operand.tmp 9), none⟩, []⟩,
  ⟨⟨some 26, Op.binOp BinOp.add 3 (Operand.tmp 25) (Operand.const (Value.int IntKind.i64 1)) 3, none⟩, []⟩,
  ⟨⟨some 9, Op.assign (Operand.tmp 26), none⟩, []⟩])))))) (.seq (.reg [⟨⟨some 40, Op.move (Operand.tmp 8), none⟩, []⟩,
  ⟨⟨some 6, Op.assign (Operand.tmp 40), none⟩, []⟩,
  ⟨⟨some 7, Op.assign (Operand.const (Value.bool true)), none⟩, []⟩]) .ret)))))
theorem sl15 : slim Try.f15.ntmps ords15 (Try.f15.body.getD .skip) = some cd15 := by kernel_rfl
theorem in15 {args : List Value} {H : AH} {R : Value → AH → Prop} (hl : args.length = 3) (h : ∀ (Q : Exit → Sl → AH → Prop), (∀ e s H, endA Try.prog [ResultVar.tmp 6, ResultVar.tmp 7] R e s H → Q e s H) → wpC Try.prog cd15 Q (enterA args) H) : ACalls Try.prog 15 args H R :=
  ACalls.intro (by kernel_rfl) Try.func15 rfl (by kernel_rfl) sl15 hl (of_decide_eq_true (by kernel_rfl)) (by kernel_rfl) h

/- loop.example/g01128/impl.FanBound -/
def ords17 : List (Nat × List (Nat × Bool)) := []
def cd17 : Cd := (.seq (.reg [⟨⟨some 6, Op.assign (Operand.const (Value.int IntKind.i64 0)), none⟩, []⟩,
  ⟨⟨some 7, Op.assign (Operand.const (Value.bool false)), none⟩, []⟩]) (.seq (.seq (.reg [⟨⟨some 10, Op.move (Operand.tmp 0), none⟩, []⟩,
  ⟨⟨some 11, Op.move (Operand.tmp 1), none⟩, []⟩,
  ⟨⟨some 12, Op.move (Operand.tmp 2), none⟩, []⟩,
  ⟨⟨some 13, Op.buildSlice 35 2 #[(0, (Operand.tmp 11)), (1, (Operand.tmp 12))], none⟩, []⟩,
  ⟨⟨some 14, Op.call { callee := (Callee.value (Operand.func 57)), args := #[(Operand.tmp 10), (Operand.tmp 13)], argTypes := #[3, 35] }, none⟩, []⟩,
  ⟨⟨some 15, Op.unOp UnOp.not 4 (Operand.tmp 14), none⟩, []⟩]) (.cond (Operand.tmp 15) (.seq (.reg [⟨⟨some 6, Op.assign (Operand.const (Value.int IntKind.i64 0)), none⟩, []⟩,
  ⟨⟨some 7, Op.assign (Operand.const (Value.bool false)), none⟩, []⟩]) .ret) .skip)) (.seq (.reg [⟨⟨some 16, Op.move (Operand.tmp 0), none⟩, []⟩,
  ⟨⟨some 17, Op.binOp BinOp.mul 3 (Operand.const (Value.int IntKind.i64 2)) (Operand.tmp 16) 3, none⟩, []⟩,
  ⟨⟨some 8, Op.assign (Operand.tmp 17), none⟩, []⟩]) (.seq (.seq (.reg [⟨⟨some 18, Op.move (Operand.tmp 0), none⟩, []⟩,
  ⟨⟨some 19, Op.move (Operand.const (Value.int IntKind.i64 0)), none⟩, []⟩]) (.block 0 (.loop (.seq (.reg [⟨⟨some 20, Op.binOp BinOp.lss 3 (Operand.tmp 19) (Operand.tmp 18) 3, none⟩, []⟩]) (.seq (.cond (Operand.tmp 20) .skip (.exit 0)) (.seq (.block 1 (.seq (.reg [⟨⟨some 21, Op.move (Operand.tmp 19), none⟩, []⟩,
  ⟨⟨some 9, Op.assign (Operand.tmp 21), none⟩, []⟩]) (.reg [⟨⟨some 22, Op.move (Operand.tmp 8), none⟩, []⟩,
  ⟨⟨some 23, Op.move (Operand.tmp 0), none⟩, []⟩,
  ⟨⟨some 24, Op.binOp BinOp.sub 3 (Operand.tmp 23) (Operand.const (Value.int IntKind.i64 3)) 3, none⟩, []⟩,
  ⟨⟨some 25, Op.binOp BinOp.mul 3 (Operand.const (Value.int IntKind.i64 2)) (Operand.tmp 24) 3, none⟩, []⟩,
  ⟨⟨some 26, Op.move (Operand.tmp 1), none⟩, []⟩,
  ⟨⟨some 27, Op.move (Operand.tmp 9), none⟩, []⟩,
  ⟨⟨some 28, Op.call { callee := (Callee.value (Operand.func 58)), args := #[(Operand.tmp 26), (Operand.tmp 27)], argTypes := #[22, 3] }, none⟩, []⟩,
  ⟨⟨some 29, Op.binOp BinOp.sub 3 (Operand.tmp 25) (Operand.tmp 28) 3, none⟩, []⟩,
  ⟨⟨some 30, Op.move (Operand.tmp 2), none⟩, []⟩,
  ⟨⟨some 31, Op.move (Operand.tmp 9), none⟩, []⟩,
  ⟨⟨some 32, Op.call { callee := (Callee.value (Operand.func 58)), args := #[(Operand.tmp 30), (Operand.tmp 31)], argTypes := #[22, 3] }, none⟩, []⟩,
  ⟨⟨some 33, Op.binOp BinOp.sub 3 (Operand.tmp 29) (Operand.tmp 32) 3, none⟩, []⟩,
  ⟨⟨some 34, Op.call { callee := (Callee.builtin Builtin.min), args := #[(Operand.tmp 22), (Operand.tmp 33)], argTypes := #[3, 3] }, none⟩, []⟩,
  ⟨⟨some 8, Op.assign (Operand.tmp 34), none⟩, []⟩]))) (.reg [⟨⟨some 35, Op.binOp BinOp.add 3 (Operand.tmp 19) (Operand.const (Value.int IntKind.i64 1)) 3, none⟩, []⟩,
  ⟨⟨some 19, Op.move (Operand.tmp 35), none⟩, []⟩]))))))) (.seq (.reg [⟨⟨some 36, Op.move (Operand.tmp 8), none⟩, []⟩,
  ⟨⟨some 6, Op.assign (Operand.tmp 36), none⟩, []⟩,
  ⟨⟨some 7, Op.assign (Operand.const (Value.bool true)), none⟩, []⟩]) .ret)))))
theorem sl17 : slim Try.f17.ntmps ords17 (Try.f17.body.getD .skip) = some cd17 := by kernel_rfl
theorem in17 {args : List Value} {H : AH} {R : Value → AH → Prop} (hl : args.length = 3) (h : ∀ (Q : Exit → Sl → AH → Prop), (∀ e s H, endA Try.prog [ResultVar.tmp 6, ResultVar.tmp 7] R e s H → Q e s H) → wpC Try.prog cd17 Q (enterA args) H) : ACalls Try.prog 17 args H R :=
  ACalls.intro (by kernel_rfl) Try.func17 rfl (by kernel_rfl) sl17 hl (of_decide_eq_true (by kernel_rfl)) (by kernel_rfl) h
end Go.Proofs.Ytnoihoeaconllaa.Ai
