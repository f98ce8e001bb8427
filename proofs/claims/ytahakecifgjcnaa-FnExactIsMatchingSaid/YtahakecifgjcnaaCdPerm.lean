/- Slim code of this translation. By the kernel. -/
import Derived.Test.YtahakecifgjcnaaProg
import Derived.Test.YtahakecifgjcnaaAiM2
import Derived.KernelRfl
namespace Go.Proofs.Ytahakecifgjcnaa.Ai
open Go

/- loop.example/g01128/impl.isRising -/
def ords132 : List (Nat × List (Nat × Bool)) := []
def cd132 : Cd := (.seq (.reg [⟨⟨some 4, Op.assign (Operand.const (Value.bool false)), none⟩, []⟩]) (.seq (.seq (.reg [⟨⟨some 7, Op.move (Operand.tmp 0), none⟩, []⟩,
  ⟨⟨some 8, Op.call { callee := (Callee.builtin Builtin.len), args := #[(Operand.tmp 7)], argTypes := #[22] }, none⟩, []⟩,
  ⟨⟨some 9, Op.move (Operand.const (Value.int IntKind.i64 0)), none⟩, []⟩]) (.block 0 (.loop (.seq (.reg [⟨⟨some 10, Op.binOp BinOp.lss 3 (Operand.tmp 9) (Operand.tmp 8) 3, none⟩, []⟩]) (.seq (.cond (Operand.tmp 10) .skip (.exit 0)) (.seq (.block 1 (.seq (.reg [⟨⟨some 11, Op.move (Operand.tmp 9), none⟩, []⟩,
  ⟨⟨some 12, Op.indexAddr 22 (Operand.tmp 7) (Operand.tmp 9), none⟩, []⟩,
  ⟨⟨some 13, Op.load 3 (Operand.tmp 12), none⟩, []⟩,
  ⟨⟨some 5, Op.assign (Operand.tmp 11), none⟩, []⟩,
  ⟨⟨some 6, Op.assign (Operand.tmp 13), none⟩, []⟩]) (.seq (.reg [⟨⟨some 14, Op.move (Operand.tmp 6), none⟩, []⟩,
  ⟨⟨some 15, Op.move (Operand.tmp 1), none⟩, []⟩,
  ⟨⟨some 16, Op.binOp BinOp.sub 3 (Operand.tmp 15) (Operand.const (Value.int IntKind.i64 1)) 3, none⟩, []⟩,
  ⟨⟨some 17, Op.call { callee := (Callee.value (Operand.func 130)), args := #[(Operand.tmp 14), (Operand.const (Value.int IntKind.i64 0)), (Operand.tmp 16)], argTypes := #[3, 3, 3] }, none⟩, []⟩,
  ⟨⟨some 18, Op.unOp UnOp.not 4 (Operand.tmp 17), none⟩, []⟩,
  ⟨⟨some 19, Op.move (Operand.tmp 18), none⟩, []⟩,
  ⟨⟨some 20, Op.move (Operand.tmp 5), some (19, false)⟩, []⟩,
  ⟨⟨some 21, Op.binOp BinOp.gtr 3 (Operand.tmp 20) (Operand.const (Value.int IntKind.i64 0)) 3, some (19, false)⟩, []⟩,
  ⟨⟨some 22, Op.move (Operand.tmp 21), some (19, false)⟩, []⟩,
  ⟨⟨some 23, Op.move (Operand.tmp 6), some (22, true)⟩, []⟩,
  ⟨⟨some 24, Op.move (Operand.tmp 0), some (22, true)⟩, []⟩,
  ⟨⟨some 25, Op.move (Operand.tmp 5), some (22, true)⟩, []⟩,
  ⟨⟨some 26, Op.binOp BinOp.sub 3 (Operand.tmp 25) (Operand.const (Value.int IntKind.i64 1)) 3, some (22, true)⟩, []⟩,
  ⟨⟨some 27, Op.indexAddr 22 (Operand.tmp 24) (Operand.tmp 26), some (22, true)⟩, []⟩,
  ⟨⟨some 28, Op.load 3 (Operand.tmp 27), some (22, true)⟩, []⟩,
  ⟨⟨some 29, Op.binOp BinOp.leq 3 (Operand.tmp 23) (Operand.tmp 28) 3, some (22, true)⟩, []⟩,
  ⟨⟨some 30, Op.pick (Operand.tmp 22) (Operand.tmp 29) (Operand.const (Value.bool false)), some (19, false)⟩, []⟩,
  ⟨⟨some 31, Op.pick (Operand.tmp 19) (Operand.const (Value.bool true)) (Operand.tmp 30), none⟩, []⟩]) (.cond (Operand.tmp 31) (.seq (.reg [⟨⟨some 4, Op.assign (Operand.const (Value.bool false)), none⟩, []⟩]) .ret) .skip)))) (.reg [⟨⟨some 32, Op.binOp BinOp.add 3 (Operand.tmp 9) (Operand.const (Value.int IntKind.i64 1)) 3, none⟩, []⟩,
  ⟨⟨some 9, Op.move (Operand.tmp 32), none⟩, []⟩]))))))) (.seq (.reg [⟨⟨some 4, Op.assign (Operand.const (Value.bool true)), none⟩, []⟩]) .ret)))
theorem sl132 : slim Try.f132.ntmps ords132 (Try.f132.body.getD .skip) = some cd132 := by kernel_rfl
theorem in132 {args : List Value} {H : AH} {R : Value → AH → Prop} (hl : args.length = 2) (h : ∀ (Q : Exit → Sl → AH → Prop), (∀ e s H, endA Try.prog [ResultVar.tmp 4] R e s H → Q e s H) → wpC Try.prog cd132 Q (enterA args) H) : ACalls Try.prog 132 args H R :=
  ACalls.intro (by kernel_rfl) Try.func132 rfl (by kernel_rfl) sl132 hl (of_decide_eq_true (by kernel_rfl)) (by kernel_rfl) h

/- loop.example/g01128/impl.isOrder -/
def ords116 : List (Nat × List (Nat × Bool)) := []
def cd116 : Cd := (.seq (.reg [⟨⟨some 4, Op.assign (Operand.const (Value.bool false)), none⟩, []⟩]) (.seq (.reg [⟨⟨some 5, Op.move (Operand.tmp 0), none⟩, []⟩,
  ⟨⟨some 6, Op.call { callee := (Callee.builtin Builtin.len), args := #[(Operand.tmp 5)], argTypes := #[22] }, none⟩, []⟩,
  ⟨⟨some 7, Op.move (Operand.tmp 1), none⟩, []⟩,
  ⟨⟨some 8, Op.binOp BinOp.eql 3 (Operand.tmp 6) (Operand.tmp 7) 3, none⟩, []⟩,
  ⟨⟨some 9, Op.move (Operand.tmp 8), none⟩, []⟩,
  ⟨⟨some 10, Op.move (Operand.tmp 0), some (9, true)⟩, []⟩,
  ⟨⟨some 11, Op.call { callee := (Callee.value (Operand.func 76)), args := #[(Operand.tmp 10)], argTypes := #[22] }, some (9, true)⟩, []⟩,
  ⟨⟨some 12, Op.call { callee := (Callee.value (Operand.func 75)), args := #[(Operand.tmp 11)], argTypes := #[79] }, some (9, true)⟩, []⟩,
  ⟨⟨some 13, Op.move (Operand.tmp 1), some (9, true)⟩, []⟩,
  ⟨⟨some 14, Op.call { callee := (Callee.value (Operand.func 132)), args := #[(Operand.tmp 12), (Operand.tmp 13)], argTypes := #[22, 3] }, some (9, true)⟩, []⟩,
  ⟨⟨some 15, Op.pick (Operand.tmp 9) (Operand.tmp 14) (Operand.const (Value.bool false)), none⟩, []⟩,
  ⟨⟨some 4, Op.assign (Operand.tmp 15), none⟩, []⟩]) .ret))
theorem sl116 : slim Try.f116.ntmps ords116 (Try.f116.body.getD .skip) = some cd116 := by kernel_rfl
theorem in116 {args : List Value} {H : AH} {R : Value → AH → Prop} (hl : args.length = 2) (h : ∀ (Q : Exit → Sl → AH → Prop), (∀ e s H, endA Try.prog [ResultVar.tmp 4] R e s H → Q e s H) → wpC Try.prog cd116 Q (enterA args) H) : ACalls Try.prog 116 args H R :=
  ACalls.intro (by kernel_rfl) Try.func116 rfl (by kernel_rfl) sl116 hl (of_decide_eq_true (by kernel_rfl)) (by kernel_rfl) h

/- loop.example/g01128/impl.IsPermutation -/
def ords61 : List (Nat × List (Nat × Bool)) := []
def cd61 : Cd := (.seq (.reg [⟨⟨some 2, Op.assign (Operand.const (Value.bool false)), none⟩, []⟩]) (.seq (.reg [⟨⟨some 3, Op.move (Operand.tmp 0), none⟩, []⟩,
  ⟨⟨some 4, Op.call { callee := (Callee.builtin Builtin.len), args := #[(Operand.tmp 3)], argTypes := #[22] }, none⟩, []⟩,
  ⟨⟨some 5, Op.binOp BinOp.leq 3 (Operand.tmp 4) (Operand.const (Value.int IntKind.i64 8)) 3, none⟩, []⟩,
  ⟨⟨some 6, Op.move (Operand.tmp 5), none⟩, []⟩,
  ⟨⟨some 7, Op.move (Operand.tmp 0), some (6, true)⟩, []⟩,
  ⟨⟨some 8, Op.move (Operand.tmp 0), some (6, true)⟩, []⟩,
  ⟨⟨some 9, Op.call { callee := (Callee.builtin Builtin.len), args := #[(Operand.tmp 8)], argTypes := #[22] }, some (6, true)⟩, []⟩,
  ⟨⟨some 10, Op.call { callee := (Callee.value (Operand.func 116)), args := #[(Operand.tmp 7), (Operand.tmp 9)], argTypes := #[22, 3] }, some (6, true)⟩, []⟩,
  ⟨⟨some 11, Op.pick (Operand.tmp 6) (Operand.tmp 10) (Operand.const (Value.bool false)), none⟩, []⟩,
  ⟨⟨some 2, Op.assign (Operand.tmp 11), none⟩, []⟩]) .ret))
theorem sl61 : slim Try.f61.ntmps ords61 (Try.f61.body.getD .skip) = some cd61 := by kernel_rfl
theorem in61 {args : List Value} {H : AH} {R : Value → AH → Prop} (hl : args.length = 1) (h : ∀ (Q : Exit → Sl → AH → Prop), (∀ e s H, endA Try.prog [ResultVar.tmp 2] R e s H → Q e s H) → wpC Try.prog cd61 Q (enterA args) H) : ACalls Try.prog 61 args H R :=
  ACalls.intro (by kernel_rfl) Try.func61 rfl (by kernel_rfl) sl61 hl (of_decide_eq_true (by kernel_rfl)) (by kernel_rfl) h

/- loop.example/g01128/spec.l9Perm -/
def ords57 : List (Nat × List (Nat × Bool)) := []
def cd57 : Cd := (.seq (.reg [⟨⟨some 2, Op.assign (Operand.const (Value.bool false)), none⟩, []⟩]) (.seq (.seq (.reg [⟨⟨some 3, Op.assign (Operand.const (Value.int IntKind.i64 0)), none⟩, []⟩]) (.block 0 (.loop (.seq (.seq (.reg [⟨⟨some 4, Op.move (Operand.tmp 3), none⟩, []⟩,
  ⟨⟨some 5, Op.move (Operand.tmp 0), none⟩, []⟩,
  ⟨⟨some 6, Op.call { callee := (Callee.builtin Builtin.len), args := #[(Operand.tmp 5)], argTypes := #[22] }, none⟩, []⟩,
  ⟨⟨some 7, Op.binOp BinOp.lss 3 (Operand.tmp 4) (Operand.tmp 6) 3, none⟩, []⟩,
  ⟨⟨some 8, Op.move (Operand.tmp 7), none⟩, []⟩,
  ⟨⟨some 9, Op.move (Operand.tmp 0), some (8, true)⟩, []⟩,
  ⟨⟨some 10, Op.call { callee := (Callee.builtin Builtin.len), args := #[(Operand.tmp 9)], argTypes := #[22] }, some (8, true)⟩, []⟩,
  ⟨⟨some 11, Op.binOp BinOp.leq 3 (Operand.tmp 10) (Operand.const (Value.int IntKind.i64 8)) 3, some (8, true)⟩, []⟩,
  ⟨⟨some 12, Op.pick (Operand.tmp 8) (Operand.tmp 11) (Operand.const (Value.bool false)), none⟩, []⟩]) (.cond (Operand.tmp 12) .skip (.exit 0))) (.seq (.block 1 (.seq (.reg [⟨⟨some 15, Op.move (Operand.tmp 0), none⟩, []⟩,
  ⟨⟨some 16, Op.move (Operand.tmp 3), none⟩, []⟩,
  ⟨⟨some 17, Op.call { callee := (Callee.value (Operand.func 66)), args := #[(Operand.tmp 15), (Operand.tmp 16)], argTypes := #[22, 3] }, none⟩, []⟩,
  ⟨⟨some 18, Op.unOp UnOp.not 4 (Operand.tmp 17), none⟩, []⟩]) (.cond (Operand.tmp 18) (.seq (.reg [⟨⟨some 2, Op.assign (Operand.const (Value.bool false)), none⟩, []⟩]) .ret) .skip))) (.reg [⟨⟨some 13, Op.move (Operand.tmp 3), none⟩, []⟩,
  ⟨⟨some 14, Op.binOp BinOp.add 3 (Operand.tmp 13) (Operand.const (Value.int IntKind.i64 1)) 3, none⟩, []⟩,
  ⟨⟨some 3, Op.assign (Operand.tmp 14), none⟩, []⟩])))))) (.seq (.reg [⟨⟨some 19, Op.move (Operand.tmp 0), none⟩, []⟩,
  ⟨⟨some 20, Op.call { callee := (Callee.builtin Builtin.len), args := #[(Operand.tmp 19)], argTypes := #[22] }, none⟩, []⟩,
  ⟨⟨some 21, Op.binOp BinOp.leq 3 (Operand.tmp 20) (Operand.const (Value.int IntKind.i64 8)) 3, none⟩, []⟩,
  ⟨⟨some 2, Op.assign (Operand.tmp 21), none⟩, []⟩]) .ret)))
theorem sl57 : slim Try.f57.ntmps ords57 (Try.f57.body.getD .skip) = some cd57 := by kernel_rfl
theorem in57 {args : List Value} {H : AH} {R : Value → AH → Prop} (hl : args.length = 1) (h : ∀ (Q : Exit → Sl → AH → Prop), (∀ e s H, endA Try.prog [ResultVar.tmp 2] R e s H → Q e s H) → wpC Try.prog cd57 Q (enterA args) H) : ACalls Try.prog 57 args H R :=
  ACalls.intro (by kernel_rfl) Try.func57 rfl (by kernel_rfl) sl57 hl (of_decide_eq_true (by kernel_rfl)) (by kernel_rfl) h
end Go.Proofs.Ytahakecifgjcnaa.Ai
