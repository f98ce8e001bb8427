/- Slim code of this translation. By the kernel. -/
import Derived.Test.YtedlnjcfacadgaaProg
import Derived.Test.YtedlnjcfacadgaaAiC
import Derived.KernelRfl
namespace Go.Proofs.Ytedlnjcfacadgaa.Ai
open Go

/- loop.example/g01128/impl.isAt -/
def ords55 : List (Nat × List (Nat × Bool)) := []
def cd55 : Cd := (.seq (.reg [⟨⟨some 4, Op.assign (Operand.const (Value.bool false)), none⟩, []⟩]) (.seq (.reg [⟨⟨some 5, Op.move (Operand.tmp 0), none⟩, []⟩,
  ⟨⟨some 6, Op.binOp BinOp.quo 3 (Operand.tmp 5) (Operand.const (Value.int IntKind.i64 10)) 3, none⟩, []⟩,
  ⟨⟨some 7, Op.move (Operand.tmp 1), none⟩, []⟩,
  ⟨⟨some 8, Op.binOp BinOp.eql 3 (Operand.tmp 6) (Operand.tmp 7) 3, none⟩, []⟩,
  ⟨⟨some 9, Op.move (Operand.tmp 8), none⟩, []⟩,
  ⟨⟨some 10, Op.move (Operand.tmp 0), some (9, false)⟩, []⟩,
  ⟨⟨some 11, Op.binOp BinOp.rem 3 (Operand.tmp 10) (Operand.const (Value.int IntKind.i64 10)) 3, some (9, false)⟩, []⟩,
  ⟨⟨some 12, Op.move (Operand.tmp 1), some (9, false)⟩, []⟩,
  ⟨⟨some 13, Op.binOp BinOp.eql 3 (Operand.tmp 11) (Operand.tmp 12) 3, some (9, false)⟩, []⟩,
  ⟨⟨some 14, Op.pick (Operand.tmp 9) (Operand.const (Value.bool true)) (Operand.tmp 13), none⟩, []⟩,
  ⟨⟨some 4, Op.assign (Operand.tmp 14), none⟩, []⟩]) .ret))
theorem sl55 : slim Try.f55.ntmps ords55 (Try.f55.body.getD .skip) = some cd55 := by kernel_rfl
theorem in55 {args : List Value} {H : AH} {R : Value → AH → Prop} (hl : args.length = 2) (h : ∀ (Q : Exit → Sl → AH → Prop), (∀ e s H, endA Try.prog [ResultVar.tmp 4] R e s H → Q e s H) → wpC Try.prog cd55 Q (enterA args) H) : ACalls Try.prog 55 args H R :=
  ACalls.intro (by kernel_rfl) Try.func55 rfl (by kernel_rfl) sl55 hl (of_decide_eq_true (by kernel_rfl)) (by kernel_rfl) h

/- loop.example/g01128/impl.FanOf$1 -/
def ords54 : List (Nat × List (Nat × Bool)) := []
def cd54 : Cd := (.seq (.reg [⟨⟨some 3, Op.assign (Operand.const (Value.bool false)), none⟩, []⟩]) (.seq (.reg [⟨⟨some 4, Op.move (Operand.tmp 0), none⟩, []⟩,
  ⟨⟨some 5, Op.load 3 (Operand.tmp 1), none⟩, []⟩,
  ⟨⟨some 6, Op.call { callee := (Callee.value (Operand.func 55)), args := #[(Operand.tmp 4), (Operand.tmp 5)], argTypes := #[3, 3] }, none⟩, []⟩,
  ⟨⟨some 7, Op.unOp UnOp.not 4 (Operand.tmp 6), none⟩, []⟩,
  ⟨⟨some 3, Op.assign (Operand.tmp 7), none⟩, []⟩]) .ret))
theorem sl54 : slim Try.f54.ntmps ords54 (Try.f54.body.getD .skip) = some cd54 := by kernel_rfl
theorem in54 {args : List Value} {H : AH} {R : Value → AH → Prop} (hl : args.length = 2) (h : ∀ (Q : Exit → Sl → AH → Prop), (∀ e s H, endA Try.prog [ResultVar.tmp 3] R e s H → Q e s H) → wpC Try.prog cd54 Q (enterA args) H) : ACalls Try.prog 54 args H R :=
  ACalls.intro (by kernel_rfl) Try.func54 rfl (by kernel_rfl) sl54 hl (of_decide_eq_true (by kernel_rfl)) (by kernel_rfl) h

/- loop.example/g01128/impl.diagonals -/
def ords53 : List (Nat × List (Nat × Bool)) := []
def cd53 : Cd := (.seq (.reg [⟨⟨some 2, Op.assign (Operand.const (Value.slice none 0 0)), none⟩, []⟩]) (.seq (.reg [⟨⟨some 5, Op.buildSlice 25 0 #[], none⟩, []⟩,
  ⟨⟨some 3, Op.assign (Operand.tmp 5), none⟩, []⟩]) (.seq (.seq (.reg [⟨⟨some 6, Op.move (Operand.const (Value.int IntKind.i64 0)), none⟩, []⟩]) (.block 0 (.loop (.seq (.reg [⟨⟨some 7, Op.binOp BinOp.lss 3 (Operand.tmp 6) (Operand.const (Value.int IntKind.i64 100)) 3, none⟩, []⟩]) (.seq (.cond (Operand.tmp 7) .skip (.exit 0)) (.seq (.block 1 (.seq (.reg [⟨⟨some 8, Op.move (Operand.tmp 6), none⟩, []⟩,
  ⟨⟨some 4, Op.assign (Operand.tmp 8), none⟩, []⟩]) (.seq (.reg [⟨⟨some 9, Op.move (Operand.tmp 0), none⟩, []⟩,
  ⟨⟨some 10, Op.move (Operand.tmp 4), none⟩, []⟩,
  ⟨⟨some 11, Op.call { callee := (Callee.value (Operand.func 71)), args := #[(Operand.tmp 9), (Operand.tmp 10)], argTypes := #[3, 3] }, none⟩, []⟩]) (.cond (Operand.tmp 11) (.reg [⟨⟨some 12, Op.move (Operand.tmp 3), none⟩, []⟩,
  ⟨⟨some 13, Op.move (Operand.tmp 4), none⟩, []⟩,
  ⟨⟨some 14, Op.buildSlice 25 1 #[(0, (Operand.tmp 13))], none⟩, []⟩,
  ⟨⟨some 15, Op.call { callee := (Callee.builtin Builtin.append), args := #[(Operand.tmp 12), (Operand.tmp 14)], argTypes := #[25, 25] }, none⟩, []⟩,
  ⟨⟨some 3, Op.assign (Operand.tmp 15), none⟩, []⟩]) .skip)))) (.reg [⟨⟨some 16, Op.binOp BinOp.add 3 (Operand.tmp 6) (Operand.const (Value.int IntKind.i64 1)) 3, none⟩, []⟩,
  ⟨⟨some 6, Op.move (Operand.tmp 16), none⟩, []⟩]))))))) (.seq (.reg [⟨⟨some 17, Op.move (Operand.tmp 3), none⟩, []⟩,
  ⟨⟨some 2, Op.assign (Operand.tmp 17), none⟩, []⟩]) .ret))))
theorem sl53 : slim Try.f53.ntmps ords53 (Try.f53.body.getD .skip) = some cd53 := by kernel_rfl
theorem in53 {args : List Value} {H : AH} {R : Value → AH → Prop} (hl : args.length = 1) (h : ∀ (Q : Exit → Sl → AH → Prop), (∀ e s H, endA Try.prog [ResultVar.tmp 2] R e s H → Q e s H) → wpC Try.prog cd53 Q (enterA args) H) : ACalls Try.prog 53 args H R :=
  ACalls.intro (by kernel_rfl) Try.func53 rfl (by kernel_rfl) sl53 hl (of_decide_eq_true (by kernel_rfl)) (by kernel_rfl) h

/- slices.DeleteFunc[[]int,int] -/
def ords52 : List (Nat × List (Nat × Bool)) := []
def cd52 : Cd := (.seq (.reg [⟨⟨some 4, Op.assign (Operand.const (Value.slice none 0 0)), none⟩, []⟩]) (.seq (.reg [⟨⟨some 8, Op.move (Operand.tmp 0), none⟩, []⟩,
  ⟨⟨some 9, Op.move (Operand.tmp 1), none⟩, []⟩,
  ⟨⟨some 10, Op.call { callee := (Callee.value (Operand.func 70)), args := #[(Operand.tmp 8), (Operand.tmp 9)], argTypes := #[25, 24] }, none⟩, []⟩,
  ⟨⟨some 5, Op.assign (Operand.tmp 10), none⟩, []⟩]) (.seq (.seq (.reg [⟨⟨some 11, Op.move (Operand.tmp 5), none⟩, []⟩,
  ⟨⟨some 12, Op.binOp BinOp.eql 3 (Operand.tmp 11) (Operand.const (Value.int IntKind.i64 (-1))) 3, none⟩, []⟩]) (.cond (Operand.tmp 12) (.seq (.reg [⟨⟨some 13, Op.move (Operand.tmp 0), none⟩, []⟩,
  ⟨⟨some 4, Op.assign (Operand.tmp 13), none⟩, []⟩]) .ret) .skip)) (.seq (.seq (.reg [⟨⟨some 14, Op.move (Operand.tmp 5), none⟩, []⟩,
  ⟨⟨some 15, Op.binOp BinOp.add 3 (Operand.tmp 14) (Operand.const (Value.int IntKind.i64 1)) 3, none⟩, []⟩,
  ⟨⟨some 6, Op.assign (Operand.tmp 15), none⟩, []⟩]) (.block 0 (.loop (.seq (.seq (.reg [⟨⟨some 16, Op.move (Operand.tmp 6), none⟩, []⟩,
  ⟨⟨some 17, Op.move (Operand.tmp 0), none⟩, []⟩,
  ⟨⟨some 18, Op.call { callee := (Callee.builtin Builtin.len), args := #[(Operand.tmp 17)], argTypes := #[25] }, none⟩, []⟩,
  ⟨⟨some 19, Op.binOp BinOp.lss 3 (Operand.tmp 16) (Operand.tmp 18) 3, none⟩, []⟩]) (.cond (Operand.tmp 19) .skip (.exit 0))) (.seq (.block 1 (.seq (.reg [⟨⟨some 22, Op.move (Operand.tmp 0), none⟩, []⟩,
  ⟨⟨some 23, Op.move (Operand.tmp 6), none⟩, []⟩,
  ⟨⟨some 24, Op.indexAddr 25 (Operand.tmp 22) (Operand.tmp 23), none⟩, []⟩,
  ⟨⟨some 25, Op.load 3 (Operand.tmp 24), none⟩, []⟩,
  ⟨⟨some 7, Op.assign (Operand.tmp 25), none⟩, []⟩]) (.seq (.reg [⟨⟨some 26, Op.move (Operand.tmp 1), none⟩, []⟩,
  ⟨⟨some 27, Op.move (Operand.tmp 7), none⟩, []⟩,
  ⟨⟨some 28, Op.call { callee := (Callee.value (Operand.tmp 26)), args := #[(Operand.tmp 27)], argTypes := #[3] }, none⟩, []⟩,
  ⟨⟨some 29, Op.unOp UnOp.not 4 (Operand.tmp 28), none⟩, []⟩]) (.cond (Operand.tmp 29) (.seq (.reg [⟨⟨some 30, Op.move (Operand.tmp 0), none⟩, []⟩,
  ⟨⟨some 31, Op.move (Operand.tmp 5), none⟩, []⟩,
  ⟨⟨some 32, Op.move (Operand.tmp 7), none⟩, []⟩,
  ⟨⟨some 33, Op.indexAddr 25 (Operand.tmp 30) (Operand.tmp 31), none⟩, []⟩,
  ⟨⟨none, Op.store 3 (Operand.tmp 33) (Operand.tmp 32), none⟩, []⟩]) (.reg [⟨⟨some 34, Op.move (Operand.tmp 5), none⟩, []⟩,
  ⟨⟨some 35, Op.binOp BinOp.add 3 (Operand.tmp 34) (Operand.const (Value.int IntKind.i64 1)) 3, none⟩, []⟩,
  ⟨⟨some 5, Op.assign (Operand.tmp 35), none⟩, []⟩])) .skip)))) (.reg [⟨⟨some 20, Op.move (Operand.tmp 6), none⟩, []⟩,
  ⟨⟨some 21, Op.binOp BinOp.add 3 (Operand.tmp 20) (Operand.const (Value.int IntKind.i64 1)) 3, none⟩, []⟩,
  ⟨⟨some 6, Op.assign (Operand.tmp 21), none⟩, []⟩])))))) (.seq (.reg [⟨⟨some 36, Op.move (Operand.tmp 0), none⟩, []⟩,
  ⟨⟨some 37, Op.move (Operand.tmp 5), none⟩, []⟩,
  ⟨⟨some 38, Op.slice 25 (Operand.tmp 36) (some (Operand.tmp 37)) none none, none⟩, []⟩,
  ⟨⟨none, Op.call { callee := (Callee.builtin Builtin.clear), args := #[(Operand.tmp 38)], argTypes := #[25] }, none⟩, []⟩]) (.seq (.reg [⟨⟨some 39, Op.move (Operand.tmp 0), none⟩, []⟩,
  ⟨⟨some 40, Op.move (Operand.tmp 5), none⟩, []⟩,
  ⟨⟨some 41, Op.slice 25 (Operand.tmp 39) none (some (Operand.tmp 40)) none, none⟩, []⟩,
  ⟨⟨some 4, Op.assign (Operand.tmp 41), none⟩, []⟩]) .ret))))))
theorem sl52 : slim Try.f52.ntmps ords52 (Try.f52.body.getD .skip) = some cd52 := by kernel_rfl
theorem in52 {args : List Value} {H : AH} {R : Value → AH → Prop} (hl : args.length = 2) (h : ∀ (Q : Exit → Sl → AH → Prop), (∀ e s H, endA Try.prog [ResultVar.tmp 4] R e s H → Q e s H) → wpC Try.prog cd52 Q (enterA args) H) : ACalls Try.prog 52 args H R :=
  ACalls.intro (by kernel_rfl) Try.func52 rfl (by kernel_rfl) sl52 hl (of_decide_eq_true (by kernel_rfl)) (by kernel_rfl) h

/- loop.example/g01128/spec.FanOf -/
def ords22 : List (Nat × List (Nat × Bool)) := []
def cd22 : Cd := (.seq (.reg [⟨⟨some 4, Op.assign (Operand.const (Value.slice none 0 0)), none⟩, []⟩,
  ⟨⟨some 5, Op.assign (Operand.const (Value.bool false)), none⟩, []⟩]) (.seq (.reg [⟨⟨some 9, Op.buildSlice 25 0 #[], none⟩, []⟩,
  ⟨⟨some 6, Op.assign (Operand.tmp 9), none⟩, []⟩]) (.seq (.seq (.reg [⟨⟨some 10, Op.move (Operand.tmp 0), none⟩, []⟩,
  ⟨⟨some 11, Op.call { callee := (Callee.value (Operand.func 40)), args := #[(Operand.tmp 10)], argTypes := #[3] }, none⟩, []⟩,
  ⟨⟨some 12, Op.unOp UnOp.not 4 (Operand.tmp 11), none⟩, []⟩,
  ⟨⟨some 13, Op.move (Operand.tmp 12), none⟩, []⟩,
  ⟨⟨some 14, Op.move (Operand.tmp 1), some (13, false)⟩, []⟩,
  ⟨⟨some 15, Op.move (Operand.tmp 0), some (13, false)⟩, []⟩,
  ⟨⟨some 16, Op.binOp BinOp.sub 3 (Operand.tmp 15) (Operand.const (Value.int IntKind.i64 1)) 3, some (13, false)⟩, []⟩,
  ⟨⟨some 17, Op.call { callee := (Callee.value (Operand.func 49)), args := #[(Operand.tmp 14), (Operand.const (Value.int IntKind.i64 0)), (Operand.tmp 16)], argTypes := #[3, 3, 3] }, some (13, false)⟩, []⟩,
  ⟨⟨some 18, Op.unOp UnOp.not 4 (Operand.tmp 17), some (13, false)⟩, []⟩,
  ⟨⟨some 19, Op.pick (Operand.tmp 13) (Operand.const (Value.bool true)) (Operand.tmp 18), none⟩, []⟩]) (.cond (Operand.tmp 19) (.seq (.reg [⟨⟨some 20, Op.move (Operand.tmp 6), none⟩, []⟩,
  ⟨⟨some 4, Op.assign (Operand.tmp 20), none⟩, []⟩,
  ⟨⟨some 5, Op.assign (Operand.const (Value.bool false)), none⟩, []⟩]) .ret) .skip)) (.seq (.reg [⟨⟨some 21, Op.move (Operand.tmp 0), none⟩, []⟩,
  ⟨⟨some 22, Op.call { callee := (Callee.value (Operand.func 50)), args := #[(Operand.tmp 21)], argTypes := #[3] }, none⟩, []⟩,
  ⟨⟨some 7, Op.assign (Operand.tmp 22), none⟩, []⟩]) (.seq (.seq (.reg [⟨⟨some 8, Op.assign (Operand.const (Value.int IntKind.i64 0)), none⟩, []⟩]) (.block 0 (.loop (.seq (.seq (.reg [⟨⟨some 23, Op.move (Operand.tmp 8), none⟩, []⟩,
  ⟨⟨some 24, Op.move (Operand.tmp 7), none⟩, []⟩,
  ⟨⟨some 25, Op.call { callee := (Callee.builtin Builtin.len), args := #[(Operand.tmp 24)], argTypes := #[25] }, none⟩, []⟩,
  ⟨⟨some 26, Op.binOp BinOp.lss 3 (Operand.tmp 23) (Operand.tmp 25) 3, none⟩, []⟩]) (.cond (Operand.tmp 26) .skip (.exit 0))) (.seq (.block 1 (.seq (.reg [⟨⟨some 29, Op.move (Operand.tmp 7), none⟩, []⟩,
  ⟨⟨some 30, Op.move (Operand.tmp 8), none⟩, []⟩,
  ⟨⟨some 31, Op.indexAddr 25 (Operand.tmp 29) (Operand.tmp 30), none⟩, []⟩,
  ⟨⟨some 32, Op.load 3 (Operand.tmp 31), none⟩, []⟩,
  ⟨⟨some 33, Op.binOp BinOp.quo 3 (Operand.tmp 32) (Operand.const (Value.int IntKind.i64 10)) 3, none⟩, []⟩,
  ⟨⟨some 34, Op.move (Operand.tmp 1), none⟩, []⟩,
  ⟨⟨some 35, Op.binOp BinOp.eql 3 (Operand.tmp 33) (Operand.tmp 34) 3, none⟩, []⟩,
  ⟨⟨some 36, Op.move (Operand.tmp 35), none⟩, []⟩,
  ⟨⟨some 37, Op.move (Operand.tmp 7), some (36, false)⟩, []⟩,
  ⟨⟨some 38, Op.move (Operand.tmp 8), some (36, false)⟩, []⟩,
  ⟨⟨some 39, Op.indexAddr 25 (Operand.tmp 37) (Operand.tmp 38), some (36, false)⟩, []⟩,
  ⟨⟨some 40, Op.load 3 (Operand.tmp 39), some (36, false)⟩, []⟩,
  ⟨⟨some 41, Op.binOp BinOp.rem 3 (Operand.tmp 40) (Operand.const (Value.int IntKind.i64 10)) 3, some (36, false)⟩, []⟩,
  ⟨⟨some 42, Op.move (Operand.tmp 1), some (36, false)⟩, []⟩,
  ⟨⟨some 43, Op.binOp BinOp.eql 3 (Operand.tmp 41) (Operand.tmp 42) 3, some (36, false)⟩, []⟩,
  ⟨⟨some 44, Op.pick (Operand.tmp 36) (Operand.const (Value.bool true)) (Operand.tmp 43), none⟩, []⟩]) (.cond (Operand.tmp 44) (.reg [⟨⟨some 45, Op.move (Operand.tmp 6), none⟩, []⟩,
  ⟨⟨some 46, Op.move (Operand.tmp 7), none⟩, []⟩,
  ⟨⟨some 47, Op.move (Operand.tmp 8), none⟩, []⟩,
  ⟨⟨some 48, Op.indexAddr 25 (Operand.tmp 46) (Operand.tmp 47), none⟩, []⟩,
  ⟨⟨some 49, Op.load 3 (Operand.tmp 48), none⟩, []⟩,
  ⟨⟨some 50, Op.buildSlice 25 1 #[(0, (Operand.tmp 49))], none⟩, []⟩,
  ⟨⟨some 51, Op.call { callee := (Callee.builtin Builtin.append), args := #[(Operand.tmp 45), (Operand.tmp 50)], argTypes := #[25, 25] }, none⟩, []⟩,
  ⟨⟨some 6, Op.assign (Operand.tmp 51), none⟩, []⟩]) .skip))) (.reg [⟨⟨some 27, Op.move (Operand.tmp 8), none⟩, []⟩,
  ⟨⟨some 28, Op.binOp BinOp.add 3 (Operand.tmp 27) (Operand.const (Value.int IntKind.i64 1)) 3, none⟩, []⟩,
  ⟨⟨some 8, Op.assign (Operand.tmp 28), none⟩, []⟩])))))) (.seq (.reg [⟨⟨some 52, Op.move (Operand.tmp 6), none⟩, []⟩,
  ⟨⟨some 4, Op.assign (Operand.tmp 52), none⟩, []⟩,
  ⟨⟨some 5, Op.assign (Operand.const (Value.bool true)), none⟩, []⟩]) .ret))))))
theorem sl22 : slim Try.f22.ntmps ords22 (Try.f22.body.getD .skip) = some cd22 := by kernel_rfl
theorem in22 {args : List Value} {H : AH} {R : Value → AH → Prop} (hl : args.length = 2) (h : ∀ (Q : Exit → Sl → AH → Prop), (∀ e s H, endA Try.prog [ResultVar.tmp 4, ResultVar.tmp 5] R e s H → Q e s H) → wpC Try.prog cd22 Q (enterA args) H) : ACalls Try.prog 22 args H R :=
  ACalls.intro (by kernel_rfl) Try.func22 rfl (by kernel_rfl) sl22 hl (of_decide_eq_true (by kernel_rfl)) (by kernel_rfl) h

/- loop.example/g01128/impl.FanOf -/
def ords23 : List (Nat × List (Nat × Bool)) := []
def cd23 : Cd := (.seq (.reg [⟨⟨some 3, Op.box 3 (Operand.tmp 1), none⟩, []⟩,
  ⟨⟨some 4, Op.assign (Operand.const (Value.slice none 0 0)), none⟩, []⟩,
  ⟨⟨some 5, Op.assign (Operand.const (Value.bool false)), none⟩, []⟩]) (.seq (.seq (.reg [⟨⟨some 6, Op.move (Operand.tmp 0), none⟩, []⟩,
  ⟨⟨some 7, Op.call { callee := (Callee.value (Operand.func 41)), args := #[(Operand.tmp 6)], argTypes := #[3] }, none⟩, []⟩,
  ⟨⟨some 8, Op.unOp UnOp.not 4 (Operand.tmp 7), none⟩, []⟩,
  ⟨⟨some 9, Op.move (Operand.tmp 8), none⟩, []⟩,
  ⟨⟨some 10, Op.load 3 (Operand.tmp 3), some (9, false)⟩, []⟩,
  ⟨⟨some 11, Op.move (Operand.tmp 0), some (9, false)⟩, []⟩,
  ⟨⟨some 12, Op.binOp BinOp.sub 3 (Operand.tmp 11) (Operand.const (Value.int IntKind.i64 1)) 3, some (9, false)⟩, []⟩,
  ⟨⟨some 13, Op.call { callee := (Callee.value (Operand.func 51)), args := #[(Operand.tmp 10), (Operand.const (Value.int IntKind.i64 0)), (Operand.tmp 12)], argTypes := #[3, 3, 3] }, some (9, false)⟩, []⟩,
  ⟨⟨some 14, Op.unOp UnOp.not 4 (Operand.tmp 13), some (9, false)⟩, []⟩,
  ⟨⟨some 15, Op.pick (Operand.tmp 9) (Operand.const (Value.bool true)) (Operand.tmp 14), none⟩, []⟩]) (.cond (Operand.tmp 15) (.seq (.reg [⟨⟨some 4, Op.assign (Operand.const (Value.slice none 0 0)), none⟩, []⟩,
  ⟨⟨some 5, Op.assign (Operand.const (Value.bool false)), none⟩, []⟩]) .ret) .skip)) (.seq (.reg [⟨⟨some 16, Op.move (Operand.tmp 0), none⟩, []⟩,
  ⟨⟨some 17, Op.call { callee := (Callee.value (Operand.func 53)), args := #[(Operand.tmp 16)], argTypes := #[3] }, none⟩, []⟩,
  ⟨⟨some 18, Op.makeFunc (Fn.func 54) #[] #[(Operand.tmp 3)], none⟩, []⟩,
  ⟨⟨some 19, Op.call { callee := (Callee.value (Operand.func 52)), args := #[(Operand.tmp 17), (Operand.tmp 18)], argTypes := #[25, 24] }, none⟩, []⟩,
  ⟨⟨some 4, Op.assign (Operand.tmp 19), none⟩, []⟩,
  ⟨⟨some 5, Op.assign (Operand.const (Value.bool true)), none⟩, []⟩]) .ret)))
theorem sl23 : slim Try.f23.ntmps ords23 (Try.f23.body.getD .skip) = some cd23 := by kernel_rfl
theorem in23 {args : List Value} {H : AH} {R : Value → AH → Prop} (hl : args.length = 2) (h : ∀ (Q : Exit → Sl → AH → Prop), (∀ e s H, endA Try.prog [ResultVar.tmp 4, ResultVar.tmp 5] R e s H → Q e s H) → wpC Try.prog cd23 Q (enterA args) H) : ACalls Try.prog 23 args H R :=
  ACalls.intro (by kernel_rfl) Try.func23 rfl (by kernel_rfl) sl23 hl (of_decide_eq_true (by kernel_rfl)) (by kernel_rfl) h
end Go.Proofs.Ytedlnjcfacadgaa.Ai
