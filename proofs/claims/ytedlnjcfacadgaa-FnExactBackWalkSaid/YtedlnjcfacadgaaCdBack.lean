/- Slim code of this translation. By the kernel. -/
import Derived.Test.YtedlnjcfacadgaaProg
import Derived.Test.YtedlnjcfacadgaaAiC
import Derived.KernelRfl
namespace Go.Proofs.Ytedlnjcfacadgaa.Ai
open Go

/- slices.Clone[[]int,int] -/
def ords61 : List (Nat × List (Nat × Bool)) := []
def cd61 : Cd := (.seq (.reg [⟨⟨some 2, Op.assign (Operand.const (Value.slice none 0 0)), none⟩, []⟩]) (.seq (.seq (.reg [⟨⟨some 3, Op.move (Operand.tmp 0), none⟩, []⟩,
  ⟨⟨some 4, Op.binOp BinOp.eql 25 (Operand.tmp 3) (Operand.const (Value.slice none 0 0)) 25, none⟩, []⟩]) (.cond (Operand.tmp 4) (.seq (.reg [⟨⟨some 2, Op.assign (Operand.const (Value.slice none 0 0)), none⟩, []⟩]) .ret) .skip)) (.seq (.reg [⟨⟨some 5, Op.buildSlice 25 0 #[], none⟩, []⟩,
  ⟨⟨some 6, Op.move (Operand.tmp 0), none⟩, []⟩,
  ⟨⟨some 7, Op.call { callee := (Callee.builtin Builtin.append), args := #[(Operand.tmp 5), (Operand.tmp 6)], argTypes := #[25, 25] }, none⟩, []⟩,
  ⟨⟨some 2, Op.assign (Operand.tmp 7), none⟩, []⟩]) .ret)))
theorem sl61 : slim Try.f61.ntmps ords61 (Try.f61.body.getD .skip) = some cd61 := by kernel_rfl
theorem in61 {args : List Value} {H : AH} {R : Value → AH → Prop} (hl : args.length = 1) (h : ∀ (Q : Exit → Sl → AH → Prop), (∀ e s H, endA Try.prog [ResultVar.tmp 2] R e s H → Q e s H) → wpC Try.prog cd61 Q (enterA args) H) : ACalls Try.prog 61 args H R :=
  ACalls.intro (by kernel_rfl) Try.func61 rfl (by kernel_rfl) sl61 hl (of_decide_eq_true (by kernel_rfl)) (by kernel_rfl) h

/- slices.Reverse[[]int,int] -/
def ords62 : List (Nat × List (Nat × Bool)) := [(3, [(0, false), (1, false), (2, false), (3, false), (4, false), (5, false), (6, false), (7, false), (8, false), (9, false), (10, false), (11, false), (12, false), (13, true), (14, false), (15, true)])]
def cd62 : Cd := (.seq (.reg [⟨⟨some 4, Op.move (Operand.tmp 0), none⟩, []⟩,
  ⟨⟨some 5, Op.call { callee := (Callee.builtin Builtin.len), args := #[(Operand.tmp 4)], argTypes := #[25] }, none⟩, []⟩,
  ⟨⟨some 6, Op.binOp BinOp.sub 3 (Operand.tmp 5) (Operand.const (Value.int IntKind.i64 1)) 3, none⟩, []⟩,
  ⟨⟨some 2, Op.assign (Operand.const (Value.int IntKind.i64 0)), none⟩, []⟩,
  ⟨⟨some 3, Op.assign (Operand.tmp 6), none⟩, []⟩]) (.block 0 (.loop (.seq (.seq (.reg [⟨⟨some 7, Op.move (Operand.tmp 2), none⟩, []⟩,
  ⟨⟨some 8, Op.move (Operand.tmp 3), none⟩, []⟩,
  ⟨⟨some 9, Op.binOp BinOp.lss 3 (Operand.tmp 7) (Operand.tmp 8) 3, none⟩, []⟩]) (.cond (Operand.tmp 9) .skip (.exit 0))) (.seq (.block 1 (.reg [⟨⟨some 14, Op.move (Operand.tmp 0), none⟩, []⟩,
  ⟨⟨some 15, Op.move (Operand.tmp 2), none⟩, []⟩,
  ⟨⟨some 16, Op.move (Operand.tmp 0), none⟩, []⟩,
  ⟨⟨some 17, Op.move (Operand.tmp 3), none⟩, []⟩,
  ⟨⟨some 18, Op.move (Operand.tmp 0), none⟩, []⟩,
  ⟨⟨some 19, Op.move (Operand.tmp 3), none⟩, []⟩,
  ⟨⟨some 20, Op.indexAddr 25 (Operand.tmp 18) (Operand.tmp 19), none⟩, []⟩,
  ⟨⟨some 21, Op.load 3 (Operand.tmp 20), none⟩, []⟩,
  ⟨⟨some 22, Op.move (Operand.tmp 0), none⟩, []⟩,
  ⟨⟨some 23, Op.move (Operand.tmp 2), none⟩, []⟩,
  ⟨⟨some 24, Op.indexAddr 25 (Operand.tmp 22) (Operand.tmp 23), none⟩, []⟩,
  ⟨⟨some 25, Op.load 3 (Operand.tmp 24), none⟩, []⟩,
  ⟨⟨some 26, Op.indexAddr 25 (Operand.tmp 14) (Operand.tmp 15), none⟩, []⟩,
  ⟨⟨none, Op.store 3 (Operand.tmp 26) (Operand.tmp 21), none⟩, []⟩,
  ⟨⟨some 27, Op.indexAddr 25 (Operand.tmp 16) (Operand.tmp 17), none⟩, []⟩,
  ⟨⟨none, Op.store 3 (Operand.tmp 27) (Operand.tmp 25), none⟩, []⟩])) (.reg [⟨⟨some 10, Op.move (Operand.tmp 2), none⟩, []⟩,
  ⟨⟨some 11, Op.binOp BinOp.add 3 (Operand.tmp 10) (Operand.const (Value.int IntKind.i64 1)) 3, none⟩, []⟩,
  ⟨⟨some 12, Op.move (Operand.tmp 3), none⟩, []⟩,
  ⟨⟨some 13, Op.binOp BinOp.sub 3 (Operand.tmp 12) (Operand.const (Value.int IntKind.i64 1)) 3, none⟩, []⟩,
  ⟨⟨some 2, Op.assign (Operand.tmp 11), none⟩, []⟩,
  ⟨⟨some 3, Op.assign (Operand.tmp 13), none⟩, []⟩]))))))
theorem sl62 : slim Try.f62.ntmps ords62 (Try.f62.body.getD .skip) = some cd62 := by kernel_rfl
theorem in62 {args : List Value} {H : AH} {R : Value → AH → Prop} (hl : args.length = 1) (h : ∀ (Q : Exit → Sl → AH → Prop), (∀ e s H, endA Try.prog [] R e s H → Q e s H) → wpC Try.prog cd62 Q (enterA args) H) : ACalls Try.prog 62 args H R :=
  ACalls.intro (by kernel_rfl) Try.func62 rfl (by kernel_rfl) sl62 hl (of_decide_eq_true (by kernel_rfl)) (by kernel_rfl) h

/- loop.example/g01128/spec.BackWalk -/
def ords34 : List (Nat × List (Nat × Bool)) := []
def cd34 : Cd := (.seq (.reg [⟨⟨some 4, Op.assign (Operand.const (Value.slice none 0 0)), none⟩, []⟩,
  ⟨⟨some 5, Op.assign (Operand.const (Value.bool false)), none⟩, []⟩]) (.seq (.reg [⟨⟨some 8, Op.buildSlice 25 0 #[], none⟩, []⟩,
  ⟨⟨some 6, Op.assign (Operand.tmp 8), none⟩, []⟩]) (.seq (.seq (.reg [⟨⟨some 9, Op.move (Operand.tmp 0), none⟩, []⟩,
  ⟨⟨some 10, Op.move (Operand.tmp 1), none⟩, []⟩,
  ⟨⟨some 11, Op.call { callee := (Callee.value (Operand.func 46)), args := #[(Operand.tmp 9), (Operand.tmp 10)], argTypes := #[3, 25] }, none⟩, []⟩,
  ⟨⟨some 12, Op.unOp UnOp.not 4 (Operand.tmp 11), none⟩, []⟩]) (.cond (Operand.tmp 12) (.seq (.reg [⟨⟨some 13, Op.move (Operand.tmp 6), none⟩, []⟩,
  ⟨⟨some 4, Op.assign (Operand.tmp 13), none⟩, []⟩,
  ⟨⟨some 5, Op.assign (Operand.const (Value.bool false)), none⟩, []⟩]) .ret) .skip)) (.seq (.seq (.reg [⟨⟨some 14, Op.move (Operand.tmp 1), none⟩, []⟩,
  ⟨⟨some 15, Op.call { callee := (Callee.builtin Builtin.len), args := #[(Operand.tmp 14)], argTypes := #[25] }, none⟩, []⟩,
  ⟨⟨some 16, Op.binOp BinOp.sub 3 (Operand.tmp 15) (Operand.const (Value.int IntKind.i64 1)) 3, none⟩, []⟩,
  ⟨⟨some 7, Op.assign (Operand.tmp 16), none⟩, []⟩]) (.block 0 (.loop (.seq (.seq (.reg [⟨⟨some 17, Op.move (Operand.tmp 7), none⟩, []⟩,
  ⟨⟨some 18, Op.binOp BinOp.geq 3 (Operand.tmp 17) (Operand.const (Value.int IntKind.i64 0)) 3, none⟩, []⟩]) (.cond (Operand.tmp 18) .skip (.exit 0))) (.seq (.block 1 (.reg [⟨⟨some 21, Op.move (Operand.tmp 6), none⟩, []⟩,
  ⟨⟨some 22, Op.move (Operand.tmp 1), none⟩, []⟩,
  ⟨⟨some 23, Op.move (Operand.tmp 7), none⟩, []⟩,
  ⟨⟨some 24, Op.indexAddr 25 (Operand.tmp 22) (Operand.tmp 23), none⟩, []⟩,
  ⟨⟨some 25, Op.load 3 (Operand.tmp 24), none⟩, []⟩,
  ⟨⟨some 26, Op.buildSlice 25 1 #[(0, (Operand.tmp 25))], none⟩, []⟩,
  ⟨⟨some 27, Op.call { callee := (Callee.builtin Builtin.append), args := #[(Operand.tmp 21), (Operand.tmp 26)], argTypes := #[25, 25] }, none⟩, []⟩,
  ⟨⟨some 6, Op.assign (Operand.tmp 27), none⟩, []⟩])) (.reg [⟨⟨some 19, Op.move (Operand.tmp 7), none⟩, []⟩,
  ⟨⟨some 20, Op.binOp BinOp.sub 3 (Operand.tmp 19) (Operand.const (Value.int IntKind.i64 1)) 3, none⟩, []⟩,
  ⟨⟨some 7, Op.assign (Operand.tmp 20), none⟩, []⟩])))))) (.seq (.reg [⟨⟨some 28, Op.move (Operand.tmp 6), none⟩, []⟩,
  ⟨⟨some 4, Op.assign (Operand.tmp 28), none⟩, []⟩,
  ⟨⟨some 5, Op.assign (Operand.const (Value.bool true)), none⟩, []⟩]) .ret)))))
theorem sl34 : slim Try.f34.ntmps ords34 (Try.f34.body.getD .skip) = some cd34 := by kernel_rfl
theorem in34 {args : List Value} {H : AH} {R : Value → AH → Prop} (hl : args.length = 2) (h : ∀ (Q : Exit → Sl → AH → Prop), (∀ e s H, endA Try.prog [ResultVar.tmp 4, ResultVar.tmp 5] R e s H → Q e s H) → wpC Try.prog cd34 Q (enterA args) H) : ACalls Try.prog 34 args H R :=
  ACalls.intro (by kernel_rfl) Try.func34 rfl (by kernel_rfl) sl34 hl (of_decide_eq_true (by kernel_rfl)) (by kernel_rfl) h

/- loop.example/g01128/impl.BackWalk -/
def ords35 : List (Nat × List (Nat × Bool)) := []
def cd35 : Cd := (.seq (.reg [⟨⟨some 4, Op.assign (Operand.const (Value.slice none 0 0)), none⟩, []⟩,
  ⟨⟨some 5, Op.assign (Operand.const (Value.bool false)), none⟩, []⟩]) (.seq (.seq (.reg [⟨⟨some 10, Op.move (Operand.tmp 0), none⟩, []⟩,
  ⟨⟨some 11, Op.move (Operand.tmp 1), none⟩, []⟩,
  ⟨⟨some 12, Op.call { callee := (Callee.value (Operand.func 18)), args := #[(Operand.tmp 10), (Operand.tmp 11), (Operand.const (Value.bool true))], argTypes := #[3, 25, 4] }, none⟩, []⟩,
  ⟨⟨some 9, Op.move (Operand.tmp 12), none⟩, []⟩,
  ⟨⟨some 13, Op.extract (Operand.tmp 9) 0, none⟩, []⟩,
  ⟨⟨some 14, Op.extract (Operand.tmp 9) 1, none⟩, []⟩,
  ⟨⟨some 6, Op.assign (Operand.tmp 13), none⟩, []⟩,
  ⟨⟨some 7, Op.assign (Operand.tmp 14), none⟩, []⟩]) (.seq (.reg [⟨⟨some 15, Op.move (Operand.tmp 6), none⟩, []⟩,
  ⟨⟨some 16, Op.unOp UnOp.not 4 (Operand.tmp 15), none⟩, []⟩]) (.cond (Operand.tmp 16) (.seq (.reg [⟨⟨some 4, Op.assign (Operand.const (Value.slice none 0 0)), none⟩, []⟩,
  ⟨⟨some 5, Op.assign (Operand.const (Value.bool false)), none⟩, []⟩]) .ret) .skip))) (.seq (.reg [⟨⟨some 17, Op.move (Operand.tmp 1), none⟩, []⟩,
  ⟨⟨some 18, Op.call { callee := (Callee.value (Operand.func 61)), args := #[(Operand.tmp 17)], argTypes := #[25] }, none⟩, []⟩,
  ⟨⟨some 8, Op.assign (Operand.tmp 18), none⟩, []⟩]) (.seq (.reg [⟨⟨some 19, Op.move (Operand.tmp 8), none⟩, []⟩,
  ⟨⟨some 20, Op.call { callee := (Callee.value (Operand.func 62)), args := #[(Operand.tmp 19)], argTypes := #[25] }, none⟩, []⟩]) (.seq (.reg [⟨⟨some 21, Op.move (Operand.tmp 8), none⟩, []⟩,
  ⟨⟨some 4, Op.assign (Operand.tmp 21), none⟩, []⟩,
  ⟨⟨some 5, Op.assign (Operand.const (Value.bool true)), none⟩, []⟩]) .ret)))))
theorem sl35 : slim Try.f35.ntmps ords35 (Try.f35.body.getD .skip) = some cd35 := by kernel_rfl
theorem in35 {args : List Value} {H : AH} {R : Value → AH → Prop} (hl : args.length = 2) (h : ∀ (Q : Exit → Sl → AH → Prop), (∀ e s H, endA Try.prog [ResultVar.tmp 4, ResultVar.tmp 5] R e s H → Q e s H) → wpC Try.prog cd35 Q (enterA args) H) : ACalls Try.prog 35 args H R :=
  ACalls.intro (by kernel_rfl) Try.func35 rfl (by kernel_rfl) sl35 hl (of_decide_eq_true (by kernel_rfl)) (by kernel_rfl) h
end Go.Proofs.Ytedlnjcfacadgaa.Ai
