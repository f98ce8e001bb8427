/- Slim code of this translation. By the kernel. -/
import Derived.Test.YtahakecifgjcnaaProg
import Derived.Test.YtahakecifgjcnaaAiM2
import Derived.KernelRfl
namespace Go.Proofs.Ytahakecifgjcnaa.Ai
open Go

/- loop.example/g01128/impl.isTokens -/
def ords113 : List (Nat × List (Nat × Bool)) := []
def cd113 : Cd := (.seq (.reg [⟨⟨some 2, Op.box 41 (Operand.tmp 0), none⟩, []⟩,
  ⟨⟨some 4, Op.assign (Operand.const (Value.bool false)), none⟩, []⟩]) (.seq (.reg [⟨⟨some 5, Op.load 41 (Operand.tmp 2), none⟩, []⟩,
  ⟨⟨some 6, Op.call { callee := (Callee.value (Operand.func 80)), args := #[(Operand.tmp 5)], argTypes := #[41] }, none⟩, []⟩,
  ⟨⟨some 7, Op.move (Operand.tmp 6), none⟩, []⟩,
  ⟨⟨some 8, Op.move (Operand.tmp 1), some (7, true)⟩, []⟩,
  ⟨⟨some 9, Op.call { callee := (Callee.value (Operand.func 61)), args := #[(Operand.tmp 8)], argTypes := #[22] }, some (7, true)⟩, []⟩,
  ⟨⟨some 10, Op.pick (Operand.tmp 7) (Operand.tmp 9) (Operand.const (Value.bool false)), none⟩, []⟩,
  ⟨⟨some 11, Op.move (Operand.tmp 10), none⟩, []⟩,
  ⟨⟨some 12, Op.move (Operand.tmp 1), some (11, true)⟩, []⟩,
  ⟨⟨some 13, Op.call { callee := (Callee.builtin Builtin.len), args := #[(Operand.tmp 12)], argTypes := #[22] }, some (11, true)⟩, []⟩,
  ⟨⟨some 14, Op.fieldAddr 41 (Operand.tmp 2) 0, some (11, true)⟩, []⟩,
  ⟨⟨some 15, Op.load 3 (Operand.tmp 14), some (11, true)⟩, []⟩,
  ⟨⟨some 16, Op.binOp BinOp.eql 3 (Operand.tmp 13) (Operand.tmp 15) 3, some (11, true)⟩, []⟩,
  ⟨⟨some 17, Op.pick (Operand.tmp 11) (Operand.tmp 16) (Operand.const (Value.bool false)), none⟩, []⟩,
  ⟨⟨some 4, Op.assign (Operand.tmp 17), none⟩, []⟩]) .ret))
theorem sl113 : slim Try.f113.ntmps ords113 (Try.f113.body.getD .skip) = some cd113 := by kernel_rfl
theorem in113 {args : List Value} {H : AH} {R : Value → AH → Prop} (hl : args.length = 2) (h : ∀ (Q : Exit → Sl → AH → Prop), (∀ e s H, endA Try.prog [ResultVar.tmp 4] R e s H → Q e s H) → wpC Try.prog cd113 Q (enterA args) H) : ACalls Try.prog 113 args H R :=
  ACalls.intro (by kernel_rfl) Try.func113 rfl (by kernel_rfl) sl113 hl (of_decide_eq_true (by kernel_rfl)) (by kernel_rfl) h

/- loop.example/g01128/impl.isBoard -/
def ords101 : List (Nat × List (Nat × Bool)) := []
def cd101 : Cd := (.seq (.reg [⟨⟨some 2, Op.box 41 (Operand.tmp 0), none⟩, []⟩,
  ⟨⟨some 4, Op.assign (Operand.const (Value.bool false)), none⟩, []⟩]) (.seq (.reg [⟨⟨some 5, Op.load 41 (Operand.tmp 2), none⟩, []⟩,
  ⟨⟨some 6, Op.move (Operand.tmp 1), none⟩, []⟩,
  ⟨⟨some 7, Op.call { callee := (Callee.value (Operand.func 113)), args := #[(Operand.tmp 5), (Operand.tmp 6)], argTypes := #[41, 22] }, none⟩, []⟩,
  ⟨⟨some 8, Op.move (Operand.tmp 7), none⟩, []⟩,
  ⟨⟨some 9, Op.fieldAddr 41 (Operand.tmp 2) 0, some (8, true)⟩, []⟩,
  ⟨⟨some 10, Op.load 3 (Operand.tmp 9), some (8, true)⟩, []⟩,
  ⟨⟨some 11, Op.call { callee := (Callee.value (Operand.func 130)), args := #[(Operand.tmp 10), (Operand.const (Value.int IntKind.i64 1)), (Operand.const (Value.int IntKind.i64 6))], argTypes := #[3, 3, 3] }, some (8, true)⟩, []⟩,
  ⟨⟨some 12, Op.pick (Operand.tmp 8) (Operand.tmp 11) (Operand.const (Value.bool false)), none⟩, []⟩,
  ⟨⟨some 4, Op.assign (Operand.tmp 12), none⟩, []⟩]) .ret))
theorem sl101 : slim Try.f101.ntmps ords101 (Try.f101.body.getD .skip) = some cd101 := by kernel_rfl
theorem in101 {args : List Value} {H : AH} {R : Value → AH → Prop} (hl : args.length = 2) (h : ∀ (Q : Exit → Sl → AH → Prop), (∀ e s H, endA Try.prog [ResultVar.tmp 4] R e s H → Q e s H) → wpC Try.prog cd101 Q (enterA args) H) : ACalls Try.prog 101 args H R :=
  ACalls.intro (by kernel_rfl) Try.func101 rfl (by kernel_rfl) sl101 hl (of_decide_eq_true (by kernel_rfl)) (by kernel_rfl) h

/- loop.example/g01128/spec.l9Field -/
def ords104 : List (Nat × List (Nat × Bool)) := []
def cd104 : Cd := (.seq (.reg [⟨⟨some 2, Op.box 41 (Operand.tmp 0), none⟩, []⟩,
  ⟨⟨some 4, Op.assign (Operand.const (Value.bool false)), none⟩, []⟩]) (.seq (.reg [⟨⟨some 5, Op.load 41 (Operand.tmp 2), none⟩, []⟩,
  ⟨⟨some 6, Op.call { callee := (Callee.value (Operand.func 78)), args := #[(Operand.tmp 5)], argTypes := #[41] }, none⟩, []⟩,
  ⟨⟨some 7, Op.move (Operand.tmp 6), none⟩, []⟩,
  ⟨⟨some 8, Op.fieldAddr 41 (Operand.tmp 2) 0, some (7, true)⟩, []⟩,
  ⟨⟨some 9, Op.load 3 (Operand.tmp 8), some (7, true)⟩, []⟩,
  ⟨⟨some 10, Op.binOp BinOp.leq 3 (Operand.tmp 9) (Operand.const (Value.int IntKind.i64 6)) 3, some (7, true)⟩, []⟩,
  ⟨⟨some 11, Op.pick (Operand.tmp 7) (Operand.tmp 10) (Operand.const (Value.bool false)), none⟩, []⟩,
  ⟨⟨some 12, Op.move (Operand.tmp 11), none⟩, []⟩,
  ⟨⟨some 13, Op.move (Operand.tmp 1), some (12, true)⟩, []⟩,
  ⟨⟨some 14, Op.call { callee := (Callee.builtin Builtin.len), args := #[(Operand.tmp 13)], argTypes := #[22] }, some (12, true)⟩, []⟩,
  ⟨⟨some 15, Op.fieldAddr 41 (Operand.tmp 2) 0, some (12, true)⟩, []⟩,
  ⟨⟨some 16, Op.load 3 (Operand.tmp 15), some (12, true)⟩, []⟩,
  ⟨⟨some 17, Op.binOp BinOp.eql 3 (Operand.tmp 14) (Operand.tmp 16) 3, some (12, true)⟩, []⟩,
  ⟨⟨some 18, Op.pick (Operand.tmp 12) (Operand.tmp 17) (Operand.const (Value.bool false)), none⟩, []⟩,
  ⟨⟨some 19, Op.move (Operand.tmp 18), none⟩, []⟩,
  ⟨⟨some 20, Op.move (Operand.tmp 1), some (19, true)⟩, []⟩,
  ⟨⟨some 21, Op.call { callee := (Callee.value (Operand.func 57)), args := #[(Operand.tmp 20)], argTypes := #[22] }, some (19, true)⟩, []⟩,
  ⟨⟨some 22, Op.pick (Operand.tmp 19) (Operand.tmp 21) (Operand.const (Value.bool false)), none⟩, []⟩,
  ⟨⟨some 4, Op.assign (Operand.tmp 22), none⟩, []⟩]) .ret))
theorem sl104 : slim Try.f104.ntmps ords104 (Try.f104.body.getD .skip) = some cd104 := by kernel_rfl
theorem in104 {args : List Value} {H : AH} {R : Value → AH → Prop} (hl : args.length = 2) (h : ∀ (Q : Exit → Sl → AH → Prop), (∀ e s H, endA Try.prog [ResultVar.tmp 4] R e s H → Q e s H) → wpC Try.prog cd104 Q (enterA args) H) : ACalls Try.prog 104 args H R :=
  ACalls.intro (by kernel_rfl) Try.func104 rfl (by kernel_rfl) sl104 hl (of_decide_eq_true (by kernel_rfl)) (by kernel_rfl) h

/- loop.example/g01128/spec.l9Board -/
def ords98 : List (Nat × List (Nat × Bool)) := []
def cd98 : Cd := (.seq (.reg [⟨⟨some 2, Op.box 41 (Operand.tmp 0), none⟩, []⟩,
  ⟨⟨some 4, Op.assign (Operand.const (Value.bool false)), none⟩, []⟩]) (.seq (.reg [⟨⟨some 5, Op.load 41 (Operand.tmp 2), none⟩, []⟩,
  ⟨⟨some 6, Op.move (Operand.tmp 1), none⟩, []⟩,
  ⟨⟨some 7, Op.call { callee := (Callee.value (Operand.func 104)), args := #[(Operand.tmp 5), (Operand.tmp 6)], argTypes := #[41, 22] }, none⟩, []⟩,
  ⟨⟨some 8, Op.move (Operand.tmp 7), none⟩, []⟩,
  ⟨⟨some 9, Op.fieldAddr 41 (Operand.tmp 2) 0, some (8, true)⟩, []⟩,
  ⟨⟨some 10, Op.load 3 (Operand.tmp 9), some (8, true)⟩, []⟩,
  ⟨⟨some 11, Op.binOp BinOp.gtr 3 (Operand.tmp 10) (Operand.const (Value.int IntKind.i64 0)) 3, some (8, true)⟩, []⟩,
  ⟨⟨some 12, Op.pick (Operand.tmp 8) (Operand.tmp 11) (Operand.const (Value.bool false)), none⟩, []⟩,
  ⟨⟨some 4, Op.assign (Operand.tmp 12), none⟩, []⟩]) .ret))
theorem sl98 : slim Try.f98.ntmps ords98 (Try.f98.body.getD .skip) = some cd98 := by kernel_rfl
theorem in98 {args : List Value} {H : AH} {R : Value → AH → Prop} (hl : args.length = 2) (h : ∀ (Q : Exit → Sl → AH → Prop), (∀ e s H, endA Try.prog [ResultVar.tmp 4] R e s H → Q e s H) → wpC Try.prog cd98 Q (enterA args) H) : ACalls Try.prog 98 args H R :=
  ACalls.intro (by kernel_rfl) Try.func98 rfl (by kernel_rfl) sl98 hl (of_decide_eq_true (by kernel_rfl)) (by kernel_rfl) h

/- (loop.example/g01128/impl.Graph).slides -/
def ords102 : List (Nat × List (Nat × Bool)) := []
def cd102 : Cd := (.seq (.reg [⟨⟨some 2, Op.box 41 (Operand.tmp 0), none⟩, []⟩,
  ⟨⟨some 4, Op.assign (Operand.const (Value.slice none 0 0)), none⟩, []⟩,
  ⟨⟨some 5, Op.assign (Operand.const (Value.slice none 0 0)), none⟩, []⟩]) (.seq (.reg [⟨⟨some 11, Op.move (Operand.tmp 1), none⟩, []⟩,
  ⟨⟨some 12, Op.call { callee := (Callee.value (Operand.func 103)), args := #[(Operand.tmp 11), (Operand.const (Value.int IntKind.i64 0))], argTypes := #[22, 3] }, none⟩, []⟩,
  ⟨⟨some 6, Op.assign (Operand.tmp 12), none⟩, []⟩]) (.seq (.reg [⟨⟨some 13, Op.buildSlice 47 0 #[], none⟩, []⟩,
  ⟨⟨some 14, Op.load 41 (Operand.tmp 2), none⟩, []⟩,
  ⟨⟨some 15, Op.move (Operand.tmp 6), none⟩, []⟩,
  ⟨⟨some 16, Op.call { callee := (Callee.value (Operand.func 148)), args := #[(Operand.tmp 14), (Operand.tmp 15)], argTypes := #[41, 3] }, none⟩, []⟩,
  ⟨⟨some 7, Op.assign (Operand.tmp 13), none⟩, []⟩,
  ⟨⟨some 8, Op.assign (Operand.tmp 16), none⟩, []⟩]) (.seq (.seq (.reg [⟨⟨some 17, Op.move (Operand.tmp 8), none⟩, []⟩,
  ⟨⟨some 18, Op.call { callee := (Callee.builtin Builtin.len), args := #[(Operand.tmp 17)], argTypes := #[22] }, none⟩, []⟩,
  ⟨⟨some 19, Op.move (Operand.const (Value.int IntKind.i64 0)), none⟩, []⟩]) (.block 0 (.loop (.seq (.reg [⟨⟨some 20, Op.binOp BinOp.lss 3 (Operand.tmp 19) (Operand.tmp 18) 3, none⟩, []⟩]) (.seq (.cond (Operand.tmp 20) .skip (.exit 0)) (.seq (.block 1 (.seq (.reg [⟨⟨some 21, Op.indexAddr 22 (Operand.tmp 17) (Operand.tmp 19), none⟩, []⟩,
  ⟨⟨some 22, Op.load 3 (Operand.tmp 21), none⟩, []⟩,
  ⟨⟨some 10, Op.assign (Operand.tmp 22), none⟩, []⟩]) (.reg [⟨⟨some 23, Op.move (Operand.tmp 7), none⟩, []⟩,
  ⟨⟨some 24, Op.move (Operand.tmp 1), none⟩, []⟩,
  ⟨⟨some 25, Op.move (Operand.tmp 10), none⟩, []⟩,
  ⟨⟨some 26, Op.move (Operand.tmp 6), none⟩, []⟩,
  ⟨⟨some 27, Op.build 66 #[(0, (Operand.tmp 25)), (1, (Operand.tmp 26))], none⟩, []⟩,
  ⟨⟨some 28, Op.call { callee := (Callee.value (Operand.func 63)), args := #[(Operand.tmp 24), (Operand.tmp 27)], argTypes := #[22, 66] }, none⟩, []⟩,
  ⟨⟨some 29, Op.buildSlice 47 1 #[(0, (Operand.tmp 28))], none⟩, []⟩,
  ⟨⟨some 30, Op.call { callee := (Callee.builtin Builtin.append), args := #[(Operand.tmp 23), (Operand.tmp 29)], argTypes := #[47, 47] }, none⟩, []⟩,
  ⟨⟨some 7, Op.assign (Operand.tmp 30), none⟩, []⟩]))) (.reg [⟨⟨some 31, Op.binOp BinOp.add 3 (Operand.tmp 19) (Operand.const (Value.int IntKind.i64 1)) 3, none⟩, []⟩,
  ⟨⟨some 19, Op.move (Operand.tmp 31), none⟩, []⟩]))))))) (.seq (.reg [⟨⟨some 32, Op.move (Operand.tmp 7), none⟩, []⟩,
  ⟨⟨some 33, Op.move (Operand.tmp 8), none⟩, []⟩,
  ⟨⟨some 4, Op.assign (Operand.tmp 32), none⟩, []⟩,
  ⟨⟨some 5, Op.assign (Operand.tmp 33), none⟩, []⟩]) .ret)))))
theorem sl102 : slim Try.f102.ntmps ords102 (Try.f102.body.getD .skip) = some cd102 := by kernel_rfl
theorem in102 {args : List Value} {H : AH} {R : Value → AH → Prop} (hl : args.length = 2) (h : ∀ (Q : Exit → Sl → AH → Prop), (∀ e s H, endA Try.prog [ResultVar.tmp 4, ResultVar.tmp 5] R e s H → Q e s H) → wpC Try.prog cd102 Q (enterA args) H) : ACalls Try.prog 102 args H R :=
  ACalls.intro (by kernel_rfl) Try.func102 rfl (by kernel_rfl) sl102 hl (of_decide_eq_true (by kernel_rfl)) (by kernel_rfl) h
end Go.Proofs.Ytahakecifgjcnaa.Ai
