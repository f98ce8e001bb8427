/- Slim code of this translation. By the kernel. -/
import Derived.Test.YtahakecifgjcnaaProg
import Derived.Test.YtahakecifgjcnaaAiM2
import Derived.KernelRfl
namespace Go.Proofs.Ytahakecifgjcnaa.Ai
open Go

/- loop.example/g01128/impl.isTriangulation$1 -/
def ords126 : List (Nat × List (Nat × Bool)) := []
def cd126 : Cd := (.seq (.reg [⟨⟨some 3, Op.assign (Operand.const (Value.bool false)), none⟩, []⟩]) (.seq (.reg [⟨⟨some 4, Op.load 3 (Operand.tmp 1), none⟩, []⟩,
  ⟨⟨some 5, Op.move (Operand.tmp 0), none⟩, []⟩,
  ⟨⟨some 6, Op.call { callee := (Callee.value (Operand.func 127)), args := #[(Operand.tmp 4), (Operand.tmp 5)], argTypes := #[3, 3] }, none⟩, []⟩,
  ⟨⟨some 3, Op.assign (Operand.tmp 6), none⟩, []⟩]) .ret))
theorem sl126 : slim Try.f126.ntmps ords126 (Try.f126.body.getD .skip) = some cd126 := by kernel_rfl
theorem in126 {args : List Value} {H : AH} {R : Value → AH → Prop} (hl : args.length = 2) (h : ∀ (Q : Exit → Sl → AH → Prop), (∀ e s H, endA Try.prog [ResultVar.tmp 3] R e s H → Q e s H) → wpC Try.prog cd126 Q (enterA args) H) : ACalls Try.prog 126 args H R :=
  ACalls.intro (by kernel_rfl) Try.func126 rfl (by kernel_rfl) sl126 hl (of_decide_eq_true (by kernel_rfl)) (by kernel_rfl) h

/- loop.example/g01128/impl.isTriangulation -/
def ords77 : List (Nat × List (Nat × Bool)) := [(6, [(0, false), (1, false), (2, true), (3, false), (4, false), (5, false), (6, false), (7, false), (8, false), (9, false), (10, false), (11, false), (12, false), (13, false), (14, false), (15, false), (16, false), (17, false), (18, false), (19, false), (20, false), (21, false), (22, true), (23, false)])]
def cd77 : Cd := (.seq (.reg [⟨⟨some 4, Op.assign (Operand.const (Value.bool false)), none⟩, []⟩]) (.seq (.seq (.reg [⟨⟨some 7, Op.move (Operand.tmp 1), none⟩, []⟩,
  ⟨⟨some 8, Op.call { callee := (Callee.builtin Builtin.len), args := #[(Operand.tmp 7)], argTypes := #[22] }, none⟩, []⟩,
  ⟨⟨some 9, Op.move (Operand.tmp 0), none⟩, []⟩,
  ⟨⟨some 10, Op.binOp BinOp.sub 3 (Operand.tmp 9) (Operand.const (Value.int IntKind.i64 3)) 3, none⟩, []⟩,
  ⟨⟨some 11, Op.binOp BinOp.neq 3 (Operand.tmp 8) (Operand.tmp 10) 3, none⟩, []⟩]) (.cond (Operand.tmp 11) (.seq (.reg [⟨⟨some 4, Op.assign (Operand.const (Value.bool false)), none⟩, []⟩]) .ret) .skip)) (.seq (.seq (.reg [⟨⟨some 12, Op.move (Operand.tmp 1), none⟩, []⟩,
  ⟨⟨some 13, Op.call { callee := (Callee.builtin Builtin.len), args := #[(Operand.tmp 12)], argTypes := #[22] }, none⟩, []⟩,
  ⟨⟨some 14, Op.move (Operand.const (Value.int IntKind.i64 0)), none⟩, []⟩]) (.block 0 (.loop (.seq (.reg [⟨⟨some 15, Op.binOp BinOp.lss 3 (Operand.tmp 14) (Operand.tmp 13) 3, none⟩, []⟩]) (.seq (.cond (Operand.tmp 15) .skip (.exit 0)) (.seq (.block 1 (.seq (.reg [⟨⟨some 16, Op.move (Operand.tmp 14), none⟩, []⟩,
  ⟨⟨some 17, Op.indexAddr 22 (Operand.tmp 12) (Operand.tmp 14), none⟩, []⟩,
  ⟨⟨some 18, Op.load 3 (Operand.tmp 17), none⟩, []⟩,
  ⟨⟨some 6, Op.alloc 3, none⟩, []⟩,
  ⟨⟨some 5, Op.assign (Operand.tmp 16), none⟩, []⟩,
  ⟨⟨none, Op.store 3 (Operand.tmp 6) (Operand.tmp 18), none⟩, []⟩]) (.seq (.reg [⟨⟨some 19, Op.move (Operand.tmp 0), none⟩, []⟩,
  ⟨⟨some 20, Op.load 3 (Operand.tmp 6), none⟩, []⟩,
  ⟨⟨some 21, Op.call { callee := (Callee.value (Operand.func 121)), args := #[(Operand.tmp 19), (Operand.tmp 20)], argTypes := #[3, 3] }, none⟩, []⟩,
  ⟨⟨some 22, Op.unOp UnOp.not 4 (Operand.tmp 21), none⟩, []⟩,
  ⟨⟨some 23, Op.move (Operand.tmp 22), none⟩, []⟩,
  ⟨⟨some 24, Op.move (Operand.tmp 5), some (23, false)⟩, []⟩,
  ⟨⟨some 25, Op.binOp BinOp.gtr 3 (Operand.tmp 24) (Operand.const (Value.int IntKind.i64 0)) 3, some (23, false)⟩, []⟩,
  ⟨⟨some 26, Op.move (Operand.tmp 25), some (23, false)⟩, []⟩,
  ⟨⟨some 27, Op.load 3 (Operand.tmp 6), some (26, true)⟩, []⟩,
  ⟨⟨some 28, Op.move (Operand.tmp 1), some (26, true)⟩, []⟩,
  ⟨⟨some 29, Op.move (Operand.tmp 5), some (26, true)⟩, []⟩,
  ⟨⟨some 30, Op.binOp BinOp.sub 3 (Operand.tmp 29) (Operand.const (Value.int IntKind.i64 1)) 3, some (26, true)⟩, []⟩,
  ⟨⟨some 31, Op.indexAddr 22 (Operand.tmp 28) (Operand.tmp 30), some (26, true)⟩, []⟩,
  ⟨⟨some 32, Op.load 3 (Operand.tmp 31), some (26, true)⟩, []⟩,
  ⟨⟨some 33, Op.binOp BinOp.leq 3 (Operand.tmp 27) (Operand.tmp 32) 3, some (26, true)⟩, []⟩,
  ⟨⟨some 34, Op.pick (Operand.tmp 26) (Operand.tmp 33) (Operand.const (Value.bool false)), some (23, false)⟩, []⟩,
  ⟨⟨some 35, Op.pick (Operand.tmp 23) (Operand.const (Value.bool true)) (Operand.tmp 34), none⟩, []⟩,
  ⟨⟨some 36, Op.move (Operand.tmp 35), none⟩, []⟩,
  ⟨⟨some 37, Op.move (Operand.tmp 1), some (36, false)⟩, []⟩,
  ⟨⟨some 38, Op.move (Operand.tmp 5), some (36, false)⟩, []⟩,
  ⟨⟨some 39, Op.slice 22 (Operand.tmp 37) none (some (Operand.tmp 38)) none, some (36, false)⟩, []⟩,
  ⟨⟨some 40, Op.makeFunc (Fn.func 126) #[] #[(Operand.tmp 6)], some (36, false)⟩, []⟩,
  ⟨⟨some 41, Op.call { callee := (Callee.value (Operand.func 125)), args := #[(Operand.tmp 39), (Operand.tmp 40)], argTypes := #[22, 54] }, some (36, false)⟩, []⟩,
  ⟨⟨some 42, Op.pick (Operand.tmp 36) (Operand.const (Value.bool true)) (Operand.tmp 41), none⟩, []⟩]) (.cond (Operand.tmp 42) (.seq (.reg [⟨⟨some 4, Op.assign (Operand.const (Value.bool false)), none⟩, []⟩]) .ret) .skip)))) (.reg [⟨⟨some 43, Op.binOp BinOp.add 3 (Operand.tmp 14) (Operand.const (Value.int IntKind.i64 1)) 3, none⟩, []⟩,
  ⟨⟨some 14, Op.move (Operand.tmp 43), none⟩, []⟩]))))))) (.seq (.reg [⟨⟨some 4, Op.assign (Operand.const (Value.bool true)), none⟩, []⟩]) .ret))))
theorem sl77 : slim Try.f77.ntmps ords77 (Try.f77.body.getD .skip) = some cd77 := by kernel_rfl
theorem in77 {args : List Value} {H : AH} {R : Value → AH → Prop} (hl : args.length = 2) (h : ∀ (Q : Exit → Sl → AH → Prop), (∀ e s H, endA Try.prog [ResultVar.tmp 4] R e s H → Q e s H) → wpC Try.prog cd77 Q (enterA args) H) : ACalls Try.prog 77 args H R :=
  ACalls.intro (by kernel_rfl) Try.func77 rfl (by kernel_rfl) sl77 hl (of_decide_eq_true (by kernel_rfl)) (by kernel_rfl) h
end Go.Proofs.Ytahakecifgjcnaa.Ai
