/- Slim code of this translation. By the kernel. -/
import Derived.Test.YtahakecifgjcnaaProg
import Derived.Test.YtahakecifgjcnaaAiM2
import Derived.KernelRfl
namespace Go.Proofs.Ytahakecifgjcnaa.Ai
open Go

/- loop.example/g01128/spec.l1Put -/
def ords70 : List (Nat × List (Nat × Bool)) := [(6, [(0, false), (1, false), (2, false), (3, false), (5, false), (6, false), (8, false), (9, false), (10, false), (4, true), (7, true), (11, true), (12, false)])]
def cd70 : Cd := (.seq (.reg [⟨⟨some 4, Op.assign (Operand.const (Value.slice none 0 0)), none⟩, []⟩]) (.seq (.reg [⟨⟨some 5, Op.assign (Operand.const (Value.int IntKind.i64 0)), none⟩, []⟩]) (.seq (.block 0 (.loop (.seq (.seq (.reg [⟨⟨some 6, Op.move (Operand.tmp 5), none⟩, []⟩,
  ⟨⟨some 7, Op.move (Operand.tmp 0), none⟩, []⟩,
  ⟨⟨some 8, Op.call { callee := (Callee.builtin Builtin.len), args := #[(Operand.tmp 7)], argTypes := #[22] }, none⟩, []⟩,
  ⟨⟨some 9, Op.binOp BinOp.lss 3 (Operand.tmp 6) (Operand.tmp 8) 3, none⟩, []⟩,
  ⟨⟨some 10, Op.move (Operand.tmp 9), none⟩, []⟩,
  ⟨⟨some 11, Op.move (Operand.tmp 0), some (10, true)⟩, []⟩,
  ⟨⟨some 12, Op.move (Operand.tmp 5), some (10, true)⟩, []⟩,
  ⟨⟨some 13, Op.indexAddr 22 (Operand.tmp 11) (Operand.tmp 12), some (10, true)⟩, []⟩,
  ⟨⟨some 14, Op.load 3 (Operand.tmp 13), some (10, true)⟩, []⟩,
  ⟨⟨some 15, Op.move (Operand.tmp 1), some (10, true)⟩, []⟩,
  ⟨⟨some 16, Op.binOp BinOp.lss 3 (Operand.tmp 14) (Operand.tmp 15) 3, some (10, true)⟩, []⟩,
  ⟨⟨some 17, Op.pick (Operand.tmp 10) (Operand.tmp 16) (Operand.const (Value.bool false)), none⟩, []⟩]) (.cond (Operand.tmp 17) .skip (.exit 0))) (.block 1 (.reg [⟨⟨some 18, Op.move (Operand.tmp 5), none⟩, []⟩,
  ⟨⟨some 19, Op.binOp BinOp.add 3 (Operand.tmp 18) (Operand.const (Value.int IntKind.i64 1)) 3, none⟩, []⟩,
  ⟨⟨some 5, Op.assign (Operand.tmp 19), none⟩, []⟩]))))) (.seq (.seq (.reg [⟨⟨some 20, Op.move (Operand.tmp 5), none⟩, []⟩,
  ⟨⟨some 21, Op.move (Operand.tmp 0), none⟩, []⟩,
  ⟨⟨some 22, Op.call { callee := (Callee.builtin Builtin.len), args := #[(Operand.tmp 21)], argTypes := #[22] }, none⟩, []⟩,
  ⟨⟨some 23, Op.binOp BinOp.lss 3 (Operand.tmp 20) (Operand.tmp 22) 3, none⟩, []⟩,
  ⟨⟨some 24, Op.move (Operand.tmp 23), none⟩, []⟩,
  ⟨⟨some 25, Op.move (Operand.tmp 0), some (24, true)⟩, []⟩,
  ⟨⟨some 26, Op.move (Operand.tmp 5), some (24, true)⟩, []⟩,
  ⟨⟨some 27, Op.indexAddr 22 (Operand.tmp 25) (Operand.tmp 26), some (24, true)⟩, []⟩,
  ⟨⟨some 28, Op.load 3 (Operand.tmp 27), some (24, true)⟩, []⟩,
  ⟨⟨some 29, Op.move (Operand.tmp 1), some (24, true)⟩, []⟩,
  ⟨⟨some 30, Op.binOp BinOp.eql 3 (Operand.tmp 28) (Operand.tmp 29) 3, some (24, true)⟩, []⟩,
  ⟨⟨some 31, Op.pick (Operand.tmp 24) (Operand.tmp 30) (Operand.const (Value.bool false)), none⟩, []⟩]) (.cond (Operand.tmp 31) (.seq (.reg [⟨⟨some 32, Op.move (Operand.tmp 0), none⟩, []⟩,
  ⟨⟨some 4, Op.assign (Operand.tmp 32), none⟩, []⟩]) .ret) .skip)) (.seq (.reg [⟨⟨some 33, Op.buildSlice 22 0 #[], none⟩, []⟩,
  ⟨⟨some 34, Op.move (Operand.tmp 0), none⟩, []⟩,
  ⟨⟨some 35, Op.move (Operand.tmp 5), none⟩, []⟩,
  ⟨⟨some 36, Op.slice 22 (Operand.tmp 34) none (some (Operand.tmp 35)) none, none⟩, []⟩,
  ⟨⟨some 38, Op.move (Operand.tmp 1), none⟩, []⟩,
  ⟨⟨some 39, Op.buildSlice 22 1 #[(0, (Operand.tmp 38))], none⟩, []⟩,
  ⟨⟨some 41, Op.move (Operand.tmp 0), none⟩, []⟩,
  ⟨⟨some 42, Op.move (Operand.tmp 5), none⟩, []⟩,
  ⟨⟨some 43, Op.slice 22 (Operand.tmp 41) (some (Operand.tmp 42)) none none, none⟩, []⟩,
  ⟨⟨some 37, Op.call { callee := (Callee.builtin Builtin.append), args := #[(Operand.tmp 33), (Operand.tmp 36)], argTypes := #[22, 22] }, none⟩, [⟨some 43, Op.slice 22 (Operand.tmp 41) (some (Operand.tmp 42)) none none, none⟩, ⟨some 39, Op.buildSlice 22 1 #[(0, (Operand.tmp 38))], none⟩]⟩,
  ⟨⟨some 40, Op.call { callee := (Callee.builtin Builtin.append), args := #[(Operand.tmp 37), (Operand.tmp 39)], argTypes := #[22, 22] }, none⟩, [⟨some 43, Op.slice 22 (Operand.tmp 41) (some (Operand.tmp 42)) none none, none⟩]⟩,
  ⟨⟨some 44, Op.call { callee := (Callee.builtin Builtin.append), args := #[(Operand.tmp 40), (Operand.tmp 43)], argTypes := #[22, 22] }, none⟩, []⟩,
  ⟨⟨some 4, Op.assign (Operand.tmp 44), none⟩, []⟩]) .ret)))))
theorem sl70 : slim Try.f70.ntmps ords70 (Try.f70.body.getD .skip) = some cd70 := by kernel_rfl
theorem in70 {args : List Value} {H : AH} {R : Value → AH → Prop} (hl : args.length = 2) (h : ∀ (Q : Exit → Sl → AH → Prop), (∀ e s H, endA Try.prog [ResultVar.tmp 4] R e s H → Q e s H) → wpC Try.prog cd70 Q (enterA args) H) : ACalls Try.prog 70 args H R :=
  ACalls.intro (by kernel_rfl) Try.func70 rfl (by kernel_rfl) sl70 hl (of_decide_eq_true (by kernel_rfl)) (by kernel_rfl) h
end Go.Proofs.Ytahakecifgjcnaa.Ai
