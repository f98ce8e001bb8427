/- Slim code of this translation. By the kernel. -/
import Derived.Test.YtahakecifgjcnaaProg
import Derived.Test.YtahakecifgjcnaaAiM2
import Derived.KernelRfl
namespace Go.Proofs.Ytahakecifgjcnaa.Ai
open Go

/- loop.example/g01128/spec.l8Diagonals -/
def ords68 : List (Nat × List (Nat × Bool)) := []
def cd68 : Cd := (.seq (.reg [⟨⟨some 2, Op.assign (Operand.const (Value.slice none 0 0)), none⟩, []⟩]) (.seq (.reg [⟨⟨some 6, Op.buildSlice 22 0 #[], none⟩, []⟩,
  ⟨⟨some 3, Op.assign (Operand.tmp 6), none⟩, []⟩]) (.seq (.seq (.reg [⟨⟨some 4, Op.assign (Operand.const (Value.int IntKind.i64 0)), none⟩, []⟩]) (.block 0 (.loop (.seq (.seq (.reg [⟨⟨some 7, Op.move (Operand.tmp 4), none⟩, []⟩,
  ⟨⟨some 8, Op.move (Operand.tmp 0), none⟩, []⟩,
  ⟨⟨some 9, Op.binOp BinOp.lss 3 (Operand.tmp 7) (Operand.tmp 8) 3, none⟩, []⟩]) (.cond (Operand.tmp 9) .skip (.exit 0))) (.seq (.block 1 (.seq (.reg [⟨⟨some 12, Op.move (Operand.tmp 4), none⟩, []⟩,
  ⟨⟨some 13, Op.binOp BinOp.add 3 (Operand.tmp 12) (Operand.const (Value.int IntKind.i64 2)) 3, none⟩, []⟩,
  ⟨⟨some 5, Op.assign (Operand.tmp 13), none⟩, []⟩]) (.block 2 (.loop (.seq (.seq (.reg [⟨⟨some 14, Op.move (Operand.tmp 5), none⟩, []⟩,
  ⟨⟨some 15, Op.move (Operand.tmp 0), none⟩, []⟩,
  ⟨⟨some 16, Op.binOp BinOp.lss 3 (Operand.tmp 14) (Operand.tmp 15) 3, none⟩, []⟩]) (.cond (Operand.tmp 16) .skip (.exit 2))) (.seq (.block 3 (.seq (.reg [⟨⟨some 19, Op.move (Operand.tmp 4), none⟩, []⟩,
  ⟨⟨some 20, Op.binOp BinOp.gtr 3 (Operand.tmp 19) (Operand.const (Value.int IntKind.i64 0)) 3, none⟩, []⟩,
  ⟨⟨some 21, Op.move (Operand.tmp 20), none⟩, []⟩,
  ⟨⟨some 22, Op.move (Operand.tmp 5), some (21, false)⟩, []⟩,
  ⟨⟨some 23, Op.move (Operand.tmp 0), some (21, false)⟩, []⟩,
  ⟨⟨some 24, Op.binOp BinOp.sub 3 (Operand.tmp 23) (Operand.const (Value.int IntKind.i64 1)) 3, some (21, false)⟩, []⟩,
  ⟨⟨some 25, Op.binOp BinOp.lss 3 (Operand.tmp 22) (Operand.tmp 24) 3, some (21, false)⟩, []⟩,
  ⟨⟨some 26, Op.pick (Operand.tmp 21) (Operand.const (Value.bool true)) (Operand.tmp 25), none⟩, []⟩]) (.cond (Operand.tmp 26) (.reg [⟨⟨some 27, Op.move (Operand.tmp 3), none⟩, []⟩,
  ⟨⟨some 28, Op.move (Operand.tmp 4), none⟩, []⟩,
  ⟨⟨some 29, Op.binOp BinOp.mul 3 (Operand.const (Value.int IntKind.i64 10)) (Operand.tmp 28) 3, none⟩, []⟩,
  ⟨⟨some 30, Op.move (Operand.tmp 5), none⟩, []⟩,
  ⟨⟨some 31, Op.binOp BinOp.add 3 (Operand.tmp 29) (Operand.tmp 30) 3, none⟩, []⟩,
  ⟨⟨some 32, Op.buildSlice 22 1 #[(0, (Operand.tmp 31))], none⟩, []⟩,
  ⟨⟨some 33, Op.call { callee := (Callee.builtin Builtin.append), args := #[(Operand.tmp 27), (Operand.tmp 32)], argTypes := #[22, 22] }, none⟩, []⟩,
  ⟨⟨some 3, Op.assign (Operand.tmp 33), none⟩, []⟩]) .skip))) (.reg [⟨⟨some 17, Op.move (Operand.tmp 5), none⟩, []⟩,
  ⟨⟨some 18, Op.binOp BinOp.add 3 (Operand.tmp 17) (Operand.const (Value.int IntKind.i64 1)) 3, none⟩, []⟩,
  ⟨⟨some 5, Op.assign (Operand.tmp 18), none⟩, []⟩]))))))) (.reg [⟨⟨some 10, Op.move (Operand.tmp 4), none⟩, []⟩,
  ⟨⟨some 11, Op.binOp BinOp.add 3 (Operand.tmp 10) (Operand.const (Value.int IntKind.i64 1)) 3, none⟩, []⟩,
  ⟨⟨some 4, Op.assign (Operand.tmp 11), none⟩, []⟩])))))) (.seq (.reg [⟨⟨some 34, Op.move (Operand.tmp 3), none⟩, []⟩,
  ⟨⟨some 2, Op.assign (Operand.tmp 34), none⟩, []⟩]) .ret))))
theorem sl68 : slim Try.f68.ntmps ords68 (Try.f68.body.getD .skip) = some cd68 := by kernel_rfl
theorem in68 {args : List Value} {H : AH} {R : Value → AH → Prop} (hl : args.length = 1) (h : ∀ (Q : Exit → Sl → AH → Prop), (∀ e s H, endA Try.prog [ResultVar.tmp 2] R e s H → Q e s H) → wpC Try.prog cd68 Q (enterA args) H) : ACalls Try.prog 68 args H R :=
  ACalls.intro (by kernel_rfl) Try.func68 rfl (by kernel_rfl) sl68 hl (of_decide_eq_true (by kernel_rfl)) (by kernel_rfl) h

/- loop.example/g01128/spec.l8Triangulates -/
def ords117 : List (Nat × List (Nat × Bool)) := [(5, [(0, false), (1, false), (2, false), (3, false), (4, false), (5, true), (6, false), (7, false), (8, false), (9, false), (10, false), (11, false), (12, false), (13, false), (14, false), (15, false), (16, false), (17, false), (18, false), (19, false), (20, false), (21, false), (22, false), (23, false), (24, false), (25, false), (26, false), (27, false), (28, false), (29, false), (30, false), (31, true), (32, false), (33, false)])]
def cd117 : Cd := (.seq (.reg [⟨⟨some 4, Op.assign (Operand.const (Value.bool false)), none⟩, []⟩]) (.seq (.reg [⟨⟨some 7, Op.move (Operand.tmp 0), none⟩, []⟩,
  ⟨⟨some 8, Op.call { callee := (Callee.value (Operand.func 68)), args := #[(Operand.tmp 7)], argTypes := #[3] }, none⟩, []⟩,
  ⟨⟨some 5, Op.assign (Operand.tmp 8), none⟩, []⟩]) (.seq (.seq (.reg [⟨⟨some 6, Op.assign (Operand.const (Value.int IntKind.i64 0)), none⟩, []⟩]) (.block 0 (.loop (.seq (.seq (.reg [⟨⟨some 9, Op.move (Operand.tmp 6), none⟩, []⟩,
  ⟨⟨some 10, Op.move (Operand.tmp 1), none⟩, []⟩,
  ⟨⟨some 11, Op.call { callee := (Callee.builtin Builtin.len), args := #[(Operand.tmp 10)], argTypes := #[22] }, none⟩, []⟩,
  ⟨⟨some 12, Op.binOp BinOp.lss 3 (Operand.tmp 9) (Operand.tmp 11) 3, none⟩, []⟩]) (.cond (Operand.tmp 12) .skip (.exit 0))) (.seq (.block 1 (.seq (.reg [⟨⟨some 15, Op.move (Operand.tmp 5), none⟩, []⟩,
  ⟨⟨some 16, Op.move (Operand.tmp 1), none⟩, []⟩,
  ⟨⟨some 17, Op.move (Operand.tmp 6), none⟩, []⟩,
  ⟨⟨some 18, Op.indexAddr 22 (Operand.tmp 16) (Operand.tmp 17), none⟩, []⟩,
  ⟨⟨some 19, Op.load 3 (Operand.tmp 18), none⟩, []⟩,
  ⟨⟨some 20, Op.call { callee := (Callee.value (Operand.func 66)), args := #[(Operand.tmp 15), (Operand.tmp 19)], argTypes := #[22, 3] }, none⟩, []⟩,
  ⟨⟨some 21, Op.unOp UnOp.not 4 (Operand.tmp 20), none⟩, []⟩,
  ⟨⟨some 22, Op.move (Operand.tmp 21), none⟩, []⟩,
  ⟨⟨some 23, Op.move (Operand.tmp 6), some (22, false)⟩, []⟩,
  ⟨⟨some 24, Op.binOp BinOp.gtr 3 (Operand.tmp 23) (Operand.const (Value.int IntKind.i64 0)) 3, some (22, false)⟩, []⟩,
  ⟨⟨some 25, Op.move (Operand.tmp 24), some (22, false)⟩, []⟩,
  ⟨⟨some 26, Op.move (Operand.tmp 1), some (25, true)⟩, []⟩,
  ⟨⟨some 27, Op.move (Operand.tmp 6), some (25, true)⟩, []⟩,
  ⟨⟨some 28, Op.binOp BinOp.sub 3 (Operand.tmp 27) (Operand.const (Value.int IntKind.i64 1)) 3, some (25, true)⟩, []⟩,
  ⟨⟨some 29, Op.indexAddr 22 (Operand.tmp 26) (Operand.tmp 28), some (25, true)⟩, []⟩,
  ⟨⟨some 30, Op.load 3 (Operand.tmp 29), some (25, true)⟩, []⟩,
  ⟨⟨some 31, Op.move (Operand.tmp 1), some (25, true)⟩, []⟩,
  ⟨⟨some 32, Op.move (Operand.tmp 6), some (25, true)⟩, []⟩,
  ⟨⟨some 33, Op.indexAddr 22 (Operand.tmp 31) (Operand.tmp 32), some (25, true)⟩, []⟩,
  ⟨⟨some 34, Op.load 3 (Operand.tmp 33), some (25, true)⟩, []⟩,
  ⟨⟨some 35, Op.binOp BinOp.geq 3 (Operand.tmp 30) (Operand.tmp 34) 3, some (25, true)⟩, []⟩,
  ⟨⟨some 36, Op.pick (Operand.tmp 25) (Operand.tmp 35) (Operand.const (Value.bool false)), some (22, false)⟩, []⟩,
  ⟨⟨some 37, Op.pick (Operand.tmp 22) (Operand.const (Value.bool true)) (Operand.tmp 36), none⟩, []⟩,
  ⟨⟨some 38, Op.move (Operand.tmp 37), none⟩, []⟩,
  ⟨⟨some 39, Op.move (Operand.tmp 1), some (38, false)⟩, []⟩,
  ⟨⟨some 40, Op.move (Operand.tmp 6), some (38, false)⟩, []⟩,
  ⟨⟨some 41, Op.slice 22 (Operand.tmp 39) none (some (Operand.tmp 40)) none, some (38, false)⟩, []⟩,
  ⟨⟨some 42, Op.move (Operand.tmp 1), some (38, false)⟩, []⟩,
  ⟨⟨some 43, Op.move (Operand.tmp 6), some (38, false)⟩, []⟩,
  ⟨⟨some 44, Op.indexAddr 22 (Operand.tmp 42) (Operand.tmp 43), some (38, false)⟩, []⟩,
  ⟨⟨some 45, Op.load 3 (Operand.tmp 44), some (38, false)⟩, []⟩,
  ⟨⟨some 46, Op.call { callee := (Callee.value (Operand.func 69)), args := #[(Operand.tmp 41), (Operand.tmp 45)], argTypes := #[22, 3] }, some (38, false)⟩, []⟩,
  ⟨⟨some 47, Op.unOp UnOp.not 4 (Operand.tmp 46), some (38, false)⟩, []⟩,
  ⟨⟨some 48, Op.pick (Operand.tmp 38) (Operand.const (Value.bool true)) (Operand.tmp 47), none⟩, []⟩]) (.cond (Operand.tmp 48) (.seq (.reg [⟨⟨some 4, Op.assign (Operand.const (Value.bool false)), none⟩, []⟩]) .ret) .skip))) (.reg [⟨⟨some 13, Op.move (Operand.tmp 6), none⟩, []⟩,
  ⟨⟨some 14, Op.binOp BinOp.add 3 (Operand.tmp 13) (Operand.const (Value.int IntKind.i64 1)) 3, none⟩, []⟩,
  ⟨⟨some 6, Op.assign (Operand.tmp 14), none⟩, []⟩])))))) (.seq (.reg [⟨⟨some 49, Op.move (Operand.tmp 1), none⟩, []⟩,
  ⟨⟨some 50, Op.call { callee := (Callee.builtin Builtin.len), args := #[(Operand.tmp 49)], argTypes := #[22] }, none⟩, []⟩,
  ⟨⟨some 51, Op.move (Operand.tmp 0), none⟩, []⟩,
  ⟨⟨some 52, Op.binOp BinOp.sub 3 (Operand.tmp 51) (Operand.const (Value.int IntKind.i64 3)) 3, none⟩, []⟩,
  ⟨⟨some 53, Op.binOp BinOp.eql 3 (Operand.tmp 50) (Operand.tmp 52) 3, none⟩, []⟩,
  ⟨⟨some 4, Op.assign (Operand.tmp 53), none⟩, []⟩]) .ret))))
theorem sl117 : slim Try.f117.ntmps ords117 (Try.f117.body.getD .skip) = some cd117 := by kernel_rfl
theorem in117 {args : List Value} {H : AH} {R : Value → AH → Prop} (hl : args.length = 2) (h : ∀ (Q : Exit → Sl → AH → Prop), (∀ e s H, endA Try.prog [ResultVar.tmp 4] R e s H → Q e s H) → wpC Try.prog cd117 Q (enterA args) H) : ACalls Try.prog 117 args H R :=
  ACalls.intro (by kernel_rfl) Try.func117 rfl (by kernel_rfl) sl117 hl (of_decide_eq_true (by kernel_rfl)) (by kernel_rfl) h
end Go.Proofs.Ytahakecifgjcnaa.Ai
