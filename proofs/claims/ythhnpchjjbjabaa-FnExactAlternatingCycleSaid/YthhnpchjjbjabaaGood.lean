/- Valid graphs, both sides. -/
import Derived.Test.YthhnpchjjbjabaaGrf
import Derived.Test.YthhnpchjjbjabaaBase
import Derived.Test.YthhnpchjjbjabaaSort
import Derived.Test.YthhnpchjjbjabaaProg
import Derived.Test.YthhnpchjjbjabaaAiM2
import Derived.KernelRfl
/- Slim code of this translation. By the kernel. -/
namespace Go.Proofs.Ythhnpchjjbjabaa.Ai
open Go

/- loop.example/g01128/spec.l2Edge -/
def ords149 : List (Nat × List (Nat × Bool)) := []
def cd149 : Cd := (.seq (.reg [⟨⟨some 2, Op.box 76 (Operand.tmp 0), none⟩, []⟩,
  ⟨⟨some 3, Op.box 76 (Operand.tmp 1), none⟩, []⟩,
  ⟨⟨some 4, Op.assign (Operand.const (Value.bool false)), none⟩, []⟩]) (.seq (.reg [⟨⟨some 5, Op.indexAddr 76 (Operand.tmp 2) (Operand.const (Value.int IntKind.i64 0)), none⟩, []⟩,
  ⟨⟨some 6, Op.load 3 (Operand.tmp 5), none⟩, []⟩,
  ⟨⟨some 7, Op.indexAddr 76 (Operand.tmp 3) (Operand.const (Value.int IntKind.i64 0)), none⟩, []⟩,
  ⟨⟨some 8, Op.load 3 (Operand.tmp 7), none⟩, []⟩,
  ⟨⟨some 9, Op.binOp BinOp.lss 3 (Operand.tmp 6) (Operand.tmp 8) 3, none⟩, []⟩,
  ⟨⟨some 10, Op.move (Operand.tmp 9), none⟩, []⟩,
  ⟨⟨some 11, Op.indexAddr 76 (Operand.tmp 2) (Operand.const (Value.int IntKind.i64 0)), some (10, false)⟩, []⟩,
  ⟨⟨some 12, Op.load 3 (Operand.tmp 11), some (10, false)⟩, []⟩,
  ⟨⟨some 13, Op.indexAddr 76 (Operand.tmp 3) (Operand.const (Value.int IntKind.i64 0)), some (10, false)⟩, []⟩,
  ⟨⟨some 14, Op.load 3 (Operand.tmp 13), some (10, false)⟩, []⟩,
  ⟨⟨some 15, Op.binOp BinOp.eql 3 (Operand.tmp 12) (Operand.tmp 14) 3, some (10, false)⟩, []⟩,
  ⟨⟨some 16, Op.move (Operand.tmp 15), some (10, false)⟩, []⟩,
  ⟨⟨some 17, Op.indexAddr 76 (Operand.tmp 2) (Operand.const (Value.int IntKind.i64 1)), some (16, true)⟩, []⟩,
  ⟨⟨some 18, Op.load 3 (Operand.tmp 17), some (16, true)⟩, []⟩,
  ⟨⟨some 19, Op.indexAddr 76 (Operand.tmp 3) (Operand.const (Value.int IntKind.i64 1)), some (16, true)⟩, []⟩,
  ⟨⟨some 20, Op.load 3 (Operand.tmp 19), some (16, true)⟩, []⟩,
  ⟨⟨some 21, Op.binOp BinOp.lss 3 (Operand.tmp 18) (Operand.tmp 20) 3, some (16, true)⟩, []⟩,
  ⟨⟨some 22, Op.pick (Operand.tmp 16) (Operand.tmp 21) (Operand.const (Value.bool false)), some (10, false)⟩, []⟩,
  ⟨⟨some 23, Op.pick (Operand.tmp 10) (Operand.const (Value.bool true)) (Operand.tmp 22), none⟩, []⟩,
  ⟨⟨some 4, Op.assign (Operand.tmp 23), none⟩, []⟩]) .ret))
theorem sl149 : slim Try.f149.ntmps ords149 (Try.f149.body.getD .skip) = some cd149 := by kernel_rfl
theorem in149 {args : List Value} {H : AH} {R : Value → AH → Prop} (hl : args.length = 2) (h : ∀ (Q : Exit → Sl → AH → Prop), (∀ e s H, endA Try.prog [ResultVar.tmp 4] R e s H → Q e s H) → wpC Try.prog cd149 Q (enterA args) H) : ACalls Try.prog 149 args H R :=
  ACalls.intro (by kernel_rfl) Try.func149 rfl (by kernel_rfl) sl149 hl (of_decide_eq_true (by kernel_rfl)) (by kernel_rfl) h

/- cmp.Compare[int] -/
def ords159 : List (Nat × List (Nat × Bool)) := []
def cd159 : Cd := (.seq (.reg [⟨⟨some 4, Op.assign (Operand.const (Value.int IntKind.i64 0)), none⟩, []⟩]) (.seq (.reg [⟨⟨some 7, Op.move (Operand.tmp 0), none⟩, []⟩,
  ⟨⟨some 8, Op.call { callee := (Callee.value (Operand.func 180)), args := #[(Operand.tmp 7)], argTypes := #[3] }, none⟩, []⟩,
  ⟨⟨some 5, Op.assign (Operand.tmp 8), none⟩, []⟩]) (.seq (.reg [⟨⟨some 9, Op.move (Operand.tmp 1), none⟩, []⟩,
  ⟨⟨some 10, Op.call { callee := (Callee.value (Operand.func 180)), args := #[(Operand.tmp 9)], argTypes := #[3] }, none⟩, []⟩,
  ⟨⟨some 6, Op.assign (Operand.tmp 10), none⟩, []⟩]) (.seq (.seq (.reg [⟨⟨some 11, Op.move (Operand.tmp 5), none⟩, []⟩]) (.cond (Operand.tmp 11) (.seq (.seq (.reg [⟨⟨some 12, Op.move (Operand.tmp 6), none⟩, []⟩]) (.cond (Operand.tmp 12) (.seq (.reg [⟨⟨some 4, Op.assign (Operand.const (Value.int IntKind.i64 0)), none⟩, []⟩]) .ret) .skip)) (.seq (.reg [⟨⟨some 4, Op.assign (Operand.const (Value.int IntKind.i64 (-1))), none⟩, []⟩]) .ret)) .skip)) (.seq (.seq (.reg [⟨⟨some 13, Op.move (Operand.tmp 6), none⟩, []⟩]) (.cond (Operand.tmp 13) (.seq (.reg [⟨⟨some 4, Op.assign (Operand.const (Value.int IntKind.i64 1)), none⟩, []⟩]) .ret) .skip)) (.seq (.seq (.reg [⟨⟨some 14, Op.move (Operand.tmp 0), none⟩, []⟩,
  ⟨⟨some 15, Op.move (Operand.tmp 1), none⟩, []⟩,
  ⟨⟨some 16, Op.binOp BinOp.lss 3 (Operand.tmp 14) (Operand.tmp 15) 3, none⟩, []⟩]) (.cond (Operand.tmp 16) (.seq (.reg [⟨⟨some 4, Op.assign (Operand.const (Value.int IntKind.i64 (-1))), none⟩, []⟩]) .ret) .skip)) (.seq (.seq (.reg [⟨⟨some 17, Op.move (Operand.tmp 0), none⟩, []⟩,
  ⟨⟨some 18, Op.move (Operand.tmp 1), none⟩, []⟩,
  ⟨⟨some 19, Op.binOp BinOp.gtr 3 (Operand.tmp 17) (Operand.tmp 18) 3, none⟩, []⟩]) (.cond (Operand.tmp 19) (.seq (.reg [⟨⟨some 4, Op.assign (Operand.const (Value.int IntKind.i64 1)), none⟩, []⟩]) .ret) .skip)) (.seq (.reg [⟨⟨some 4, Op.assign (Operand.const (Value.int IntKind.i64 0)), none⟩, []⟩]) .ret))))))))
theorem sl159 : slim Try.f159.ntmps ords159 (Try.f159.body.getD .skip) = some cd159 := by kernel_rfl
theorem in159 {args : List Value} {H : AH} {R : Value → AH → Prop} (hl : args.length = 2) (h : ∀ (Q : Exit → Sl → AH → Prop), (∀ e s H, endA Try.prog [ResultVar.tmp 4] R e s H → Q e s H) → wpC Try.prog cd159 Q (enterA args) H) : ACalls Try.prog 159 args H R :=
  ACalls.intro (by kernel_rfl) Try.func159 rfl (by kernel_rfl) sl159 hl (of_decide_eq_true (by kernel_rfl)) (by kernel_rfl) h

/- cmp.Or[int] -/
def ords167 : List (Nat × List (Nat × Bool)) := []
def cd167 : Cd := (.seq (.reg [⟨⟨some 2, Op.assign (Operand.const (Value.int IntKind.i64 0)), none⟩, []⟩]) (.seq (.reg [⟨⟨some 3, Op.assign (Operand.const (Value.int IntKind.i64 0)), none⟩, []⟩]) (.seq (.seq (.reg [⟨⟨some 6, Op.move (Operand.tmp 0), none⟩, []⟩,
  ⟨⟨some 7, Op.call { callee := (Callee.builtin Builtin.len), args := #[(Operand.tmp 6)], argTypes := #[32] }, none⟩, []⟩,
  ⟨⟨some 8, Op.move (Operand.const (Value.int IntKind.i64 0)), none⟩, []⟩]) (.block 0 (.loop (.seq (.reg [⟨⟨some 9, Op.binOp BinOp.lss 3 (Operand.tmp 8) (Operand.tmp 7) 3, none⟩, []⟩]) (.seq (.cond (Operand.tmp 9) .skip (.exit 0)) (.seq (.block 1 (.seq (.reg [⟨⟨some 10, Op.indexAddr 32 (Operand.tmp 6) (Operand.tmp 8), none⟩, []⟩,
  ⟨⟨some 11, Op.load 3 (Operand.tmp 10), none⟩, []⟩,
  ⟨⟨some 5, Op.assign (Operand.tmp 11), none⟩, []⟩]) (.seq (.reg [⟨⟨some 12, Op.move (Operand.tmp 5), none⟩, []⟩,
  ⟨⟨some 13, Op.move (Operand.tmp 3), none⟩, []⟩,
  ⟨⟨some 14, Op.binOp BinOp.neq 3 (Operand.tmp 12) (Operand.tmp 13) 3, none⟩, []⟩]) (.cond (Operand.tmp 14) (.seq (.reg [⟨⟨some 15, Op.move (Operand.tmp 5), none⟩, []⟩,
  ⟨⟨some 2, Op.assign (Operand.tmp 15), none⟩, []⟩]) .ret) .skip)))) (.reg [⟨⟨some 16, Op.binOp BinOp.add 3 (Operand.tmp 8) (Operand.const (Value.int IntKind.i64 1)) 3, none⟩, []⟩,
  ⟨⟨some 8, Op.move (Operand.tmp 16), none⟩, []⟩]))))))) (.seq (.reg [⟨⟨some 17, Op.move (Operand.tmp 3), none⟩, []⟩,
  ⟨⟨some 2, Op.assign (Operand.tmp 17), none⟩, []⟩]) .ret))))
theorem sl167 : slim Try.f167.ntmps ords167 (Try.f167.body.getD .skip) = some cd167 := by kernel_rfl
theorem in167 {args : List Value} {H : AH} {R : Value → AH → Prop} (hl : args.length = 1) (h : ∀ (Q : Exit → Sl → AH → Prop), (∀ e s H, endA Try.prog [ResultVar.tmp 2] R e s H → Q e s H) → wpC Try.prog cd167 Q (enterA args) H) : ACalls Try.prog 167 args H R :=
  ACalls.intro (by kernel_rfl) Try.func167 rfl (by kernel_rfl) sl167 hl (of_decide_eq_true (by kernel_rfl)) (by kernel_rfl) h

/- loop.example/g01128/impl.comparePairs -/
def ords152 : List (Nat × List (Nat × Bool)) := [(1, [(0, false), (1, false), (2, false), (3, false), (5, false), (6, false), (7, false), (8, false), (4, true), (9, true), (10, false), (11, true), (12, false)])]
def cd152 : Cd := (.seq (.reg [⟨⟨some 2, Op.box 76 (Operand.tmp 0), none⟩, []⟩,
  ⟨⟨some 3, Op.box 76 (Operand.tmp 1), none⟩, []⟩,
  ⟨⟨some 4, Op.assign (Operand.const (Value.int IntKind.i64 0)), none⟩, []⟩]) (.seq (.reg [⟨⟨some 5, Op.indexAddr 76 (Operand.tmp 2) (Operand.const (Value.int IntKind.i64 0)), none⟩, []⟩,
  ⟨⟨some 6, Op.load 3 (Operand.tmp 5), none⟩, []⟩,
  ⟨⟨some 7, Op.indexAddr 76 (Operand.tmp 3) (Operand.const (Value.int IntKind.i64 0)), none⟩, []⟩,
  ⟨⟨some 8, Op.load 3 (Operand.tmp 7), none⟩, []⟩,
  ⟨⟨some 10, Op.indexAddr 76 (Operand.tmp 2) (Operand.const (Value.int IntKind.i64 1)), none⟩, []⟩,
  ⟨⟨some 11, Op.load 3 (Operand.tmp 10), none⟩, []⟩,
  ⟨⟨some 12, Op.indexAddr 76 (Operand.tmp 3) (Operand.const (Value.int IntKind.i64 1)), none⟩, []⟩,
  ⟨⟨some 13, Op.load 3 (Operand.tmp 12), none⟩, []⟩,
  ⟨⟨some 9, Op.call { callee := (Callee.value (Operand.func 159)), args := #[(Operand.tmp 6), (Operand.tmp 8)], argTypes := #[3, 3] }, none⟩, [⟨some 13, Op.load 3 (Operand.tmp 12), none⟩, ⟨some 11, Op.load 3 (Operand.tmp 10), none⟩]⟩,
  ⟨⟨some 14, Op.call { callee := (Callee.value (Operand.func 159)), args := #[(Operand.tmp 11), (Operand.tmp 13)], argTypes := #[3, 3] }, none⟩, []⟩,
  ⟨⟨some 15, Op.buildSlice 32 2 #[(0, (Operand.tmp 9)), (1, (Operand.tmp 14))], none⟩, []⟩,
  ⟨⟨some 16, Op.call { callee := (Callee.value (Operand.func 167)), args := #[(Operand.tmp 15)], argTypes := #[32] }, none⟩, []⟩,
  ⟨⟨some 4, Op.assign (Operand.tmp 16), none⟩, []⟩]) .ret))
theorem sl152 : slim Try.f152.ntmps ords152 (Try.f152.body.getD .skip) = some cd152 := by kernel_rfl
theorem in152 {args : List Value} {H : AH} {R : Value → AH → Prop} (hl : args.length = 2) (h : ∀ (Q : Exit → Sl → AH → Prop), (∀ e s H, endA Try.prog [ResultVar.tmp 4] R e s H → Q e s H) → wpC Try.prog cd152 Q (enterA args) H) : ACalls Try.prog 152 args H R :=
  ACalls.intro (by kernel_rfl) Try.func152 rfl (by kernel_rfl) sl152 hl (of_decide_eq_true (by kernel_rfl)) (by kernel_rfl) h

/- loop.example/g01128/spec.l2Pairs -/
def ords107 : List (Nat × List (Nat × Bool)) := [(5, [(0, false), (1, false), (2, false), (3, false), (4, true), (5, false), (6, false), (7, false), (8, false), (9, false), (10, false), (11, true), (12, false), (13, false), (14, false), (15, false), (16, false), (17, false), (18, false), (19, false), (20, false), (21, false), (22, false), (23, false), (24, false), (25, false), (26, false), (27, false), (28, false), (29, false), (30, false), (31, true), (32, false), (33, false), (34, false)])]
def cd107 : Cd := (.seq (.reg [⟨⟨some 4, Op.assign (Operand.const (Value.bool false)), none⟩, []⟩]) (.seq (.seq (.reg [⟨⟨some 5, Op.assign (Operand.const (Value.int IntKind.i64 0)), none⟩, []⟩]) (.block 0 (.loop (.seq (.seq (.reg [⟨⟨some 7, Op.move (Operand.tmp 5), none⟩, []⟩,
  ⟨⟨some 8, Op.move (Operand.tmp 0), none⟩, []⟩,
  ⟨⟨some 9, Op.call { callee := (Callee.builtin Builtin.len), args := #[(Operand.tmp 8)], argTypes := #[22] }, none⟩, []⟩,
  ⟨⟨some 10, Op.binOp BinOp.lss 3 (Operand.tmp 7) (Operand.tmp 9) 3, none⟩, []⟩]) (.cond (Operand.tmp 10) .skip (.exit 0))) (.seq (.block 1 (.seq (.reg [⟨⟨some 13, Op.move (Operand.tmp 0), none⟩, []⟩,
  ⟨⟨some 14, Op.move (Operand.tmp 5), none⟩, []⟩,
  ⟨⟨some 15, Op.indexAddr 22 (Operand.tmp 13) (Operand.tmp 14), none⟩, []⟩,
  ⟨⟨some 16, Op.load 76 (Operand.tmp 15), none⟩, []⟩,
  ⟨⟨some 6, Op.alloc 76, none⟩, []⟩,
  ⟨⟨none, Op.store 76 (Operand.tmp 6) (Operand.tmp 16), none⟩, []⟩]) (.seq (.reg [⟨⟨some 17, Op.indexAddr 76 (Operand.tmp 6) (Operand.const (Value.int IntKind.i64 0)), none⟩, []⟩,
  ⟨⟨some 18, Op.load 3 (Operand.tmp 17), none⟩, []⟩,
  ⟨⟨some 19, Op.move (Operand.tmp 1), none⟩, []⟩,
  ⟨⟨some 20, Op.binOp BinOp.sub 3 (Operand.tmp 19) (Operand.const (Value.int IntKind.i64 1)) 3, none⟩, []⟩,
  ⟨⟨some 21, Op.call { callee := (Callee.value (Operand.func 93)), args := #[(Operand.tmp 18), (Operand.const (Value.int IntKind.i64 0)), (Operand.tmp 20)], argTypes := #[3, 3, 3] }, none⟩, []⟩,
  ⟨⟨some 22, Op.unOp UnOp.not 4 (Operand.tmp 21), none⟩, []⟩,
  ⟨⟨some 23, Op.move (Operand.tmp 22), none⟩, []⟩,
  ⟨⟨some 24, Op.indexAddr 76 (Operand.tmp 6) (Operand.const (Value.int IntKind.i64 1)), some (23, false)⟩, []⟩,
  ⟨⟨some 25, Op.load 3 (Operand.tmp 24), some (23, false)⟩, []⟩,
  ⟨⟨some 26, Op.move (Operand.tmp 1), some (23, false)⟩, []⟩,
  ⟨⟨some 27, Op.binOp BinOp.sub 3 (Operand.tmp 26) (Operand.const (Value.int IntKind.i64 1)) 3, some (23, false)⟩, []⟩,
  ⟨⟨some 28, Op.call { callee := (Callee.value (Operand.func 93)), args := #[(Operand.tmp 25), (Operand.const (Value.int IntKind.i64 0)), (Operand.tmp 27)], argTypes := #[3, 3, 3] }, some (23, false)⟩, []⟩,
  ⟨⟨some 29, Op.unOp UnOp.not 4 (Operand.tmp 28), some (23, false)⟩, []⟩,
  ⟨⟨some 30, Op.pick (Operand.tmp 23) (Operand.const (Value.bool true)) (Operand.tmp 29), none⟩, []⟩,
  ⟨⟨some 31, Op.move (Operand.tmp 30), none⟩, []⟩,
  ⟨⟨some 32, Op.indexAddr 76 (Operand.tmp 6) (Operand.const (Value.int IntKind.i64 0)), some (31, false)⟩, []⟩,
  ⟨⟨some 33, Op.load 3 (Operand.tmp 32), some (31, false)⟩, []⟩,
  ⟨⟨some 34, Op.indexAddr 76 (Operand.tmp 6) (Operand.const (Value.int IntKind.i64 1)), some (31, false)⟩, []⟩,
  ⟨⟨some 35, Op.load 3 (Operand.tmp 34), some (31, false)⟩, []⟩,
  ⟨⟨some 36, Op.binOp BinOp.geq 3 (Operand.tmp 33) (Operand.tmp 35) 3, some (31, false)⟩, []⟩,
  ⟨⟨some 37, Op.pick (Operand.tmp 31) (Operand.const (Value.bool true)) (Operand.tmp 36), none⟩, []⟩,
  ⟨⟨some 38, Op.move (Operand.tmp 37), none⟩, []⟩,
  ⟨⟨some 39, Op.move (Operand.tmp 5), some (38, false)⟩, []⟩,
  ⟨⟨some 40, Op.binOp BinOp.gtr 3 (Operand.tmp 39) (Operand.const (Value.int IntKind.i64 0)) 3, some (38, false)⟩, []⟩,
  ⟨⟨some 41, Op.move (Operand.tmp 40), some (38, false)⟩, []⟩,
  ⟨⟨some 42, Op.move (Operand.tmp 0), some (41, true)⟩, []⟩,
  ⟨⟨some 43, Op.move (Operand.tmp 5), some (41, true)⟩, []⟩,
  ⟨⟨some 44, Op.binOp BinOp.sub 3 (Operand.tmp 43) (Operand.const (Value.int IntKind.i64 1)) 3, some (41, true)⟩, []⟩,
  ⟨⟨some 45, Op.indexAddr 22 (Operand.tmp 42) (Operand.tmp 44), some (41, true)⟩, []⟩,
  ⟨⟨some 46, Op.load 76 (Operand.tmp 45), some (41, true)⟩, []⟩,
  ⟨⟨some 47, Op.load 76 (Operand.tmp 6), some (41, true)⟩, []⟩,
  ⟨⟨some 48, Op.call { callee := (Callee.value (Operand.func 149)), args := #[(Operand.tmp 46), (Operand.tmp 47)], argTypes := #[76, 76] }, some (41, true)⟩, []⟩,
  ⟨⟨some 49, Op.unOp UnOp.not 4 (Operand.tmp 48), some (41, true)⟩, []⟩,
  ⟨⟨some 50, Op.pick (Operand.tmp 41) (Operand.tmp 49) (Operand.const (Value.bool false)), some (38, false)⟩, []⟩,
  ⟨⟨some 51, Op.pick (Operand.tmp 38) (Operand.const (Value.bool true)) (Operand.tmp 50), none⟩, []⟩]) (.cond (Operand.tmp 51) (.seq (.reg [⟨⟨some 4, Op.assign (Operand.const (Value.bool false)), none⟩, []⟩]) .ret) .skip)))) (.reg [⟨⟨some 11, Op.move (Operand.tmp 5), none⟩, []⟩,
  ⟨⟨some 12, Op.binOp BinOp.add 3 (Operand.tmp 11) (Operand.const (Value.int IntKind.i64 1)) 3, none⟩, []⟩,
  ⟨⟨some 5, Op.assign (Operand.tmp 12), none⟩, []⟩])))))) (.seq (.reg [⟨⟨some 4, Op.assign (Operand.const (Value.bool true)), none⟩, []⟩]) .ret)))
theorem sl107 : slim Try.f107.ntmps ords107 (Try.f107.body.getD .skip) = some cd107 := by kernel_rfl
theorem in107 {args : List Value} {H : AH} {R : Value → AH → Prop} (hl : args.length = 2) (h : ∀ (Q : Exit → Sl → AH → Prop), (∀ e s H, endA Try.prog [ResultVar.tmp 4] R e s H → Q e s H) → wpC Try.prog cd107 Q (enterA args) H) : ACalls Try.prog 107 args H R :=
  ACalls.intro (by kernel_rfl) Try.func107 rfl (by kernel_rfl) sl107 hl (of_decide_eq_true (by kernel_rfl)) (by kernel_rfl) h

/- loop.example/g01128/impl.isPairs -/
def ords112 : List (Nat × List (Nat × Bool)) := [(4, [(0, false), (1, false), (2, false), (3, false), (4, false), (5, false), (6, false), (7, false), (8, false), (9, false), (10, false), (11, false), (12, false), (13, false), (14, false), (15, false), (16, false), (17, false), (18, false), (19, false), (20, false), (21, false), (22, false), (23, false), (24, false), (25, false), (26, true), (27, false), (28, false), (29, false)])]
def cd112 : Cd := (.seq (.reg [⟨⟨some 4, Op.assign (Operand.const (Value.bool false)), none⟩, []⟩]) (.seq (.seq (.reg [⟨⟨some 7, Op.move (Operand.tmp 0), none⟩, []⟩,
  ⟨⟨some 8, Op.call { callee := (Callee.builtin Builtin.len), args := #[(Operand.tmp 7)], argTypes := #[22] }, none⟩, []⟩,
  ⟨⟨some 9, Op.move (Operand.const (Value.int IntKind.i64 0)), none⟩, []⟩]) (.block 0 (.loop (.seq (.reg [⟨⟨some 10, Op.binOp BinOp.lss 3 (Operand.tmp 9) (Operand.tmp 8) 3, none⟩, []⟩]) (.seq (.cond (Operand.tmp 10) .skip (.exit 0)) (.seq (.block 1 (.seq (.reg [⟨⟨some 11, Op.move (Operand.tmp 9), none⟩, []⟩,
  ⟨⟨some 12, Op.indexAddr 22 (Operand.tmp 7) (Operand.tmp 9), none⟩, []⟩,
  ⟨⟨some 13, Op.load 76 (Operand.tmp 12), none⟩, []⟩,
  ⟨⟨some 6, Op.alloc 76, none⟩, []⟩,
  ⟨⟨some 5, Op.assign (Operand.tmp 11), none⟩, []⟩,
  ⟨⟨none, Op.store 76 (Operand.tmp 6) (Operand.tmp 13), none⟩, []⟩]) (.seq (.reg [⟨⟨some 14, Op.indexAddr 76 (Operand.tmp 6) (Operand.const (Value.int IntKind.i64 0)), none⟩, []⟩,
  ⟨⟨some 15, Op.load 3 (Operand.tmp 14), none⟩, []⟩,
  ⟨⟨some 16, Op.binOp BinOp.lss 3 (Operand.tmp 15) (Operand.const (Value.int IntKind.i64 0)) 3, none⟩, []⟩,
  ⟨⟨some 17, Op.move (Operand.tmp 16), none⟩, []⟩,
  ⟨⟨some 18, Op.indexAddr 76 (Operand.tmp 6) (Operand.const (Value.int IntKind.i64 0)), some (17, false)⟩, []⟩,
  ⟨⟨some 19, Op.load 3 (Operand.tmp 18), some (17, false)⟩, []⟩,
  ⟨⟨some 20, Op.indexAddr 76 (Operand.tmp 6) (Operand.const (Value.int IntKind.i64 1)), some (17, false)⟩, []⟩,
  ⟨⟨some 21, Op.load 3 (Operand.tmp 20), some (17, false)⟩, []⟩,
  ⟨⟨some 22, Op.binOp BinOp.geq 3 (Operand.tmp 19) (Operand.tmp 21) 3, some (17, false)⟩, []⟩,
  ⟨⟨some 23, Op.pick (Operand.tmp 17) (Operand.const (Value.bool true)) (Operand.tmp 22), none⟩, []⟩,
  ⟨⟨some 24, Op.move (Operand.tmp 23), none⟩, []⟩,
  ⟨⟨some 25, Op.indexAddr 76 (Operand.tmp 6) (Operand.const (Value.int IntKind.i64 1)), some (24, false)⟩, []⟩,
  ⟨⟨some 26, Op.load 3 (Operand.tmp 25), some (24, false)⟩, []⟩,
  ⟨⟨some 27, Op.move (Operand.tmp 1), some (24, false)⟩, []⟩,
  ⟨⟨some 28, Op.binOp BinOp.geq 3 (Operand.tmp 26) (Operand.tmp 27) 3, some (24, false)⟩, []⟩,
  ⟨⟨some 29, Op.pick (Operand.tmp 24) (Operand.const (Value.bool true)) (Operand.tmp 28), none⟩, []⟩,
  ⟨⟨some 30, Op.move (Operand.tmp 29), none⟩, []⟩,
  ⟨⟨some 31, Op.move (Operand.tmp 5), some (30, false)⟩, []⟩,
  ⟨⟨some 32, Op.binOp BinOp.gtr 3 (Operand.tmp 31) (Operand.const (Value.int IntKind.i64 0)) 3, some (30, false)⟩, []⟩,
  ⟨⟨some 33, Op.move (Operand.tmp 32), some (30, false)⟩, []⟩,
  ⟨⟨some 34, Op.move (Operand.tmp 0), some (33, true)⟩, []⟩,
  ⟨⟨some 35, Op.move (Operand.tmp 5), some (33, true)⟩, []⟩,
  ⟨⟨some 36, Op.binOp BinOp.sub 3 (Operand.tmp 35) (Operand.const (Value.int IntKind.i64 1)) 3, some (33, true)⟩, []⟩,
  ⟨⟨some 37, Op.indexAddr 22 (Operand.tmp 34) (Operand.tmp 36), some (33, true)⟩, []⟩,
  ⟨⟨some 38, Op.load 76 (Operand.tmp 37), some (33, true)⟩, []⟩,
  ⟨⟨some 39, Op.load 76 (Operand.tmp 6), some (33, true)⟩, []⟩,
  ⟨⟨some 40, Op.call { callee := (Callee.value (Operand.func 152)), args := #[(Operand.tmp 38), (Operand.tmp 39)], argTypes := #[76, 76] }, some (33, true)⟩, []⟩,
  ⟨⟨some 41, Op.binOp BinOp.geq 3 (Operand.tmp 40) (Operand.const (Value.int IntKind.i64 0)) 3, some (33, true)⟩, []⟩,
  ⟨⟨some 42, Op.pick (Operand.tmp 33) (Operand.tmp 41) (Operand.const (Value.bool false)), some (30, false)⟩, []⟩,
  ⟨⟨some 43, Op.pick (Operand.tmp 30) (Operand.const (Value.bool true)) (Operand.tmp 42), none⟩, []⟩]) (.cond (Operand.tmp 43) (.seq (.reg [⟨⟨some 4, Op.assign (Operand.const (Value.bool false)), none⟩, []⟩]) .ret) .skip)))) (.reg [⟨⟨some 44, Op.binOp BinOp.add 3 (Operand.tmp 9) (Operand.const (Value.int IntKind.i64 1)) 3, none⟩, []⟩,
  ⟨⟨some 9, Op.move (Operand.tmp 44), none⟩, []⟩]))))))) (.seq (.reg [⟨⟨some 4, Op.assign (Operand.const (Value.bool true)), none⟩, []⟩]) .ret)))
theorem sl112 : slim Try.f112.ntmps ords112 (Try.f112.body.getD .skip) = some cd112 := by kernel_rfl
theorem in112 {args : List Value} {H : AH} {R : Value → AH → Prop} (hl : args.length = 2) (h : ∀ (Q : Exit → Sl → AH → Prop), (∀ e s H, endA Try.prog [ResultVar.tmp 4] R e s H → Q e s H) → wpC Try.prog cd112 Q (enterA args) H) : ACalls Try.prog 112 args H R :=
  ACalls.intro (by kernel_rfl) Try.func112 rfl (by kernel_rfl) sl112 hl (of_decide_eq_true (by kernel_rfl)) (by kernel_rfl) h

/- loop.example/g01128/spec.l2Good -/
def ords57 : List (Nat × List (Nat × Bool)) := []
def cd57 : Cd := (.seq (.reg [⟨⟨some 1, Op.box 28 (Operand.tmp 0), none⟩, []⟩,
  ⟨⟨some 2, Op.assign (Operand.const (Value.bool false)), none⟩, []⟩]) (.seq (.reg [⟨⟨some 3, Op.fieldAddr 28 (Operand.tmp 1) 0, none⟩, []⟩,
  ⟨⟨some 4, Op.load 3 (Operand.tmp 3), none⟩, []⟩,
  ⟨⟨some 5, Op.call { callee := (Callee.value (Operand.func 93)), args := #[(Operand.tmp 4), (Operand.const (Value.int IntKind.i64 0)), (Operand.const (Value.int IntKind.i64 8))], argTypes := #[3, 3, 3] }, none⟩, []⟩,
  ⟨⟨some 6, Op.move (Operand.tmp 5), none⟩, []⟩,
  ⟨⟨some 7, Op.fieldAddr 28 (Operand.tmp 1) 1, some (6, true)⟩, []⟩,
  ⟨⟨some 8, Op.load 22 (Operand.tmp 7), some (6, true)⟩, []⟩,
  ⟨⟨some 9, Op.fieldAddr 28 (Operand.tmp 1) 0, some (6, true)⟩, []⟩,
  ⟨⟨some 10, Op.load 3 (Operand.tmp 9), some (6, true)⟩, []⟩,
  ⟨⟨some 11, Op.call { callee := (Callee.value (Operand.func 107)), args := #[(Operand.tmp 8), (Operand.tmp 10)], argTypes := #[22, 3] }, some (6, true)⟩, []⟩,
  ⟨⟨some 12, Op.pick (Operand.tmp 6) (Operand.tmp 11) (Operand.const (Value.bool false)), none⟩, []⟩,
  ⟨⟨some 2, Op.assign (Operand.tmp 12), none⟩, []⟩]) .ret))
theorem sl57 : slim Try.f57.ntmps ords57 (Try.f57.body.getD .skip) = some cd57 := by kernel_rfl
theorem in57 {args : List Value} {H : AH} {R : Value → AH → Prop} (hl : args.length = 1) (h : ∀ (Q : Exit → Sl → AH → Prop), (∀ e s H, endA Try.prog [ResultVar.tmp 2] R e s H → Q e s H) → wpC Try.prog cd57 Q (enterA args) H) : ACalls Try.prog 57 args H R :=
  ACalls.intro (by kernel_rfl) Try.func57 rfl (by kernel_rfl) sl57 hl (of_decide_eq_true (by kernel_rfl)) (by kernel_rfl) h

/- loop.example/g01128/impl.IsGraph -/
def ords60 : List (Nat × List (Nat × Bool)) := []
def cd60 : Cd := (.seq (.reg [⟨⟨some 1, Op.box 28 (Operand.tmp 0), none⟩, []⟩,
  ⟨⟨some 2, Op.assign (Operand.const (Value.bool false)), none⟩, []⟩]) (.seq (.reg [⟨⟨some 3, Op.fieldAddr 28 (Operand.tmp 1) 0, none⟩, []⟩,
  ⟨⟨some 4, Op.load 3 (Operand.tmp 3), none⟩, []⟩,
  ⟨⟨some 5, Op.call { callee := (Callee.value (Operand.func 96)), args := #[(Operand.tmp 4), (Operand.const (Value.int IntKind.i64 0)), (Operand.const (Value.int IntKind.i64 8))], argTypes := #[3, 3, 3] }, none⟩, []⟩,
  ⟨⟨some 6, Op.move (Operand.tmp 5), none⟩, []⟩,
  ⟨⟨some 7, Op.fieldAddr 28 (Operand.tmp 1) 1, some (6, true)⟩, []⟩,
  ⟨⟨some 8, Op.load 22 (Operand.tmp 7), some (6, true)⟩, []⟩,
  ⟨⟨some 9, Op.fieldAddr 28 (Operand.tmp 1) 0, some (6, true)⟩, []⟩,
  ⟨⟨some 10, Op.load 3 (Operand.tmp 9), some (6, true)⟩, []⟩,
  ⟨⟨some 11, Op.call { callee := (Callee.value (Operand.func 112)), args := #[(Operand.tmp 8), (Operand.tmp 10)], argTypes := #[22, 3] }, some (6, true)⟩, []⟩,
  ⟨⟨some 12, Op.pick (Operand.tmp 6) (Operand.tmp 11) (Operand.const (Value.bool false)), none⟩, []⟩,
  ⟨⟨some 2, Op.assign (Operand.tmp 12), none⟩, []⟩]) .ret))
theorem sl60 : slim Try.f60.ntmps ords60 (Try.f60.body.getD .skip) = some cd60 := by kernel_rfl
theorem in60 {args : List Value} {H : AH} {R : Value → AH → Prop} (hl : args.length = 1) (h : ∀ (Q : Exit → Sl → AH → Prop), (∀ e s H, endA Try.prog [ResultVar.tmp 2] R e s H → Q e s H) → wpC Try.prog cd60 Q (enterA args) H) : ACalls Try.prog 60 args H R :=
  ACalls.intro (by kernel_rfl) Try.func60 rfl (by kernel_rfl) sl60 hl (of_decide_eq_true (by kernel_rfl)) (by kernel_rfl) h
end Go.Proofs.Ythhnpchjjbjabaa.Ai

namespace Go.Proofs.Ythhnpchjjbjabaa.Ai
open Go Go.RowKit
set_option linter.unusedVariables false
set_option linter.unusedSimpArgs false

/-- pairs in order -/
def pairLt (p q : Int × Int) : Prop := p.1 < q.1 ∨ p.1 = q.1 ∧ p.2 < q.2
instance (p q : Int × Int) : Decidable (pairLt p q) := by unfold pairLt; infer_instance
def prOk (n : Int) (ps : List (Int × Int)) (i : Nat) : Prop :=
  0 ≤ (ps.getD i (0, 0)).1 ∧ (ps.getD i (0, 0)).1 < (ps.getD i (0, 0)).2 ∧ (ps.getD i (0, 0)).2 < n ∧ (0 < i → pairLt (ps.getD (i - 1) (0, 0)) (ps.getD i (0, 0)))
instance (n : Int) (ps : List (Int × Int)) (i : Nat) : Decidable (prOk n ps i) := by unfold prOk; infer_instance
def PrU (n : Int) (ps : List (Int × Int)) (k : Nat) : Prop := ∀ i, i < k → prOk n ps i
instance (n : Int) (ps : List (Int × Int)) (k : Nat) : Decidable (PrU n ps k) := by unfold PrU; infer_instance
def Grd (n : Int) (ps : List (Int × Int)) : Prop := (0 ≤ n ∧ n ≤ 8) ∧ PrU n ps ps.length
instance (n : Int) (ps : List (Int × Int)) : Decidable (Grd n ps) := by unfold Grd; infer_instance
theorem PrU.zero (n : Int) (ps : List (Int × Int)) : PrU n ps 0 := fun i h => absurd h (Nat.not_lt_zero i)
theorem PrU.succ {n : Int} {ps : List (Int × Int)} {k : Nat} (h : PrU n ps k) (h2 : prOk n ps k) : PrU n ps (k + 1) := by
  intro i hi
  rcases Nat.lt_succ_iff_lt_or_eq.1 hi with g | g
  · exact h i g
  · rw [g]; exact h2
theorem PrU.no {n : Int} {ps : List (Int × Int)} {k i : Nat} (hi : i < k) (h : ¬ prOk n ps i) : ¬ PrU n ps k := fun g => h (g i hi)

theorem l2Edge_c (p q : Int × Int) (H : AH) : ACalls Try.prog 149 [.agg (List.toArray [.int .i64 p.1, .int .i64 p.2]), .agg (List.toArray [.int .i64 q.1, .int .i64 q.2])] H fun r H' => r = .bool (decide (pairLt p q)) ∧ H <+: H' := by
  refine in149 rfl ?_
  intro Q hQ
  simp (maxSteps := 1000000) (disch := omega) only [cd149, box_a2, S, S1, S2, S3, S4, S5, ST, eq_self, reduceIte, reduceCtorEq, Nat.reduceEqDiff, Nat.reduceAdd]
  generalize hA : H ++ [AObj.cells [.int .i64 p.1, .int .i64 p.2] 76 false] = A
  have pA : H <+: A := by rw [← hA]; exact List.prefix_append _ _
  have a0 : A[H.length]? = some (.cells [.int .i64 p.1, .int .i64 p.2] 76 false) := by rw [← hA]; exact at_new ..
  generalize hB : A ++ [AObj.cells [.int .i64 q.1, .int .i64 q.2] 76 false] = B
  have pB : A <+: B := by rw [← hB]; exact List.prefix_append _ _
  have b0 := pre_at pB a0
  have b1 : B[A.length]? = some (.cells [.int .i64 q.1, .int .i64 q.2] 76 false) := by rw [← hB]; exact at_new ..
  have pHB := pA.trans pB
  simp (maxSteps := 1000000) (disch := omega) only [cell_of b0, cell_of b1, S, S1, S2, S3, S4, S5, ST, eq_self, reduceIte, reduceCtorEq, Nat.reduceEqDiff, Nat.reduceAdd]
  refine brD.intro (fun e1 => ?_) (fun e1 => ?_) <;> simp (maxSteps := 1000000) (disch := omega) only [e1, cell_of b0, cell_of b1, S, S1, S2, S3, S4, S5, ST, eq_self, reduceIte, reduceCtorEq, Nat.reduceEqDiff, Nat.reduceAdd]
  · refine hQ _ _ _ ?_
    simp (maxSteps := 1000000) (disch := omega) only [e1, S, S1, S2, S3, S4, S5, ST, eq_self, reduceIte, reduceCtorEq, Nat.reduceEqDiff, Nat.reduceAdd]
    exact ⟨by rw [decide_eq_true (show pairLt p q from .inl e1)], pHB⟩
  · refine brD.intro (fun e2 => ?_) (fun e2 => ?_) <;> simp (maxSteps := 1000000) (disch := omega) only [e1, e2, cell_of b0, cell_of b1, S, S1, S2, S3, S4, S5, ST, eq_self, reduceIte, reduceCtorEq, Nat.reduceEqDiff, Nat.reduceAdd]
    · refine hQ _ _ _ ?_
      simp (maxSteps := 1000000) (disch := omega) only [e1, e2, S, S1, S2, S3, S4, S5, ST, eq_self, reduceIte, reduceCtorEq, Nat.reduceEqDiff, Nat.reduceAdd]
      have : pairLt p q ↔ p.2 < q.2 := by unfold pairLt; omega
      exact ⟨by simp [this], pHB⟩
    · refine hQ _ _ _ ?_
      simp (maxSteps := 1000000) (disch := omega) only [e1, e2, S, S1, S2, S3, S4, S5, ST, eq_self, reduceIte, reduceCtorEq, Nat.reduceEqDiff, Nat.reduceAdd]
      have : ¬ pairLt p q := by unfold pairLt; omega
      exact ⟨by simp [this], pHB⟩

def cmpI (a b : Int) : Int := if a < b then -1 else if b < a then 1 else 0
def cmpP (p q : Int × Int) : Int := if cmpI p.1 q.1 ≠ 0 then cmpI p.1 q.1 else cmpI p.2 q.2
theorem cmpP_ge (p q : Int × Int) : (0 ≤ cmpP p q) ↔ ¬ pairLt p q := by
  unfold cmpP cmpI pairLt
  repeat' split
  all_goals omega

theorem Compare_c (a b : Int) (H : AH) : ACalls Try.prog 159 [.int .i64 a, .int .i64 b] H fun r H' => r = .int .i64 (cmpI a b) ∧ H = H' := by
  refine in159 rfl ?_
  intro Q hQ
  simp (maxSteps := 1000000) (disch := omega) only [cd159, S, S1, S2, S3, S4, S5, ST, eq_self, reduceIte, reduceCtorEq, Nat.reduceEqDiff, Nat.reduceAdd]
  refine CallH.by (isNaN_c a H) ?_
  rintro _ _ ⟨rfl, rfl⟩
  simp (maxSteps := 1000000) (disch := omega) only [S, S1, S2, S3, S4, S5, ST, eq_self, reduceIte, reduceCtorEq, Nat.reduceEqDiff, Nat.reduceAdd]
  refine CallH.by (isNaN_c b H) ?_
  rintro _ _ ⟨rfl, rfl⟩
  simp (maxSteps := 1000000) (disch := omega) only [S, S1, S2, S3, S4, S5, ST, eq_self, reduceIte, reduceCtorEq, Nat.reduceEqDiff, Nat.reduceAdd]
  refine brD.intro (fun e => ?_) (fun e => ?_) <;> simp (maxSteps := 1000000) (disch := omega) only [e, S, S1, S2, S3, S4, S5, ST, eq_self, reduceIte, reduceCtorEq, Nat.reduceEqDiff, Nat.reduceAdd]
  · refine hQ _ _ _ ?_
    simp (maxSteps := 1000000) (disch := omega) only [cmpI, e, S, S1, S2, S3, S4, S5, ST, eq_self, reduceIte, reduceCtorEq, Nat.reduceEqDiff, Nat.reduceAdd]
  · refine brD.intro (fun e2 => ?_) (fun e2 => ?_) <;> simp (maxSteps := 1000000) (disch := omega) only [e, e2, S, S1, S2, S3, S4, S5, ST, eq_self, reduceIte, reduceCtorEq, Nat.reduceEqDiff, Nat.reduceAdd]
    · refine hQ _ _ _ ?_
      simp (maxSteps := 1000000) (disch := omega) only [cmpI, e, e2, S, S1, S2, S3, S4, S5, ST, eq_self, reduceIte, reduceCtorEq, Nat.reduceEqDiff, Nat.reduceAdd]
    · refine hQ _ _ _ ?_
      simp (maxSteps := 1000000) (disch := omega) only [cmpI, e, e2, S, S1, S2, S3, S4, S5, ST, eq_self, reduceIte, reduceCtorEq, Nat.reduceEqDiff, Nat.reduceAdd]

theorem Or_c (a b : Int) (o : Nat) (H : AH) (ho : H[o]? = some (.cells (ints [a, b]) 3 false)) : ACalls Try.prog 167 [.slice (some ⟨o, 0, none⟩) 2 2] H fun r H' => r = .int .i64 (if a ≠ 0 then a else b) ∧ H = H' := by
  refine in167 rfl ?_
  intro Q hQ
  simp (maxSteps := 1000000) (disch := omega) only [cd167, S, S1, S2, S3, S4, S5, ST, eq_self, reduceIte, reduceCtorEq, Nat.reduceEqDiff, Nat.reduceAdd]
  refine LoopH.by (fun m s H' => ∃ i, m + i = 2 ∧ s 0 = .slice (some ⟨o, 0, none⟩) 2 2 ∧ s 3 = .int .i64 0 ∧ s 6 = .slice (some ⟨o, 0, none⟩) 2 2 ∧ s 7 = .int .i64 2 ∧ s 8 = .int .i64 ((i : Nat) : Int) ∧ H = H' ∧ ∀ j, j < i → [a, b].getD j 0 = 0) 2 ?_ ?_
  · exact ⟨0, rfl, rfl, rfl, rfl, rfl, rfl, rfl, fun j hj => absurd hj (Nat.not_lt_zero j)⟩
  · rintro m s H' ⟨i, hm, h0, h3, h6, h7, h8, rfl, hz⟩
    simp (maxSteps := 1000000) (disch := omega) only [h0, h3, h6, h7, h8, S, S1, S2, S3, S4, S5, ST, eq_self, reduceIte, reduceCtorEq, Nat.reduceEqDiff, Nat.reduceAdd]
    refine brD.intro (fun g => ?_) (fun g => ?_)
    · have hi : i < [a, b].length := by show i < 2; omega
      simp (maxSteps := 1000000) (disch := omega) only [h0, h3, h6, h7, h8, Int.toNat_natCast, Nat.zero_add, cell_ints ho hi, S, S1, S2, S3, S4, S5, ST, eq_self, reduceIte, reduceCtorEq, Nat.reduceEqDiff, Nat.reduceAdd]
      refine brD.intro (fun e => ?_) (fun e => ?_) <;> simp (maxSteps := 1000000) (disch := omega) only [h0, h3, h6, h7, h8, e, wrap64, S, S1, S2, S3, S4, S5, ST, eq_self, reduceIte, reduceCtorEq, Nat.reduceEqDiff, Nat.reduceAdd]
      · refine hQ _ _ _ ?_
        simp (maxSteps := 1000000) (disch := omega) only [S, S1, S2, S3, S4, S5, ST, eq_self, reduceIte, reduceCtorEq, Nat.reduceEqDiff, Nat.reduceAdd]
        have : i = 0 ∨ i = 1 := by omega
        rcases this with rfl | rfl
        · have e' : a ≠ 0 := e
          simp [e']
        · have e1 : a = 0 := hz 0 (by omega)
          simp [e1]
      · have f1 : ∀ j, j < i + 1 → [a, b].getD j 0 = 0 := by
          intro j hj
          rcases Nat.lt_succ_iff_lt_or_eq.1 hj with h | h
          · exact hz j h
          · rw [h]; exact Decidable.not_not.1 e
        refine ⟨m - 1, by omega, i + 1, ?_⟩
        (repeat' apply And.intro) <;> first | exact f1 | (simp only [Value.int.injEq, true_and]; omega) | omega | rfl | assumption | (simp; done) | (simp; omega)
    · simp (maxSteps := 1000000) (disch := omega) only [h3, S, S1, S2, S3, S4, S5, ST, eq_self, reduceIte, reduceCtorEq, Nat.reduceEqDiff, Nat.reduceAdd]
      refine hQ _ _ _ ?_
      simp (maxSteps := 1000000) (disch := omega) only [h3, S, S1, S2, S3, S4, S5, ST, eq_self, reduceIte, reduceCtorEq, Nat.reduceEqDiff, Nat.reduceAdd]
      have e1 : a = 0 := hz 0 (by omega)
      have e2 : b = 0 := hz 1 (by omega)
      simp [e1, e2]

set_option maxRecDepth 20000 in
theorem comparePairs_c (p q : Int × Int) (H : AH) : ACalls Try.prog 152 [.agg (List.toArray [.int .i64 p.1, .int .i64 p.2]), .agg (List.toArray [.int .i64 q.1, .int .i64 q.2])] H fun r H' => r = .int .i64 (cmpP p q) ∧ H <+: H' := by
  refine in152 rfl ?_
  intro Q hQ
  simp (maxSteps := 1000000) (disch := omega) only [cd152, box_a2, S, S1, S2, S3, S4, S5, ST, eq_self, reduceIte, reduceCtorEq, Nat.reduceEqDiff, Nat.reduceAdd]
  generalize hA : H ++ [AObj.cells [.int .i64 p.1, .int .i64 p.2] 76 false] = A
  have pA : H <+: A := by rw [← hA]; exact List.prefix_append _ _
  have a0 : A[H.length]? = some (.cells [.int .i64 p.1, .int .i64 p.2] 76 false) := by rw [← hA]; exact at_new ..
  generalize hB : A ++ [AObj.cells [.int .i64 q.1, .int .i64 q.2] 76 false] = B
  have pB : A <+: B := by rw [← hB]; exact List.prefix_append _ _
  have b0 := pre_at pB a0
  have b1 : B[A.length]? = some (.cells [.int .i64 q.1, .int .i64 q.2] 76 false) := by rw [← hB]; exact at_new ..
  have pHB := pA.trans pB
  simp (maxSteps := 1000000) (disch := omega) only [cell_of b0, cell_of b1, S, S1, S2, S3, S4, S5, ST, eq_self, reduceIte, reduceCtorEq, Nat.reduceEqDiff, Nat.reduceAdd]
  refine CallH.by (Compare_c p.1 q.1 B) ?_
  rintro _ _ ⟨rfl, rfl⟩
  simp (maxSteps := 1000000) (disch := omega) only [cell_of b0, cell_of b1, S, S1, S2, S3, S4, S5, ST, eq_self, reduceIte, reduceCtorEq, Nat.reduceEqDiff, Nat.reduceAdd]
  refine CallH.by (Compare_c p.2 q.2 B) ?_
  rintro _ _ ⟨rfl, rfl⟩
  simp (maxSteps := 1000000) (disch := omega) only [S, S1, S2, S3, S4, S5, ST, eq_self, reduceIte, reduceCtorEq, Nat.reduceEqDiff, Nat.reduceAdd]
  refine CallH.by (Or_c (cmpI p.1 q.1) (cmpI p.2 q.2) B.length _ (at_new ..)) ?_
  rintro _ _ ⟨rfl, rfl⟩
  simp (maxSteps := 1000000) (disch := omega) only [S, S1, S2, S3, S4, S5, ST, eq_self, reduceIte, reduceCtorEq, Nat.reduceEqDiff, Nat.reduceAdd]
  refine hQ _ _ _ ?_
  simp (maxSteps := 1000000) (disch := omega) only [cmpP, S, S1, S2, S3, S4, S5, ST, eq_self, reduceIte, reduceCtorEq, Nat.reduceEqDiff, Nat.reduceAdd]
  exact pre_app pHB _

set_option maxRecDepth 20000 in
set_option maxHeartbeats 4000000 in
theorem l2Pairs_c (v : Value) (n : Int) (ps : List (Int × Int)) (H : AH) (hr : RowP 76 H v ps) (hlen : ps.length ≤ 1099511627776) (hn : 0 ≤ n ∧ n ≤ 8) :
    ACalls Try.prog 107 [v, .int .i64 n] H fun r H' => r = .bool (decide (PrU n ps ps.length)) ∧ H <+: H' := by
  refine in107 rfl ?_
  intro Q hQ
  simp (maxSteps := 1000000) (disch := omega) only [cd107, S, S1, S2, S3, S4, S5, ST, eq_self, reduceIte, reduceCtorEq, Nat.reduceEqDiff, Nat.reduceAdd]
  refine LoopH.by (fun m s H' => ∃ i, m + i = ps.length ∧ s 0 = v ∧ s 1 = .int .i64 n ∧ s 5 = .int .i64 ((i : Nat) : Int) ∧ H <+: H' ∧ PrU n ps i) ps.length ?_ ?_
  · exact ⟨0, by simp, rfl, rfl, rfl, List.prefix_refl _, PrU.zero _ _⟩
  · rintro m s H' ⟨i, hm, h0, h1, h5, hp, hu⟩
    have hr' := hr.pre hp
    simp (maxSteps := 1000000) (disch := omega) only [h0, h1, h5, hr'.len Try.underlying22, S, S1, S2, S3, S4, S5, ST, eq_self, reduceIte, reduceCtorEq, Nat.reduceEqDiff, Nat.reduceAdd]
    refine brD.intro (fun g => ?_) (fun g => ?_)
    · have hi : i < ps.length := by omega
      have hst0 := store_a2 H' [.int .i64 0, .int .i64 0] rfl
      simp (maxSteps := 1000000) (disch := omega) only [h0, h1, h5, hr'.ix Try.underlying22 cs76, Int.toNat_natCast, hr'.ld ag76 cs76 hi, alloc_a2, hst0, cell_new, wrap64, S, S1, S2, S3, S4, S5, ST, eq_self, reduceIte, reduceCtorEq, Nat.reduceEqDiff, Nat.reduceAdd]
      generalize hB : H' ++ [AObj.cells [.int .i64 (ps.getD i (0, 0)).1, .int .i64 (ps.getD i (0, 0)).2] 76 false] = B
      have pB : H' <+: B := by rw [← hB]; exact List.prefix_append _ _
      have b0 : B[H'.length]? = some (.cells [.int .i64 (ps.getD i (0, 0)).1, .int .i64 (ps.getD i (0, 0)).2] 76 false) := by rw [← hB]; exact at_new ..
      have hrB := hr'.pre pB
      refine CallH.by (l1In_c _ _ _ B) ?_
      rintro _ _ ⟨rfl, rfl⟩
      simp (maxSteps := 1000000) (disch := omega) only [cell_of b0, wrap64, S, S1, S2, S3, S4, S5, ST, eq_self, reduceIte, reduceCtorEq, Nat.reduceEqDiff, Nat.reduceAdd]
      have hBp := hp.trans pB
      have e0 : ((i : Int) - 1).toNat = i - 1 := by omega
      have ok2 : prOk n ps i → PrU n ps (i + 1) := fun h => hu.succ h
      have bad : ¬ prOk n ps i → ∀ G, H <+: G → decide (PrU n ps ps.length) = false ∧ H <+: G := fun h G hG => ⟨decide_eq_false (PrU.no hi h), hG⟩
      have hld1 : 0 < i → loadA Try.prog 76 (.pointer (some ⟨rowO v, rowK v + 2 * (i - 1), none⟩)) B = some (.agg (List.toArray [.int .i64 (ps.getD (i - 1) (0, 0)).1, .int .i64 (ps.getD (i - 1) (0, 0)).2])) := fun h => hrB.ld ag76 cs76 (by omega)
      unfold prOk at ok2 bad
      generalize hx : ps.getD i (0, 0) = x at *
      generalize hy : ps.getD (i - 1) (0, 0) = y at *
      refine brD.intro (fun e1 => ?_) (fun e1 => ?_)
      · simp (maxSteps := 1000000) (disch := omega) only [e1, cell_of b0, h0, h1, h5, wrap64, S, S1, S2, S3, S4, S5, ST, eq_self, reduceIte, reduceCtorEq, Nat.reduceEqDiff, Nat.reduceAdd]
        refine CallH.by (l1In_c _ _ _ B) ?_
        rintro _ _ ⟨rfl, rfl⟩
        simp (maxSteps := 1000000) (disch := omega) only [e1, cell_of b0, h0, h1, h5, wrap64, S, S1, S2, S3, S4, S5, ST, eq_self, reduceIte, reduceCtorEq, Nat.reduceEqDiff, Nat.reduceAdd]
        refine brD.intro (fun e2 => ?_) (fun e2 => ?_)
        · simp (maxSteps := 1000000) (disch := omega) only [e1, e2, cell_of b0, h0, h1, h5, wrap64, S, S1, S2, S3, S4, S5, ST, eq_self, reduceIte, reduceCtorEq, Nat.reduceEqDiff, Nat.reduceAdd]
          refine brD.intro (fun e3 => ?_) (fun e3 => ?_) <;> simp (maxSteps := 1000000) (disch := omega) only [e1, e2, e3, cell_of b0, h0, h1, h5, wrap64, S, S1, S2, S3, S4, S5, ST, eq_self, reduceIte, reduceCtorEq, Nat.reduceEqDiff, Nat.reduceAdd]
          · refine hQ _ _ _ ?_
            simp (maxSteps := 1000000) (disch := omega) only [S, S1, S2, S3, S4, S5, ST, eq_self, reduceIte, reduceCtorEq, Nat.reduceEqDiff, Nat.reduceAdd]
            obtain ⟨q1, q2⟩ := bad (by omega) _ hBp
            rw [q1]
            exact ⟨rfl, q2⟩
          · refine brD.intro (fun e4 => ?_) (fun e4 => ?_) <;> simp (maxSteps := 1000000) (disch := omega) only [e1, e2, e3, e4, h0, h1, h5, wrap64, S, S1, S2, S3, S4, S5, ST, eq_self, reduceIte, reduceCtorEq, Nat.reduceEqDiff, Nat.reduceAdd]
            · have hi1 : 0 < i := by omega
              simp (maxSteps := 1000000) (disch := omega) only [e1, e2, e3, e4, e0, h0, h1, h5, hrB.ix Try.underlying22 cs76, hld1 hi1, ld_a2 b0, wrap64, S, S1, S2, S3, S4, S5, ST, eq_self, reduceIte, reduceCtorEq, Nat.reduceEqDiff, Nat.reduceAdd]
              refine CallH.by (l2Edge_c y x B) ?_
              rintro _ C ⟨rfl, pC⟩
              have hCp := hBp.trans pC
              simp (maxSteps := 1000000) (disch := omega) only [e1, e2, e3, e4, S, S1, S2, S3, S4, S5, ST, eq_self, reduceIte, reduceCtorEq, Nat.reduceEqDiff, Nat.reduceAdd]
              refine brD.intro (fun e5 => ?_) (fun e5 => ?_) <;> simp (maxSteps := 1000000) (disch := omega) only [e1, e2, e3, e4, e5, h0, h1, h5, wrap64, S, S1, S2, S3, S4, S5, ST, eq_self, reduceIte, reduceCtorEq, Nat.reduceEqDiff, Nat.reduceAdd]
              · have f1 := ok2 ⟨e1.1, by omega, by omega, fun _ => e5⟩
                refine ⟨m - 1, by omega, i + 1, ?_⟩
                (repeat' first | exact f1 | exact hCp | apply And.intro) <;> first | (simp only [Value.int.injEq, true_and]; omega) | omega | rfl | assumption | (simp; done) | (simp; omega)
              · refine hQ _ _ _ ?_
                simp (maxSteps := 1000000) (disch := omega) only [S, S1, S2, S3, S4, S5, ST, eq_self, reduceIte, reduceCtorEq, Nat.reduceEqDiff, Nat.reduceAdd]
                obtain ⟨q1, q2⟩ := bad (fun h => e5 (h.2.2.2 hi1)) _ hCp
                rw [q1]
                exact ⟨rfl, q2⟩
            · have f1 := ok2 ⟨e1.1, by omega, by omega, fun h => absurd h (by omega)⟩
              refine ⟨m - 1, by omega, i + 1, ?_⟩
              (repeat' first | exact f1 | exact hBp | apply And.intro) <;> first | (simp only [Value.int.injEq, true_and]; omega) | omega | rfl | assumption | (simp; done) | (simp; omega)
        · simp (maxSteps := 1000000) (disch := omega) only [e1, e2, S, S1, S2, S3, S4, S5, ST, eq_self, reduceIte, reduceCtorEq, Nat.reduceEqDiff, Nat.reduceAdd]
          refine hQ _ _ _ ?_
          simp (maxSteps := 1000000) (disch := omega) only [S, S1, S2, S3, S4, S5, ST, eq_self, reduceIte, reduceCtorEq, Nat.reduceEqDiff, Nat.reduceAdd]
          obtain ⟨q1, q2⟩ := bad (by omega) _ hBp
          rw [q1]
          exact ⟨rfl, q2⟩
      · simp (maxSteps := 1000000) (disch := omega) only [e1, S, S1, S2, S3, S4, S5, ST, eq_self, reduceIte, reduceCtorEq, Nat.reduceEqDiff, Nat.reduceAdd]
        refine hQ _ _ _ ?_
        simp (maxSteps := 1000000) (disch := omega) only [S, S1, S2, S3, S4, S5, ST, eq_self, reduceIte, reduceCtorEq, Nat.reduceEqDiff, Nat.reduceAdd]
        obtain ⟨q1, q2⟩ := bad (by omega) _ hBp
        rw [q1]
        exact ⟨rfl, q2⟩
    · simp (maxSteps := 1000000) (disch := omega) only [h0, h1, h5, S, S1, S2, S3, S4, S5, ST, eq_self, reduceIte, reduceCtorEq, Nat.reduceEqDiff, Nat.reduceAdd]
      refine hQ _ _ _ ?_
      simp (maxSteps := 1000000) (disch := omega) only [S, S1, S2, S3, S4, S5, ST, eq_self, reduceIte, reduceCtorEq, Nat.reduceEqDiff, Nat.reduceAdd]
      have : i = ps.length := by omega
      subst this
      simp [hu, hp]

set_option maxRecDepth 20000 in
set_option maxHeartbeats 4000000 in
theorem isPairs_c (v : Value) (n : Int) (ps : List (Int × Int)) (H : AH) (hr : RowP 76 H v ps) (hlen : ps.length ≤ 1099511627776) (hn : 0 ≤ n ∧ n ≤ 8) :
    ACalls Try.prog 112 [v, .int .i64 n] H fun r H' => r = .bool (decide (PrU n ps ps.length)) ∧ H <+: H' := by
  refine in112 rfl ?_
  intro Q hQ
  simp (maxSteps := 1000000) (disch := omega) only [cd112, hr.len Try.underlying22, S, S1, S2, S3, S4, S5, ST, eq_self, reduceIte, reduceCtorEq, Nat.reduceEqDiff, Nat.reduceAdd]
  refine LoopH.by (fun m s H' => ∃ i, m + i = ps.length ∧ s 0 = v ∧ s 1 = .int .i64 n ∧ s 7 = v ∧ s 8 = .int .i64 (ps.length : Int) ∧ s 9 = .int .i64 ((i : Nat) : Int) ∧ H <+: H' ∧ PrU n ps i) ps.length ?_ ?_
  · exact ⟨0, by simp, rfl, rfl, rfl, rfl, rfl, List.prefix_refl _, PrU.zero _ _⟩
  · rintro m s H' ⟨i, hm, h0, h1, h7, h8, h9, hp, hu⟩
    have hr' := hr.pre hp
    simp (maxSteps := 1000000) (disch := omega) only [h0, h1, h7, h8, h9, S, S1, S2, S3, S4, S5, ST, eq_self, reduceIte, reduceCtorEq, Nat.reduceEqDiff, Nat.reduceAdd]
    refine brD.intro (fun g => ?_) (fun g => ?_)
    · have hi : i < ps.length := by omega
      have hst0 := store_a2 H' [.int .i64 0, .int .i64 0] rfl
      simp (maxSteps := 1000000) (disch := omega) only [h0, h1, h7, h8, h9, hr'.ix Try.underlying22 cs76, Int.toNat_natCast, hr'.ld ag76 cs76 hi, alloc_a2, hst0, cell_new, wrap64, S, S1, S2, S3, S4, S5, ST, eq_self, reduceIte, reduceCtorEq, Nat.reduceEqDiff, Nat.reduceAdd]
      generalize hB : H' ++ [AObj.cells [.int .i64 (ps.getD i (0, 0)).1, .int .i64 (ps.getD i (0, 0)).2] 76 false] = B
      have pB : H' <+: B := by rw [← hB]; exact List.prefix_append _ _
      have b0 : B[H'.length]? = some (.cells [.int .i64 (ps.getD i (0, 0)).1, .int .i64 (ps.getD i (0, 0)).2] 76 false) := by rw [← hB]; exact at_new ..
      have hrB := hr'.pre pB
      have hBp := hp.trans pB
      have e0 : ((i : Int) - 1).toNat = i - 1 := by omega
      have ok2 : prOk n ps i → PrU n ps (i + 1) := fun h => hu.succ h
      have bad : ¬ prOk n ps i → ∀ G, H <+: G → decide (PrU n ps ps.length) = false ∧ H <+: G := fun h G hG => ⟨decide_eq_false (PrU.no hi h), hG⟩
      have hld1 : 0 < i → loadA Try.prog 76 (.pointer (some ⟨rowO v, rowK v + 2 * (i - 1), none⟩)) B = some (.agg (List.toArray [.int .i64 (ps.getD (i - 1) (0, 0)).1, .int .i64 (ps.getD (i - 1) (0, 0)).2])) := fun h => hrB.ld ag76 cs76 (by omega)
      unfold prOk at ok2 bad
      generalize hx : ps.getD i (0, 0) = x at *
      generalize hy : ps.getD (i - 1) (0, 0) = y at *
      refine brD.intro (fun e1 => ?_) (fun e1 => ?_) <;> simp (maxSteps := 1000000) (disch := omega) only [e1, cell_of b0, h0, h1, h7, h8, h9, wrap64, S, S1, S2, S3, S4, S5, ST, eq_self, reduceIte, reduceCtorEq, Nat.reduceEqDiff, Nat.reduceAdd]
      · refine hQ _ _ _ ?_
        simp (maxSteps := 1000000) (disch := omega) only [S, S1, S2, S3, S4, S5, ST, eq_self, reduceIte, reduceCtorEq, Nat.reduceEqDiff, Nat.reduceAdd]
        obtain ⟨q1, q2⟩ := bad (by omega) _ hBp
        rw [q1]
        exact ⟨rfl, q2⟩
      · refine brD.intro (fun e2 => ?_) (fun e2 => ?_) <;> simp (maxSteps := 1000000) (disch := omega) only [e1, e2, cell_of b0, h0, h1, h7, h8, h9, wrap64, S, S1, S2, S3, S4, S5, ST, eq_self, reduceIte, reduceCtorEq, Nat.reduceEqDiff, Nat.reduceAdd]
        · refine hQ _ _ _ ?_
          simp (maxSteps := 1000000) (disch := omega) only [S, S1, S2, S3, S4, S5, ST, eq_self, reduceIte, reduceCtorEq, Nat.reduceEqDiff, Nat.reduceAdd]
          obtain ⟨q1, q2⟩ := bad (by omega) _ hBp
          rw [q1]
          exact ⟨rfl, q2⟩
        · refine brD.intro (fun e3 => ?_) (fun e3 => ?_) <;> simp (maxSteps := 1000000) (disch := omega) only [e1, e2, e3, cell_of b0, h0, h1, h7, h8, h9, wrap64, S, S1, S2, S3, S4, S5, ST, eq_self, reduceIte, reduceCtorEq, Nat.reduceEqDiff, Nat.reduceAdd]
          · refine hQ _ _ _ ?_
            simp (maxSteps := 1000000) (disch := omega) only [S, S1, S2, S3, S4, S5, ST, eq_self, reduceIte, reduceCtorEq, Nat.reduceEqDiff, Nat.reduceAdd]
            obtain ⟨q1, q2⟩ := bad (by omega) _ hBp
            rw [q1]
            exact ⟨rfl, q2⟩
          · refine brD.intro (fun e4 => ?_) (fun e4 => ?_) <;> simp (maxSteps := 1000000) (disch := omega) only [e1, e2, e3, e4, h0, h1, h7, h8, h9, wrap64, S, S1, S2, S3, S4, S5, ST, eq_self, reduceIte, reduceCtorEq, Nat.reduceEqDiff, Nat.reduceAdd]
            · have hi1 : 0 < i := by omega
              simp (maxSteps := 1000000) (disch := omega) only [e1, e2, e3, e4, e0, h0, h1, h7, h8, h9, hrB.ix Try.underlying22 cs76, hld1 hi1, ld_a2 b0, wrap64, S, S1, S2, S3, S4, S5, ST, eq_self, reduceIte, reduceCtorEq, Nat.reduceEqDiff, Nat.reduceAdd]
              refine CallH.by (comparePairs_c y x B) ?_
              rintro _ C ⟨rfl, pC⟩
              have hCp := hBp.trans pC
              simp (maxSteps := 1000000) (disch := omega) only [e1, e2, e3, e4, S, S1, S2, S3, S4, S5, ST, eq_self, reduceIte, reduceCtorEq, Nat.reduceEqDiff, Nat.reduceAdd]
              refine brD.intro (fun e5 => ?_) (fun e5 => ?_) <;> simp (maxSteps := 1000000) (disch := omega) only [e1, e2, e3, e4, e5, h0, h1, h7, h8, h9, wrap64, S, S1, S2, S3, S4, S5, ST, eq_self, reduceIte, reduceCtorEq, Nat.reduceEqDiff, Nat.reduceAdd]
              · refine hQ _ _ _ ?_
                simp (maxSteps := 1000000) (disch := omega) only [S, S1, S2, S3, S4, S5, ST, eq_self, reduceIte, reduceCtorEq, Nat.reduceEqDiff, Nat.reduceAdd]
                obtain ⟨q1, q2⟩ := bad (fun h => (cmpP_ge y x).1 e5 (h.2.2.2 hi1)) _ hCp
                rw [q1]
                exact ⟨rfl, q2⟩
              · have f1 := ok2 ⟨by omega, by omega, by omega, fun _ => Decidable.not_not.1 fun h => e5 ((cmpP_ge y x).2 h)⟩
                refine ⟨m - 1, by omega, i + 1, ?_⟩
                (repeat' first | exact f1 | exact hCp | apply And.intro) <;> first | (simp only [Value.int.injEq, true_and]; omega) | omega | rfl | assumption | (simp; done) | (simp; omega)
            · have f1 := ok2 ⟨by omega, by omega, by omega, fun h => absurd h (by omega)⟩
              refine ⟨m - 1, by omega, i + 1, ?_⟩
              (repeat' first | exact f1 | exact hBp | apply And.intro) <;> first | (simp only [Value.int.injEq, true_and]; omega) | omega | rfl | assumption | (simp; done) | (simp; omega)
    · simp (maxSteps := 1000000) (disch := omega) only [h0, h1, h7, h8, h9, S, S1, S2, S3, S4, S5, ST, eq_self, reduceIte, reduceCtorEq, Nat.reduceEqDiff, Nat.reduceAdd]
      refine hQ _ _ _ ?_
      simp (maxSteps := 1000000) (disch := omega) only [S, S1, S2, S3, S4, S5, ST, eq_self, reduceIte, reduceCtorEq, Nat.reduceEqDiff, Nat.reduceAdd]
      have : i = ps.length := by omega
      subst this
      simp [hu, hp]

theorem l2Good_c (n : Int) (v : Value) (ps : List (Int × Int)) (H : AH) (hr : RowP 76 H v ps) (hlen : ps.length ≤ 1099511627776) :
    ACalls Try.prog 57 [.agg (List.toArray [.int .i64 n, v])] H fun r H' => r = .bool (decide (Grd n ps)) ∧ H <+: H' := by
  refine in57 rfl ?_
  intro Q hQ
  simp (maxSteps := 1000000) (disch := omega) only [cd57, hr.boxG, S, S1, S2, S3, S4, S5, ST, eq_self, reduceIte, reduceCtorEq, Nat.reduceEqDiff, Nat.reduceAdd]
  generalize hA : H ++ [AObj.cells [.int .i64 n, v] 28 false] = A
  have pA : H <+: A := by rw [← hA]; exact List.prefix_append _ _
  have cA : A[H.length]? = some (.cells [.int .i64 n, v] 28 false) := by rw [← hA]; exact at_new ..
  have rA := hr.pre pA
  simp (maxSteps := 1000000) (disch := omega) only [cell_of cA, S, S1, S2, S3, S4, S5, ST, eq_self, reduceIte, reduceCtorEq, Nat.reduceEqDiff, Nat.reduceAdd]
  refine CallH.by (l1In_c _ _ _ A) ?_
  rintro _ _ ⟨rfl, rfl⟩
  simp (maxSteps := 1000000) (disch := omega) only [cell_of cA, S, S1, S2, S3, S4, S5, ST, eq_self, reduceIte, reduceCtorEq, Nat.reduceEqDiff, Nat.reduceAdd]
  refine brD.intro (fun e => ?_) (fun e => ?_) <;> simp (maxSteps := 1000000) (disch := omega) only [e, cell_of cA, S, S1, S2, S3, S4, S5, ST, eq_self, reduceIte, reduceCtorEq, Nat.reduceEqDiff, Nat.reduceAdd]
  · refine CallH.by (l2Pairs_c v n ps A rA hlen e) ?_
    rintro _ B ⟨rfl, pB⟩
    simp (maxSteps := 1000000) (disch := omega) only [e, S, S1, S2, S3, S4, S5, ST, eq_self, reduceIte, reduceCtorEq, Nat.reduceEqDiff, Nat.reduceAdd]
    refine hQ _ _ _ ?_
    simp (maxSteps := 1000000) (disch := omega) only [e, S, S1, S2, S3, S4, S5, ST, eq_self, reduceIte, reduceCtorEq, Nat.reduceEqDiff, Nat.reduceAdd]
    exact ⟨by simp [Grd, e], pA.trans pB⟩
  · refine hQ _ _ _ ?_
    simp (maxSteps := 1000000) (disch := omega) only [e, S, S1, S2, S3, S4, S5, ST, eq_self, reduceIte, reduceCtorEq, Nat.reduceEqDiff, Nat.reduceAdd]
    exact ⟨by simp [Grd, e], pA⟩

theorem IsGraph_c (n : Int) (v : Value) (ps : List (Int × Int)) (H : AH) (hr : RowP 76 H v ps) (hlen : ps.length ≤ 1099511627776) :
    ACalls Try.prog 60 [.agg (List.toArray [.int .i64 n, v])] H fun r H' => r = .bool (decide (Grd n ps)) ∧ H <+: H' := by
  refine in60 rfl ?_
  intro Q hQ
  simp (maxSteps := 1000000) (disch := omega) only [cd60, hr.boxG, S, S1, S2, S3, S4, S5, ST, eq_self, reduceIte, reduceCtorEq, Nat.reduceEqDiff, Nat.reduceAdd]
  generalize hA : H ++ [AObj.cells [.int .i64 n, v] 28 false] = A
  have pA : H <+: A := by rw [← hA]; exact List.prefix_append _ _
  have cA : A[H.length]? = some (.cells [.int .i64 n, v] 28 false) := by rw [← hA]; exact at_new ..
  have rA := hr.pre pA
  simp (maxSteps := 1000000) (disch := omega) only [cell_of cA, S, S1, S2, S3, S4, S5, ST, eq_self, reduceIte, reduceCtorEq, Nat.reduceEqDiff, Nat.reduceAdd]
  refine CallH.by (between_c _ _ _ A) ?_
  rintro _ _ ⟨rfl, rfl⟩
  simp (maxSteps := 1000000) (disch := omega) only [cell_of cA, S, S1, S2, S3, S4, S5, ST, eq_self, reduceIte, reduceCtorEq, Nat.reduceEqDiff, Nat.reduceAdd]
  refine brD.intro (fun e => ?_) (fun e => ?_) <;> simp (maxSteps := 1000000) (disch := omega) only [e, cell_of cA, S, S1, S2, S3, S4, S5, ST, eq_self, reduceIte, reduceCtorEq, Nat.reduceEqDiff, Nat.reduceAdd]
  · refine CallH.by (isPairs_c v n ps A rA hlen e) ?_
    rintro _ B ⟨rfl, pB⟩
    simp (maxSteps := 1000000) (disch := omega) only [e, S, S1, S2, S3, S4, S5, ST, eq_self, reduceIte, reduceCtorEq, Nat.reduceEqDiff, Nat.reduceAdd]
    refine hQ _ _ _ ?_
    simp (maxSteps := 1000000) (disch := omega) only [e, S, S1, S2, S3, S4, S5, ST, eq_self, reduceIte, reduceCtorEq, Nat.reduceEqDiff, Nat.reduceAdd]
    exact ⟨by simp [Grd, e], pA.trans pB⟩
  · refine hQ _ _ _ ?_
    simp (maxSteps := 1000000) (disch := omega) only [e, S, S1, S2, S3, S4, S5, ST, eq_self, reduceIte, reduceCtorEq, Nat.reduceEqDiff, Nat.reduceAdd]
    exact ⟨by simp [Grd, e], pA⟩

end Go.Proofs.Ythhnpchjjbjabaa.Ai
