/- Texts of this claim, joined: Good, Pair, Near, Dix, MatP, Has, Seq, Coll, Perm, Match, DfB, Jmp, MatA, MatN. -/
import Derived.Test.YtlfongfhbkefmaaProg
import Derived.KernelRfl
import Derived.RangeFuncBox
import Derived.RangeFuncLeaves
import Derived.Shelf.Abstract
import Derived.WalkKit
import Derived.OwnWalkIn
import Derived.TacticsInMore
import Derived.LoopNIn
import Derived.LoopIn
import Derived.Maps.AppendAt
import Derived.Test.YtlfongfhbkefmaaMgLawMss3
namespace Go.Proofs.Ytlfongfhbkefmaa.Ai
open Go
def ords208 : List (Nat × List (Nat × Bool)) := []
def cd208 : Cd := (.seq (.reg [⟨⟨some 2, Op.box 81 (Operand.tmp 0), none⟩, []⟩,
  ⟨⟨some 3, Op.box 81 (Operand.tmp 1), none⟩, []⟩,
  ⟨⟨some 4, Op.assign (Operand.const (Value.bool false)), none⟩, []⟩]) (.seq (.reg [⟨⟨some 5, Op.indexAddr 81 (Operand.tmp 2) (Operand.const (Value.int IntKind.i64 0)), none⟩, []⟩,
  ⟨⟨some 6, Op.load 3 (Operand.tmp 5), none⟩, []⟩,
  ⟨⟨some 7, Op.indexAddr 81 (Operand.tmp 3) (Operand.const (Value.int IntKind.i64 0)), none⟩, []⟩,
  ⟨⟨some 8, Op.load 3 (Operand.tmp 7), none⟩, []⟩,
  ⟨⟨some 9, Op.binOp BinOp.lss 3 (Operand.tmp 6) (Operand.tmp 8) 3, none⟩, []⟩,
  ⟨⟨some 10, Op.move (Operand.tmp 9), none⟩, []⟩,
  ⟨⟨some 11, Op.indexAddr 81 (Operand.tmp 2) (Operand.const (Value.int IntKind.i64 0)), some (10, false)⟩, []⟩,
  ⟨⟨some 12, Op.load 3 (Operand.tmp 11), some (10, false)⟩, []⟩,
  ⟨⟨some 13, Op.indexAddr 81 (Operand.tmp 3) (Operand.const (Value.int IntKind.i64 0)), some (10, false)⟩, []⟩,
  ⟨⟨some 14, Op.load 3 (Operand.tmp 13), some (10, false)⟩, []⟩,
  ⟨⟨some 15, Op.binOp BinOp.eql 3 (Operand.tmp 12) (Operand.tmp 14) 3, some (10, false)⟩, []⟩,
  ⟨⟨some 16, Op.move (Operand.tmp 15), some (10, false)⟩, []⟩,
  ⟨⟨some 17, Op.indexAddr 81 (Operand.tmp 2) (Operand.const (Value.int IntKind.i64 1)), some (16, true)⟩, []⟩,
  ⟨⟨some 18, Op.load 3 (Operand.tmp 17), some (16, true)⟩, []⟩,
  ⟨⟨some 19, Op.indexAddr 81 (Operand.tmp 3) (Operand.const (Value.int IntKind.i64 1)), some (16, true)⟩, []⟩,
  ⟨⟨some 20, Op.load 3 (Operand.tmp 19), some (16, true)⟩, []⟩,
  ⟨⟨some 21, Op.binOp BinOp.lss 3 (Operand.tmp 18) (Operand.tmp 20) 3, some (16, true)⟩, []⟩,
  ⟨⟨some 22, Op.pick (Operand.tmp 16) (Operand.tmp 21) (Operand.const (Value.bool false)), some (10, false)⟩, []⟩,
  ⟨⟨some 23, Op.pick (Operand.tmp 10) (Operand.const (Value.bool true)) (Operand.tmp 22), none⟩, []⟩,
  ⟨⟨some 4, Op.assign (Operand.tmp 23), none⟩, []⟩]) .ret))
theorem sl208 : slim Try.f208.ntmps ords208 (Try.f208.body.getD .skip) = some cd208 := by kernel_rfl
theorem in208 {args : List Value} {H : AH} {R : Value → AH → Prop} (hl : args.length = 2) (h : ∀ (Q : Exit → Sl → AH → Prop), (∀ e s H, endA Try.prog [ResultVar.tmp 4] R e s H → Q e s H) → wpC Try.prog cd208 Q (enterA args) H) : ACalls Try.prog 208 args H R :=
  ACalls.intro (by kernel_rfl) Try.func208 rfl (by kernel_rfl) sl208 hl (of_decide_eq_true (by kernel_rfl)) (by kernel_rfl) h
def ords212 : List (Nat × List (Nat × Bool)) := []
def cd212 : Cd := (.seq (.reg [⟨⟨some 4, Op.assign (Operand.const (Value.int IntKind.i64 0)), none⟩, []⟩]) (.seq (.reg [⟨⟨some 7, Op.move (Operand.tmp 0), none⟩, []⟩,
  ⟨⟨some 8, Op.call { callee := (Callee.value (Operand.func 256)), args := #[(Operand.tmp 7)], argTypes := #[3] }, none⟩, []⟩,
  ⟨⟨some 5, Op.assign (Operand.tmp 8), none⟩, []⟩]) (.seq (.reg [⟨⟨some 9, Op.move (Operand.tmp 1), none⟩, []⟩,
  ⟨⟨some 10, Op.call { callee := (Callee.value (Operand.func 256)), args := #[(Operand.tmp 9)], argTypes := #[3] }, none⟩, []⟩,
  ⟨⟨some 6, Op.assign (Operand.tmp 10), none⟩, []⟩]) (.seq (.seq (.reg [⟨⟨some 11, Op.move (Operand.tmp 5), none⟩, []⟩]) (.cond (Operand.tmp 11) (.seq (.seq (.reg [⟨⟨some 12, Op.move (Operand.tmp 6), none⟩, []⟩]) (.cond (Operand.tmp 12) (.seq (.reg [⟨⟨some 4, Op.assign (Operand.const (Value.int IntKind.i64 0)), none⟩, []⟩]) .ret) .skip)) (.seq (.reg [⟨⟨some 4, Op.assign (Operand.const (Value.int IntKind.i64 (-1))), none⟩, []⟩]) .ret)) .skip)) (.seq (.seq (.reg [⟨⟨some 13, Op.move (Operand.tmp 6), none⟩, []⟩]) (.cond (Operand.tmp 13) (.seq (.reg [⟨⟨some 4, Op.assign (Operand.const (Value.int IntKind.i64 1)), none⟩, []⟩]) .ret) .skip)) (.seq (.seq (.reg [⟨⟨some 14, Op.move (Operand.tmp 0), none⟩, []⟩,
  ⟨⟨some 15, Op.move (Operand.tmp 1), none⟩, []⟩,
  ⟨⟨some 16, Op.binOp BinOp.lss 3 (Operand.tmp 14) (Operand.tmp 15) 3, none⟩, []⟩]) (.cond (Operand.tmp 16) (.seq (.reg [⟨⟨some 4, Op.assign (Operand.const (Value.int IntKind.i64 (-1))), none⟩, []⟩]) .ret) .skip)) (.seq (.seq (.reg [⟨⟨some 17, Op.move (Operand.tmp 0), none⟩, []⟩,
  ⟨⟨some 18, Op.move (Operand.tmp 1), none⟩, []⟩,
  ⟨⟨some 19, Op.binOp BinOp.gtr 3 (Operand.tmp 17) (Operand.tmp 18) 3, none⟩, []⟩]) (.cond (Operand.tmp 19) (.seq (.reg [⟨⟨some 4, Op.assign (Operand.const (Value.int IntKind.i64 1)), none⟩, []⟩]) .ret) .skip)) (.seq (.reg [⟨⟨some 4, Op.assign (Operand.const (Value.int IntKind.i64 0)), none⟩, []⟩]) .ret))))))))
theorem sl212 : slim Try.f212.ntmps ords212 (Try.f212.body.getD .skip) = some cd212 := by kernel_rfl
theorem in212 {args : List Value} {H : AH} {R : Value → AH → Prop} (hl : args.length = 2) (h : ∀ (Q : Exit → Sl → AH → Prop), (∀ e s H, endA Try.prog [ResultVar.tmp 4] R e s H → Q e s H) → wpC Try.prog cd212 Q (enterA args) H) : ACalls Try.prog 212 args H R :=
  ACalls.intro (by kernel_rfl) Try.func212 rfl (by kernel_rfl) sl212 hl (of_decide_eq_true (by kernel_rfl)) (by kernel_rfl) h
def ords247 : List (Nat × List (Nat × Bool)) := []
def cd247 : Cd := (.seq (.reg [⟨⟨some 2, Op.assign (Operand.const (Value.int IntKind.i64 0)), none⟩, []⟩]) (.seq (.reg [⟨⟨some 3, Op.assign (Operand.const (Value.int IntKind.i64 0)), none⟩, []⟩]) (.seq (.seq (.reg [⟨⟨some 6, Op.move (Operand.tmp 0), none⟩, []⟩,
  ⟨⟨some 7, Op.call { callee := (Callee.builtin Builtin.len), args := #[(Operand.tmp 6)], argTypes := #[38] }, none⟩, []⟩,
  ⟨⟨some 8, Op.move (Operand.const (Value.int IntKind.i64 0)), none⟩, []⟩]) (.block 0 (.loop (.seq (.reg [⟨⟨some 9, Op.binOp BinOp.lss 3 (Operand.tmp 8) (Operand.tmp 7) 3, none⟩, []⟩]) (.seq (.cond (Operand.tmp 9) .skip (.exit 0)) (.seq (.block 1 (.seq (.reg [⟨⟨some 10, Op.indexAddr 38 (Operand.tmp 6) (Operand.tmp 8), none⟩, []⟩,
  ⟨⟨some 11, Op.load 3 (Operand.tmp 10), none⟩, []⟩,
  ⟨⟨some 5, Op.assign (Operand.tmp 11), none⟩, []⟩]) (.seq (.reg [⟨⟨some 12, Op.move (Operand.tmp 5), none⟩, []⟩,
  ⟨⟨some 13, Op.move (Operand.tmp 3), none⟩, []⟩,
  ⟨⟨some 14, Op.binOp BinOp.neq 3 (Operand.tmp 12) (Operand.tmp 13) 3, none⟩, []⟩]) (.cond (Operand.tmp 14) (.seq (.reg [⟨⟨some 15, Op.move (Operand.tmp 5), none⟩, []⟩,
  ⟨⟨some 2, Op.assign (Operand.tmp 15), none⟩, []⟩]) .ret) .skip)))) (.reg [⟨⟨some 16, Op.binOp BinOp.add 3 (Operand.tmp 8) (Operand.const (Value.int IntKind.i64 1)) 3, none⟩, []⟩,
  ⟨⟨some 8, Op.move (Operand.tmp 16), none⟩, []⟩]))))))) (.seq (.reg [⟨⟨some 17, Op.move (Operand.tmp 3), none⟩, []⟩,
  ⟨⟨some 2, Op.assign (Operand.tmp 17), none⟩, []⟩]) .ret))))
theorem sl247 : slim Try.f247.ntmps ords247 (Try.f247.body.getD .skip) = some cd247 := by kernel_rfl
theorem in247 {args : List Value} {H : AH} {R : Value → AH → Prop} (hl : args.length = 1) (h : ∀ (Q : Exit → Sl → AH → Prop), (∀ e s H, endA Try.prog [ResultVar.tmp 2] R e s H → Q e s H) → wpC Try.prog cd247 Q (enterA args) H) : ACalls Try.prog 247 args H R :=
  ACalls.intro (by kernel_rfl) Try.func247 rfl (by kernel_rfl) sl247 hl (of_decide_eq_true (by kernel_rfl)) (by kernel_rfl) h
def ords209 : List (Nat × List (Nat × Bool)) := [(1, [(0, false), (1, false), (2, false), (3, false), (5, false), (6, false), (7, false), (8, false), (4, true), (9, true), (10, false), (11, true), (12, false)])]
def cd209 : Cd := (.seq (.reg [⟨⟨some 2, Op.box 81 (Operand.tmp 0), none⟩, []⟩,
  ⟨⟨some 3, Op.box 81 (Operand.tmp 1), none⟩, []⟩,
  ⟨⟨some 4, Op.assign (Operand.const (Value.int IntKind.i64 0)), none⟩, []⟩]) (.seq (.reg [⟨⟨some 5, Op.indexAddr 81 (Operand.tmp 2) (Operand.const (Value.int IntKind.i64 0)), none⟩, []⟩,
  ⟨⟨some 6, Op.load 3 (Operand.tmp 5), none⟩, []⟩,
  ⟨⟨some 7, Op.indexAddr 81 (Operand.tmp 3) (Operand.const (Value.int IntKind.i64 0)), none⟩, []⟩,
  ⟨⟨some 8, Op.load 3 (Operand.tmp 7), none⟩, []⟩,
  ⟨⟨some 10, Op.indexAddr 81 (Operand.tmp 2) (Operand.const (Value.int IntKind.i64 1)), none⟩, []⟩,
  ⟨⟨some 11, Op.load 3 (Operand.tmp 10), none⟩, []⟩,
  ⟨⟨some 12, Op.indexAddr 81 (Operand.tmp 3) (Operand.const (Value.int IntKind.i64 1)), none⟩, []⟩,
  ⟨⟨some 13, Op.load 3 (Operand.tmp 12), none⟩, []⟩,
  ⟨⟨some 9, Op.call { callee := (Callee.value (Operand.func 212)), args := #[(Operand.tmp 6), (Operand.tmp 8)], argTypes := #[3, 3] }, none⟩, [⟨some 13, Op.load 3 (Operand.tmp 12), none⟩, ⟨some 11, Op.load 3 (Operand.tmp 10), none⟩]⟩,
  ⟨⟨some 14, Op.call { callee := (Callee.value (Operand.func 212)), args := #[(Operand.tmp 11), (Operand.tmp 13)], argTypes := #[3, 3] }, none⟩, []⟩,
  ⟨⟨some 15, Op.buildSlice 38 2 #[(0, (Operand.tmp 9)), (1, (Operand.tmp 14))], none⟩, []⟩,
  ⟨⟨some 16, Op.call { callee := (Callee.value (Operand.func 247)), args := #[(Operand.tmp 15)], argTypes := #[38] }, none⟩, []⟩,
  ⟨⟨some 4, Op.assign (Operand.tmp 16), none⟩, []⟩]) .ret))
theorem sl209 : slim Try.f209.ntmps ords209 (Try.f209.body.getD .skip) = some cd209 := by kernel_rfl
theorem in209 {args : List Value} {H : AH} {R : Value → AH → Prop} (hl : args.length = 2) (h : ∀ (Q : Exit → Sl → AH → Prop), (∀ e s H, endA Try.prog [ResultVar.tmp 4] R e s H → Q e s H) → wpC Try.prog cd209 Q (enterA args) H) : ACalls Try.prog 209 args H R :=
  ACalls.intro (by kernel_rfl) Try.func209 rfl (by kernel_rfl) sl209 hl (of_decide_eq_true (by kernel_rfl)) (by kernel_rfl) h
def ords150 : List (Nat × List (Nat × Bool)) := [(5, [(0, false), (1, false), (2, false), (3, false), (4, true), (5, false), (6, false), (7, false), (8, false), (9, false), (10, false), (11, true), (12, false), (13, false), (14, false), (15, false), (16, false), (17, false), (18, false), (19, false), (20, false), (21, false), (22, false), (23, false), (24, false), (25, false), (26, false), (27, false), (28, false), (29, false), (30, false), (31, true), (32, false), (33, false), (34, false)])]
def cd150 : Cd := (.seq (.reg [⟨⟨some 4, Op.assign (Operand.const (Value.bool false)), none⟩, []⟩]) (.seq (.seq (.reg [⟨⟨some 5, Op.assign (Operand.const (Value.int IntKind.i64 0)), none⟩, []⟩]) (.block 0 (.loop (.seq (.seq (.reg [⟨⟨some 7, Op.move (Operand.tmp 5), none⟩, []⟩,
  ⟨⟨some 8, Op.move (Operand.tmp 0), none⟩, []⟩,
  ⟨⟨some 9, Op.call { callee := (Callee.builtin Builtin.len), args := #[(Operand.tmp 8)], argTypes := #[22] }, none⟩, []⟩,
  ⟨⟨some 10, Op.binOp BinOp.lss 3 (Operand.tmp 7) (Operand.tmp 9) 3, none⟩, []⟩]) (.cond (Operand.tmp 10) .skip (.exit 0))) (.seq (.block 1 (.seq (.reg [⟨⟨some 13, Op.move (Operand.tmp 0), none⟩, []⟩,
  ⟨⟨some 14, Op.move (Operand.tmp 5), none⟩, []⟩,
  ⟨⟨some 15, Op.indexAddr 22 (Operand.tmp 13) (Operand.tmp 14), none⟩, []⟩,
  ⟨⟨some 16, Op.load 81 (Operand.tmp 15), none⟩, []⟩,
  ⟨⟨some 6, Op.alloc 81, none⟩, []⟩,
  ⟨⟨none, Op.store 81 (Operand.tmp 6) (Operand.tmp 16), none⟩, []⟩]) (.seq (.reg [⟨⟨some 17, Op.indexAddr 81 (Operand.tmp 6) (Operand.const (Value.int IntKind.i64 0)), none⟩, []⟩,
  ⟨⟨some 18, Op.load 3 (Operand.tmp 17), none⟩, []⟩,
  ⟨⟨some 19, Op.move (Operand.tmp 1), none⟩, []⟩,
  ⟨⟨some 20, Op.binOp BinOp.sub 3 (Operand.tmp 19) (Operand.const (Value.int IntKind.i64 1)) 3, none⟩, []⟩,
  ⟨⟨some 21, Op.call { callee := (Callee.value (Operand.func 67)), args := #[(Operand.tmp 18), (Operand.const (Value.int IntKind.i64 0)), (Operand.tmp 20)], argTypes := #[3, 3, 3] }, none⟩, []⟩,
  ⟨⟨some 22, Op.unOp UnOp.not 4 (Operand.tmp 21), none⟩, []⟩,
  ⟨⟨some 23, Op.move (Operand.tmp 22), none⟩, []⟩,
  ⟨⟨some 24, Op.indexAddr 81 (Operand.tmp 6) (Operand.const (Value.int IntKind.i64 1)), some (23, false)⟩, []⟩,
  ⟨⟨some 25, Op.load 3 (Operand.tmp 24), some (23, false)⟩, []⟩,
  ⟨⟨some 26, Op.move (Operand.tmp 1), some (23, false)⟩, []⟩,
  ⟨⟨some 27, Op.binOp BinOp.sub 3 (Operand.tmp 26) (Operand.const (Value.int IntKind.i64 1)) 3, some (23, false)⟩, []⟩,
  ⟨⟨some 28, Op.call { callee := (Callee.value (Operand.func 67)), args := #[(Operand.tmp 25), (Operand.const (Value.int IntKind.i64 0)), (Operand.tmp 27)], argTypes := #[3, 3, 3] }, some (23, false)⟩, []⟩,
  ⟨⟨some 29, Op.unOp UnOp.not 4 (Operand.tmp 28), some (23, false)⟩, []⟩,
  ⟨⟨some 30, Op.pick (Operand.tmp 23) (Operand.const (Value.bool true)) (Operand.tmp 29), none⟩, []⟩,
  ⟨⟨some 31, Op.move (Operand.tmp 30), none⟩, []⟩,
  ⟨⟨some 32, Op.indexAddr 81 (Operand.tmp 6) (Operand.const (Value.int IntKind.i64 0)), some (31, false)⟩, []⟩,
  ⟨⟨some 33, Op.load 3 (Operand.tmp 32), some (31, false)⟩, []⟩,
  ⟨⟨some 34, Op.indexAddr 81 (Operand.tmp 6) (Operand.const (Value.int IntKind.i64 1)), some (31, false)⟩, []⟩,
  ⟨⟨some 35, Op.load 3 (Operand.tmp 34), some (31, false)⟩, []⟩,
  ⟨⟨some 36, Op.binOp BinOp.geq 3 (Operand.tmp 33) (Operand.tmp 35) 3, some (31, false)⟩, []⟩,
  ⟨⟨some 37, Op.pick (Operand.tmp 31) (Operand.const (Value.bool true)) (Operand.tmp 36), none⟩, []⟩,
  ⟨⟨some 38, Op.move (Operand.tmp 37), none⟩, []⟩,
  ⟨⟨some 39, Op.move (Operand.tmp 5), some (38, false)⟩, []⟩,
  ⟨⟨some 40, Op.binOp BinOp.gtr 3 (Operand.tmp 39) (Operand.const (Value.int IntKind.i64 0)) 3, some (38, false)⟩, []⟩,
  ⟨⟨some 41, Op.move (Operand.tmp 40), some (38, false)⟩, []⟩,
  ⟨⟨some 42, Op.move (Operand.tmp 0), some (41, true)⟩, []⟩,
  ⟨⟨some 43, Op.move (Operand.tmp 5), some (41, true)⟩, []⟩,
  ⟨⟨some 44, Op.binOp BinOp.sub 3 (Operand.tmp 43) (Operand.const (Value.int IntKind.i64 1)) 3, some (41, true)⟩, []⟩,
  ⟨⟨some 45, Op.indexAddr 22 (Operand.tmp 42) (Operand.tmp 44), some (41, true)⟩, []⟩,
  ⟨⟨some 46, Op.load 81 (Operand.tmp 45), some (41, true)⟩, []⟩,
  ⟨⟨some 47, Op.load 81 (Operand.tmp 6), some (41, true)⟩, []⟩,
  ⟨⟨some 48, Op.call { callee := (Callee.value (Operand.func 208)), args := #[(Operand.tmp 46), (Operand.tmp 47)], argTypes := #[81, 81] }, some (41, true)⟩, []⟩,
  ⟨⟨some 49, Op.unOp UnOp.not 4 (Operand.tmp 48), some (41, true)⟩, []⟩,
  ⟨⟨some 50, Op.pick (Operand.tmp 41) (Operand.tmp 49) (Operand.const (Value.bool false)), some (38, false)⟩, []⟩,
  ⟨⟨some 51, Op.pick (Operand.tmp 38) (Operand.const (Value.bool true)) (Operand.tmp 50), none⟩, []⟩]) (.cond (Operand.tmp 51) (.seq (.reg [⟨⟨some 4, Op.assign (Operand.const (Value.bool false)), none⟩, []⟩]) .ret) .skip)))) (.reg [⟨⟨some 11, Op.move (Operand.tmp 5), none⟩, []⟩,
  ⟨⟨some 12, Op.binOp BinOp.add 3 (Operand.tmp 11) (Operand.const (Value.int IntKind.i64 1)) 3, none⟩, []⟩,
  ⟨⟨some 5, Op.assign (Operand.tmp 12), none⟩, []⟩])))))) (.seq (.reg [⟨⟨some 4, Op.assign (Operand.const (Value.bool true)), none⟩, []⟩]) .ret)))
theorem sl150 : slim Try.f150.ntmps ords150 (Try.f150.body.getD .skip) = some cd150 := by kernel_rfl
theorem in150 {args : List Value} {H : AH} {R : Value → AH → Prop} (hl : args.length = 2) (h : ∀ (Q : Exit → Sl → AH → Prop), (∀ e s H, endA Try.prog [ResultVar.tmp 4] R e s H → Q e s H) → wpC Try.prog cd150 Q (enterA args) H) : ACalls Try.prog 150 args H R :=
  ACalls.intro (by kernel_rfl) Try.func150 rfl (by kernel_rfl) sl150 hl (of_decide_eq_true (by kernel_rfl)) (by kernel_rfl) h
def ords153 : List (Nat × List (Nat × Bool)) := [(4, [(0, false), (1, false), (2, false), (3, false), (4, false), (5, false), (6, false), (7, false), (8, false), (9, false), (10, false), (11, false), (12, false), (13, false), (14, false), (15, false), (16, false), (17, false), (18, false), (19, false), (20, false), (21, false), (22, false), (23, false), (24, false), (25, false), (26, true), (27, false), (28, false), (29, false)])]
def cd153 : Cd := (.seq (.reg [⟨⟨some 4, Op.assign (Operand.const (Value.bool false)), none⟩, []⟩]) (.seq (.seq (.reg [⟨⟨some 7, Op.move (Operand.tmp 0), none⟩, []⟩,
  ⟨⟨some 8, Op.call { callee := (Callee.builtin Builtin.len), args := #[(Operand.tmp 7)], argTypes := #[22] }, none⟩, []⟩,
  ⟨⟨some 9, Op.move (Operand.const (Value.int IntKind.i64 0)), none⟩, []⟩]) (.block 0 (.loop (.seq (.reg [⟨⟨some 10, Op.binOp BinOp.lss 3 (Operand.tmp 9) (Operand.tmp 8) 3, none⟩, []⟩]) (.seq (.cond (Operand.tmp 10) .skip (.exit 0)) (.seq (.block 1 (.seq (.reg [⟨⟨some 11, Op.move (Operand.tmp 9), none⟩, []⟩,
  ⟨⟨some 12, Op.indexAddr 22 (Operand.tmp 7) (Operand.tmp 9), none⟩, []⟩,
  ⟨⟨some 13, Op.load 81 (Operand.tmp 12), none⟩, []⟩,
  ⟨⟨some 6, Op.alloc 81, none⟩, []⟩,
  ⟨⟨some 5, Op.assign (Operand.tmp 11), none⟩, []⟩,
  ⟨⟨none, Op.store 81 (Operand.tmp 6) (Operand.tmp 13), none⟩, []⟩]) (.seq (.reg [⟨⟨some 14, Op.indexAddr 81 (Operand.tmp 6) (Operand.const (Value.int IntKind.i64 0)), none⟩, []⟩,
  ⟨⟨some 15, Op.load 3 (Operand.tmp 14), none⟩, []⟩,
  ⟨⟨some 16, Op.binOp BinOp.lss 3 (Operand.tmp 15) (Operand.const (Value.int IntKind.i64 0)) 3, none⟩, []⟩,
  ⟨⟨some 17, Op.move (Operand.tmp 16), none⟩, []⟩,
  ⟨⟨some 18, Op.indexAddr 81 (Operand.tmp 6) (Operand.const (Value.int IntKind.i64 0)), some (17, false)⟩, []⟩,
  ⟨⟨some 19, Op.load 3 (Operand.tmp 18), some (17, false)⟩, []⟩,
  ⟨⟨some 20, Op.indexAddr 81 (Operand.tmp 6) (Operand.const (Value.int IntKind.i64 1)), some (17, false)⟩, []⟩,
  ⟨⟨some 21, Op.load 3 (Operand.tmp 20), some (17, false)⟩, []⟩,
  ⟨⟨some 22, Op.binOp BinOp.geq 3 (Operand.tmp 19) (Operand.tmp 21) 3, some (17, false)⟩, []⟩,
  ⟨⟨some 23, Op.pick (Operand.tmp 17) (Operand.const (Value.bool true)) (Operand.tmp 22), none⟩, []⟩,
  ⟨⟨some 24, Op.move (Operand.tmp 23), none⟩, []⟩,
  ⟨⟨some 25, Op.indexAddr 81 (Operand.tmp 6) (Operand.const (Value.int IntKind.i64 1)), some (24, false)⟩, []⟩,
  ⟨⟨some 26, Op.load 3 (Operand.tmp 25), some (24, false)⟩, []⟩,
  ⟨⟨some 27, Op.move (Operand.tmp 1), some (24, false)⟩, []⟩,
  ⟨⟨some 28, Op.binOp BinOp.geq 3 (Operand.tmp 26) (Operand.tmp 27) 3, some (24, false)⟩, []⟩,
  ⟨⟨some 29, Op.pick (Operand.tmp 24) (Operand.const (Value.bool true)) (Operand.tmp 28), none⟩, []⟩,
  ⟨⟨some 30, Op.move (Operand.tmp 29), none⟩, []⟩,
  ⟨⟨some 31, Op.move (Operand.tmp 5), some (30, false)⟩, []⟩,
  ⟨⟨some 32, Op.binOp BinOp.gtr 3 (Operand.tmp 31) (Operand.const (Value.int IntKind.i64 0)) 3, some (30, false)⟩, []⟩,
  ⟨⟨some 33, Op.move (Operand.tmp 32), some (30, false)⟩, []⟩,
  ⟨⟨some 34, Op.move (Operand.tmp 0), some (33, true)⟩, []⟩,
  ⟨⟨some 35, Op.move (Operand.tmp 5), some (33, true)⟩, []⟩,
  ⟨⟨some 36, Op.binOp BinOp.sub 3 (Operand.tmp 35) (Operand.const (Value.int IntKind.i64 1)) 3, some (33, true)⟩, []⟩,
  ⟨⟨some 37, Op.indexAddr 22 (Operand.tmp 34) (Operand.tmp 36), some (33, true)⟩, []⟩,
  ⟨⟨some 38, Op.load 81 (Operand.tmp 37), some (33, true)⟩, []⟩,
  ⟨⟨some 39, Op.load 81 (Operand.tmp 6), some (33, true)⟩, []⟩,
  ⟨⟨some 40, Op.call { callee := (Callee.value (Operand.func 209)), args := #[(Operand.tmp 38), (Operand.tmp 39)], argTypes := #[81, 81] }, some (33, true)⟩, []⟩,
  ⟨⟨some 41, Op.binOp BinOp.geq 3 (Operand.tmp 40) (Operand.const (Value.int IntKind.i64 0)) 3, some (33, true)⟩, []⟩,
  ⟨⟨some 42, Op.pick (Operand.tmp 33) (Operand.tmp 41) (Operand.const (Value.bool false)), some (30, false)⟩, []⟩,
  ⟨⟨some 43, Op.pick (Operand.tmp 30) (Operand.const (Value.bool true)) (Operand.tmp 42), none⟩, []⟩]) (.cond (Operand.tmp 43) (.seq (.reg [⟨⟨some 4, Op.assign (Operand.const (Value.bool false)), none⟩, []⟩]) .ret) .skip)))) (.reg [⟨⟨some 44, Op.binOp BinOp.add 3 (Operand.tmp 9) (Operand.const (Value.int IntKind.i64 1)) 3, none⟩, []⟩,
  ⟨⟨some 9, Op.move (Operand.tmp 44), none⟩, []⟩]))))))) (.seq (.reg [⟨⟨some 4, Op.assign (Operand.const (Value.bool true)), none⟩, []⟩]) .ret)))
theorem sl153 : slim Try.f153.ntmps ords153 (Try.f153.body.getD .skip) = some cd153 := by kernel_rfl
theorem in153 {args : List Value} {H : AH} {R : Value → AH → Prop} (hl : args.length = 2) (h : ∀ (Q : Exit → Sl → AH → Prop), (∀ e s H, endA Try.prog [ResultVar.tmp 4] R e s H → Q e s H) → wpC Try.prog cd153 Q (enterA args) H) : ACalls Try.prog 153 args H R :=
  ACalls.intro (by kernel_rfl) Try.func153 rfl (by kernel_rfl) sl153 hl (of_decide_eq_true (by kernel_rfl)) (by kernel_rfl) h
def ords66 : List (Nat × List (Nat × Bool)) := []
def cd66 : Cd := (.seq (.reg [⟨⟨some 1, Op.box 31 (Operand.tmp 0), none⟩, []⟩,
  ⟨⟨some 2, Op.assign (Operand.const (Value.bool false)), none⟩, []⟩]) (.seq (.reg [⟨⟨some 3, Op.fieldAddr 31 (Operand.tmp 1) 0, none⟩, []⟩,
  ⟨⟨some 4, Op.load 3 (Operand.tmp 3), none⟩, []⟩,
  ⟨⟨some 5, Op.call { callee := (Callee.value (Operand.func 67)), args := #[(Operand.tmp 4), (Operand.const (Value.int IntKind.i64 0)), (Operand.const (Value.int IntKind.i64 8))], argTypes := #[3, 3, 3] }, none⟩, []⟩,
  ⟨⟨some 6, Op.move (Operand.tmp 5), none⟩, []⟩,
  ⟨⟨some 7, Op.fieldAddr 31 (Operand.tmp 1) 1, some (6, true)⟩, []⟩,
  ⟨⟨some 8, Op.load 22 (Operand.tmp 7), some (6, true)⟩, []⟩,
  ⟨⟨some 9, Op.fieldAddr 31 (Operand.tmp 1) 0, some (6, true)⟩, []⟩,
  ⟨⟨some 10, Op.load 3 (Operand.tmp 9), some (6, true)⟩, []⟩,
  ⟨⟨some 11, Op.call { callee := (Callee.value (Operand.func 150)), args := #[(Operand.tmp 8), (Operand.tmp 10)], argTypes := #[22, 3] }, some (6, true)⟩, []⟩,
  ⟨⟨some 12, Op.pick (Operand.tmp 6) (Operand.tmp 11) (Operand.const (Value.bool false)), none⟩, []⟩,
  ⟨⟨some 2, Op.assign (Operand.tmp 12), none⟩, []⟩]) .ret))
theorem sl66 : slim Try.f66.ntmps ords66 (Try.f66.body.getD .skip) = some cd66 := by kernel_rfl
theorem in66 {args : List Value} {H : AH} {R : Value → AH → Prop} (hl : args.length = 1) (h : ∀ (Q : Exit → Sl → AH → Prop), (∀ e s H, endA Try.prog [ResultVar.tmp 2] R e s H → Q e s H) → wpC Try.prog cd66 Q (enterA args) H) : ACalls Try.prog 66 args H R :=
  ACalls.intro (by kernel_rfl) Try.func66 rfl (by kernel_rfl) sl66 hl (of_decide_eq_true (by kernel_rfl)) (by kernel_rfl) h
def ords71 : List (Nat × List (Nat × Bool)) := []
def cd71 : Cd := (.seq (.reg [⟨⟨some 1, Op.box 31 (Operand.tmp 0), none⟩, []⟩,
  ⟨⟨some 2, Op.assign (Operand.const (Value.bool false)), none⟩, []⟩]) (.seq (.reg [⟨⟨some 3, Op.fieldAddr 31 (Operand.tmp 1) 0, none⟩, []⟩,
  ⟨⟨some 4, Op.load 3 (Operand.tmp 3), none⟩, []⟩,
  ⟨⟨some 5, Op.call { callee := (Callee.value (Operand.func 72)), args := #[(Operand.tmp 4), (Operand.const (Value.int IntKind.i64 0)), (Operand.const (Value.int IntKind.i64 8))], argTypes := #[3, 3, 3] }, none⟩, []⟩,
  ⟨⟨some 6, Op.move (Operand.tmp 5), none⟩, []⟩,
  ⟨⟨some 7, Op.fieldAddr 31 (Operand.tmp 1) 1, some (6, true)⟩, []⟩,
  ⟨⟨some 8, Op.load 22 (Operand.tmp 7), some (6, true)⟩, []⟩,
  ⟨⟨some 9, Op.fieldAddr 31 (Operand.tmp 1) 0, some (6, true)⟩, []⟩,
  ⟨⟨some 10, Op.load 3 (Operand.tmp 9), some (6, true)⟩, []⟩,
  ⟨⟨some 11, Op.call { callee := (Callee.value (Operand.func 153)), args := #[(Operand.tmp 8), (Operand.tmp 10)], argTypes := #[22, 3] }, some (6, true)⟩, []⟩,
  ⟨⟨some 12, Op.pick (Operand.tmp 6) (Operand.tmp 11) (Operand.const (Value.bool false)), none⟩, []⟩,
  ⟨⟨some 2, Op.assign (Operand.tmp 12), none⟩, []⟩]) .ret))
theorem sl71 : slim Try.f71.ntmps ords71 (Try.f71.body.getD .skip) = some cd71 := by kernel_rfl
theorem in71 {args : List Value} {H : AH} {R : Value → AH → Prop} (hl : args.length = 1) (h : ∀ (Q : Exit → Sl → AH → Prop), (∀ e s H, endA Try.prog [ResultVar.tmp 2] R e s H → Q e s H) → wpC Try.prog cd71 Q (enterA args) H) : ACalls Try.prog 71 args H R :=
  ACalls.intro (by kernel_rfl) Try.func71 rfl (by kernel_rfl) sl71 hl (of_decide_eq_true (by kernel_rfl)) (by kernel_rfl) h
end Go.Proofs.Ytlfongfhbkefmaa.Ai
namespace Go.Proofs.Ytlfongfhbkefmaa.Ai
open Go Go.RowKit
set_option linter.unusedVariables false
set_option linter.unusedSimpArgs false
/-- pairs in order -/
def pairLt (p q : Int × Int) : Prop := p.1 < q.1 ∨ p.1 = q.1 ∧ p.2 < q.2
instance (p q : Int × Int) : Decidable (pairLt p q) := by unfold pairLt; infer_instance
def prOk (n : Int) (ps : List (Int × Int)) (i : Nat) : Prop :=
  0 ≤ (ps.getD i (0, 0)).1 ∧ (ps.getD i (0, 0)).1 < (ps.getD i (0, 0)).2 ∧ (ps.getD i (0, 0)).2 < n ∧ (0 < i → pairLt (ps.getD (i - 1) (0, 0)) (ps.getD i (0, 0)))
instance (n : Int) (ps : List (Int × Int)) (i : Nat) : Decidable (prOk n ps i) := by unfold prOk; infer_instance
def PrU (n : Int) (ps : List (Int × Int)) (k : Nat) : Prop := ∀ i, i < k → prOk n ps i
instance (n : Int) (ps : List (Int × Int)) (k : Nat) : Decidable (PrU n ps k) := by unfold PrU; infer_instance
def Grd (n : Int) (ps : List (Int × Int)) : Prop := (0 ≤ n ∧ n ≤ 8) ∧ PrU n ps ps.length
instance (n : Int) (ps : List (Int × Int)) : Decidable (Grd n ps) := by unfold Grd; infer_instance
theorem PrU.zero (n : Int) (ps : List (Int × Int)) : PrU n ps 0 := fun i h => absurd h (Nat.not_lt_zero i)
theorem PrU.succ {n : Int} {ps : List (Int × Int)} {k : Nat} (h : PrU n ps k) (h2 : prOk n ps k) : PrU n ps (k + 1) := by
  intro i hi
  rcases Nat.lt_succ_iff_lt_or_eq.1 hi with g | g
  · exact h i g
  · rw [g]; exact h2
theorem PrU.no {n : Int} {ps : List (Int × Int)} {k i : Nat} (hi : i < k) (h : ¬ prOk n ps i) : ¬ PrU n ps k := fun g => h (g i hi)
theorem l2Edge_c (p q : Int × Int) (H : AH) : ACalls Try.prog 208 [.agg (List.toArray [.int .i64 p.1, .int .i64 p.2]), .agg (List.toArray [.int .i64 q.1, .int .i64 q.2])] H fun r H' => r = .bool (decide (pairLt p q)) ∧ H <+: H' := by
  refine in208 rfl ?_
  intro Q hQ
  simp (maxSteps := 1000000) (disch := omega) only [cd208, box_a2, S, S1, S2, S3, S4, S5, ST, eq_self, reduceIte, reduceCtorEq, Nat.reduceEqDiff, Nat.reduceAdd]
  generalize hA : H ++ [AObj.cells [.int .i64 p.1, .int .i64 p.2] 81 false] = A
  have pA : H <+: A := by rw [← hA]; exact List.prefix_append _ _
  have a0 : A[H.length]? = some (.cells [.int .i64 p.1, .int .i64 p.2] 81 false) := by rw [← hA]; exact at_new ..
  generalize hB : A ++ [AObj.cells [.int .i64 q.1, .int .i64 q.2] 81 false] = B
  have pB : A <+: B := by rw [← hB]; exact List.prefix_append _ _
  have b0 := pre_at pB a0
  have b1 : B[A.length]? = some (.cells [.int .i64 q.1, .int .i64 q.2] 81 false) := by rw [← hB]; exact at_new ..
  have pHB := pA.trans pB
  simp (maxSteps := 1000000) (disch := omega) only [cell_of b0, cell_of b1, S, S1, S2, S3, S4, S5, ST, eq_self, reduceIte, reduceCtorEq, Nat.reduceEqDiff, Nat.reduceAdd]
  refine brD.intro (fun e1 => ?_) (fun e1 => ?_) <;> simp (maxSteps := 1000000) (disch := omega) only [e1, cell_of b0, cell_of b1, S, S1, S2, S3, S4, S5, ST, eq_self, reduceIte, reduceCtorEq, Nat.reduceEqDiff, Nat.reduceAdd]
  · refine hQ _ _ _ ?_
    simp (maxSteps := 1000000) (disch := omega) only [e1, S, S1, S2, S3, S4, S5, ST, eq_self, reduceIte, reduceCtorEq, Nat.reduceEqDiff, Nat.reduceAdd]
    exact ⟨by rw [decide_eq_true (show pairLt p q from .inl e1)], pHB⟩
  · refine brD.intro (fun e2 => ?_) (fun e2 => ?_) <;> simp (maxSteps := 1000000) (disch := omega) only [e1, e2, cell_of b0, cell_of b1, S, S1, S2, S3, S4, S5, ST, eq_self, reduceIte, reduceCtorEq, Nat.reduceEqDiff, Nat.reduceAdd]
    · refine hQ _ _ _ ?_
      simp (maxSteps := 1000000) (disch := omega) only [e1, e2, S, S1, S2, S3, S4, S5, ST, eq_self, reduceIte, reduceCtorEq, Nat.reduceEqDiff, Nat.reduceAdd]
      have : pairLt p q ↔ p.2 < q.2 := by unfold pairLt; omega
      exact ⟨by simp [this], pHB⟩
    · refine hQ _ _ _ ?_
      simp (maxSteps := 1000000) (disch := omega) only [e1, e2, S, S1, S2, S3, S4, S5, ST, eq_self, reduceIte, reduceCtorEq, Nat.reduceEqDiff, Nat.reduceAdd]
      have : ¬ pairLt p q := by unfold pairLt; omega
      exact ⟨by simp [this], pHB⟩
def cmpI (a b : Int) : Int := if a < b then -1 else if b < a then 1 else 0
def cmpP (p q : Int × Int) : Int := if cmpI p.1 q.1 ≠ 0 then cmpI p.1 q.1 else cmpI p.2 q.2
theorem cmpP_ge (p q : Int × Int) : (0 ≤ cmpP p q) ↔ ¬ pairLt p q := by
  unfold cmpP cmpI pairLt
  repeat' split
  all_goals omega
theorem Compare_c (a b : Int) (H : AH) : ACalls Try.prog 212 [.int .i64 a, .int .i64 b] H fun r H' => r = .int .i64 (cmpI a b) ∧ H = H' := by
  refine in212 rfl ?_
  intro Q hQ
  simp (maxSteps := 1000000) (disch := omega) only [cd212, S, S1, S2, S3, S4, S5, ST, eq_self, reduceIte, reduceCtorEq, Nat.reduceEqDiff, Nat.reduceAdd]
  refine CallH.by (isNaN_c a H) ?_
  rintro _ _ ⟨rfl, rfl⟩
  simp (maxSteps := 1000000) (disch := omega) only [S, S1, S2, S3, S4, S5, ST, eq_self, reduceIte, reduceCtorEq, Nat.reduceEqDiff, Nat.reduceAdd]
  refine CallH.by (isNaN_c b H) ?_
  rintro _ _ ⟨rfl, rfl⟩
  simp (maxSteps := 1000000) (disch := omega) only [S, S1, S2, S3, S4, S5, ST, eq_self, reduceIte, reduceCtorEq, Nat.reduceEqDiff, Nat.reduceAdd]
  refine brD.intro (fun e => ?_) (fun e => ?_) <;> simp (maxSteps := 1000000) (disch := omega) only [e, S, S1, S2, S3, S4, S5, ST, eq_self, reduceIte, reduceCtorEq, Nat.reduceEqDiff, Nat.reduceAdd]
  · refine hQ _ _ _ ?_
    simp (maxSteps := 1000000) (disch := omega) only [cmpI, e, S, S1, S2, S3, S4, S5, ST, eq_self, reduceIte, reduceCtorEq, Nat.reduceEqDiff, Nat.reduceAdd]
  · refine brD.intro (fun e2 => ?_) (fun e2 => ?_) <;> simp (maxSteps := 1000000) (disch := omega) only [e, e2, S, S1, S2, S3, S4, S5, ST, eq_self, reduceIte, reduceCtorEq, Nat.reduceEqDiff, Nat.reduceAdd]
    · refine hQ _ _ _ ?_
      simp (maxSteps := 1000000) (disch := omega) only [cmpI, e, e2, S, S1, S2, S3, S4, S5, ST, eq_self, reduceIte, reduceCtorEq, Nat.reduceEqDiff, Nat.reduceAdd]
    · refine hQ _ _ _ ?_
      simp (maxSteps := 1000000) (disch := omega) only [cmpI, e, e2, S, S1, S2, S3, S4, S5, ST, eq_self, reduceIte, reduceCtorEq, Nat.reduceEqDiff, Nat.reduceAdd]
theorem Or_c (a b : Int) (o : Nat) (H : AH) (ho : H[o]? = some (.cells (ints [a, b]) 3 false)) : ACalls Try.prog 247 [.slice (some ⟨o, 0, none⟩) 2 2] H fun r H' => r = .int .i64 (if a ≠ 0 then a else b) ∧ H = H' := by
  refine in247 rfl ?_
  intro Q hQ
  simp (maxSteps := 1000000) (disch := omega) only [cd247, S, S1, S2, S3, S4, S5, ST, eq_self, reduceIte, reduceCtorEq, Nat.reduceEqDiff, Nat.reduceAdd]
  refine LoopH.by (fun m s H' => ∃ i, m + i = 2 ∧ s 0 = .slice (some ⟨o, 0, none⟩) 2 2 ∧ s 3 = .int .i64 0 ∧ s 6 = .slice (some ⟨o, 0, none⟩) 2 2 ∧ s 7 = .int .i64 2 ∧ s 8 = .int .i64 ((i : Nat) : Int) ∧ H = H' ∧ ∀ j, j < i → [a, b].getD j 0 = 0) 2 ?_ ?_
  · exact ⟨0, rfl, rfl, rfl, rfl, rfl, rfl, rfl, fun j hj => absurd hj (Nat.not_lt_zero j)⟩
  · rintro m s H' ⟨i, hm, h0, h3, h6, h7, h8, rfl, hz⟩
    simp (maxSteps := 1000000) (disch := omega) only [h0, h3, h6, h7, h8, S, S1, S2, S3, S4, S5, ST, eq_self, reduceIte, reduceCtorEq, Nat.reduceEqDiff, Nat.reduceAdd]
    refine brD.intro (fun g => ?_) (fun g => ?_)
    · have hi : i < [a, b].length := by show i < 2; omega
      simp (maxSteps := 1000000) (disch := omega) only [h0, h3, h6, h7, h8, Int.toNat_natCast, Nat.zero_add, cell_ints ho hi, S, S1, S2, S3, S4, S5, ST, eq_self, reduceIte, reduceCtorEq, Nat.reduceEqDiff, Nat.reduceAdd]
      refine brD.intro (fun e => ?_) (fun e => ?_) <;> simp (maxSteps := 1000000) (disch := omega) only [h0, h3, h6, h7, h8, e, wrap64, S, S1, S2, S3, S4, S5, ST, eq_self, reduceIte, reduceCtorEq, Nat.reduceEqDiff, Nat.reduceAdd]
      · refine hQ _ _ _ ?_
        simp (maxSteps := 1000000) (disch := omega) only [S, S1, S2, S3, S4, S5, ST, eq_self, reduceIte, reduceCtorEq, Nat.reduceEqDiff, Nat.reduceAdd]
        have : i = 0 ∨ i = 1 := by omega
        rcases this with rfl | rfl
        · have e' : a ≠ 0 := e
          simp [e']
        · have e1 : a = 0 := hz 0 (by omega)
          simp [e1]
      · have f1 : ∀ j, j < i + 1 → [a, b].getD j 0 = 0 := by
          intro j hj
          rcases Nat.lt_succ_iff_lt_or_eq.1 hj with h | h
          · exact hz j h
          · rw [h]; exact Decidable.not_not.1 e
        refine ⟨m - 1, by omega, i + 1, ?_⟩
        (repeat' apply And.intro) <;> first | exact f1 | (simp only [Value.int.injEq, true_and]; omega) | omega | rfl | assumption | (simp; done) | (simp; omega)
    · simp (maxSteps := 1000000) (disch := omega) only [h3, S, S1, S2, S3, S4, S5, ST, eq_self, reduceIte, reduceCtorEq, Nat.reduceEqDiff, Nat.reduceAdd]
      refine hQ _ _ _ ?_
      simp (maxSteps := 1000000) (disch := omega) only [h3, S, S1, S2, S3, S4, S5, ST, eq_self, reduceIte, reduceCtorEq, Nat.reduceEqDiff, Nat.reduceAdd]
      have e1 : a = 0 := hz 0 (by omega)
      have e2 : b = 0 := hz 1 (by omega)
      simp [e1, e2]
set_option maxRecDepth 20000 in
theorem comparePairs_c (p q : Int × Int) (H : AH) : ACalls Try.prog 209 [.agg (List.toArray [.int .i64 p.1, .int .i64 p.2]), .agg (List.toArray [.int .i64 q.1, .int .i64 q.2])] H fun r H' => r = .int .i64 (cmpP p q) ∧ H <+: H' := by
  refine in209 rfl ?_
  intro Q hQ
  simp (maxSteps := 1000000) (disch := omega) only [cd209, box_a2, S, S1, S2, S3, S4, S5, ST, eq_self, reduceIte, reduceCtorEq, Nat.reduceEqDiff, Nat.reduceAdd]
  generalize hA : H ++ [AObj.cells [.int .i64 p.1, .int .i64 p.2] 81 false] = A
  have pA : H <+: A := by rw [← hA]; exact List.prefix_append _ _
  have a0 : A[H.length]? = some (.cells [.int .i64 p.1, .int .i64 p.2] 81 false) := by rw [← hA]; exact at_new ..
  generalize hB : A ++ [AObj.cells [.int .i64 q.1, .int .i64 q.2] 81 false] = B
  have pB : A <+: B := by rw [← hB]; exact List.prefix_append _ _
  have b0 := pre_at pB a0
  have b1 : B[A.length]? = some (.cells [.int .i64 q.1, .int .i64 q.2] 81 false) := by rw [← hB]; exact at_new ..
  have pHB := pA.trans pB
  simp (maxSteps := 1000000) (disch := omega) only [cell_of b0, cell_of b1, S, S1, S2, S3, S4, S5, ST, eq_self, reduceIte, reduceCtorEq, Nat.reduceEqDiff, Nat.reduceAdd]
  refine CallH.by (Compare_c p.1 q.1 B) ?_
  rintro _ _ ⟨rfl, rfl⟩
  simp (maxSteps := 1000000) (disch := omega) only [cell_of b0, cell_of b1, S, S1, S2, S3, S4, S5, ST, eq_self, reduceIte, reduceCtorEq, Nat.reduceEqDiff, Nat.reduceAdd]
  refine CallH.by (Compare_c p.2 q.2 B) ?_
  rintro _ _ ⟨rfl, rfl⟩
  simp (maxSteps := 1000000) (disch := omega) only [S, S1, S2, S3, S4, S5, ST, eq_self, reduceIte, reduceCtorEq, Nat.reduceEqDiff, Nat.reduceAdd]
  refine CallH.by (Or_c (cmpI p.1 q.1) (cmpI p.2 q.2) B.length _ (at_new ..)) ?_
  rintro _ _ ⟨rfl, rfl⟩
  simp (maxSteps := 1000000) (disch := omega) only [S, S1, S2, S3, S4, S5, ST, eq_self, reduceIte, reduceCtorEq, Nat.reduceEqDiff, Nat.reduceAdd]
  refine hQ _ _ _ ?_
  simp (maxSteps := 1000000) (disch := omega) only [cmpP, S, S1, S2, S3, S4, S5, ST, eq_self, reduceIte, reduceCtorEq, Nat.reduceEqDiff, Nat.reduceAdd]
  exact pre_app pHB _
set_option maxRecDepth 20000 in
set_option maxHeartbeats 4000000 in
theorem l2Pairs_c (v : Value) (n : Int) (ps : List (Int × Int)) (H : AH) (hr : RowP 81 H v ps) (hlen : ps.length ≤ 1099511627776) (hn : 0 ≤ n ∧ n ≤ 8) :
    ACalls Try.prog 150 [v, .int .i64 n] H fun r H' => r = .bool (decide (PrU n ps ps.length)) ∧ H <+: H' := by
  refine in150 rfl ?_
  intro Q hQ
  simp (maxSteps := 1000000) (disch := omega) only [cd150, S, S1, S2, S3, S4, S5, ST, eq_self, reduceIte, reduceCtorEq, Nat.reduceEqDiff, Nat.reduceAdd]
  refine LoopH.by (fun m s H' => ∃ i, m + i = ps.length ∧ s 0 = v ∧ s 1 = .int .i64 n ∧ s 5 = .int .i64 ((i : Nat) : Int) ∧ H <+: H' ∧ PrU n ps i) ps.length ?_ ?_
  · exact ⟨0, by simp, rfl, rfl, rfl, List.prefix_refl _, PrU.zero _ _⟩
  · rintro m s H' ⟨i, hm, h0, h1, h5, hp, hu⟩
    have hr' := hr.pre hp
    simp (maxSteps := 1000000) (disch := omega) only [h0, h1, h5, hr'.len Try.underlying22, S, S1, S2, S3, S4, S5, ST, eq_self, reduceIte, reduceCtorEq, Nat.reduceEqDiff, Nat.reduceAdd]
    refine brD.intro (fun g => ?_) (fun g => ?_)
    · have hi : i < ps.length := by omega
      have hst0 := store_a2 H' [.int .i64 0, .int .i64 0] rfl
      simp (maxSteps := 1000000) (disch := omega) only [h0, h1, h5, hr'.ix Try.underlying22 cs81, Int.toNat_natCast, hr'.ld ag81 cs81 hi, alloc_a2, hst0, cell_new, wrap64, S, S1, S2, S3, S4, S5, ST, eq_self, reduceIte, reduceCtorEq, Nat.reduceEqDiff, Nat.reduceAdd]
      generalize hB : H' ++ [AObj.cells [.int .i64 (ps.getD i (0, 0)).1, .int .i64 (ps.getD i (0, 0)).2] 81 false] = B
      have pB : H' <+: B := by rw [← hB]; exact List.prefix_append _ _
      have b0 : B[H'.length]? = some (.cells [.int .i64 (ps.getD i (0, 0)).1, .int .i64 (ps.getD i (0, 0)).2] 81 false) := by rw [← hB]; exact at_new ..
      have hrB := hr'.pre pB
      refine CallH.by (l1In_c _ _ _ B) ?_
      rintro _ _ ⟨rfl, rfl⟩
      simp (maxSteps := 1000000) (disch := omega) only [cell_of b0, wrap64, S, S1, S2, S3, S4, S5, ST, eq_self, reduceIte, reduceCtorEq, Nat.reduceEqDiff, Nat.reduceAdd]
      have hBp := hp.trans pB
      have e0 : ((i : Int) - 1).toNat = i - 1 := by omega
      have ok2 : prOk n ps i → PrU n ps (i + 1) := fun h => hu.succ h
      have bad : ¬ prOk n ps i → ∀ G, H <+: G → decide (PrU n ps ps.length) = false ∧ H <+: G := fun h G hG => ⟨decide_eq_false (PrU.no hi h), hG⟩
      have hld1 : 0 < i → loadA Try.prog 81 (.pointer (some ⟨rowO v, rowK v + 2 * (i - 1), none⟩)) B = some (.agg (List.toArray [.int .i64 (ps.getD (i - 1) (0, 0)).1, .int .i64 (ps.getD (i - 1) (0, 0)).2])) := fun h => hrB.ld ag81 cs81 (by omega)
      unfold prOk at ok2 bad
      generalize hx : ps.getD i (0, 0) = x at *
      generalize hy : ps.getD (i - 1) (0, 0) = y at *
      refine brD.intro (fun e1 => ?_) (fun e1 => ?_)
      · simp (maxSteps := 1000000) (disch := omega) only [e1, cell_of b0, h0, h1, h5, wrap64, S, S1, S2, S3, S4, S5, ST, eq_self, reduceIte, reduceCtorEq, Nat.reduceEqDiff, Nat.reduceAdd]
        refine CallH.by (l1In_c _ _ _ B) ?_
        rintro _ _ ⟨rfl, rfl⟩
        simp (maxSteps := 1000000) (disch := omega) only [e1, cell_of b0, h0, h1, h5, wrap64, S, S1, S2, S3, S4, S5, ST, eq_self, reduceIte, reduceCtorEq, Nat.reduceEqDiff, Nat.reduceAdd]
        refine brD.intro (fun e2 => ?_) (fun e2 => ?_)
        · simp (maxSteps := 1000000) (disch := omega) only [e1, e2, cell_of b0, h0, h1, h5, wrap64, S, S1, S2, S3, S4, S5, ST, eq_self, reduceIte, reduceCtorEq, Nat.reduceEqDiff, Nat.reduceAdd]
          refine brD.intro (fun e3 => ?_) (fun e3 => ?_) <;> simp (maxSteps := 1000000) (disch := omega) only [e1, e2, e3, cell_of b0, h0, h1, h5, wrap64, S, S1, S2, S3, S4, S5, ST, eq_self, reduceIte, reduceCtorEq, Nat.reduceEqDiff, Nat.reduceAdd]
          · refine hQ _ _ _ ?_
            simp (maxSteps := 1000000) (disch := omega) only [S, S1, S2, S3, S4, S5, ST, eq_self, reduceIte, reduceCtorEq, Nat.reduceEqDiff, Nat.reduceAdd]
            obtain ⟨q1, q2⟩ := bad (by omega) _ hBp
            rw [q1]
            exact ⟨rfl, q2⟩
          · refine brD.intro (fun e4 => ?_) (fun e4 => ?_) <;> simp (maxSteps := 1000000) (disch := omega) only [e1, e2, e3, e4, h0, h1, h5, wrap64, S, S1, S2, S3, S4, S5, ST, eq_self, reduceIte, reduceCtorEq, Nat.reduceEqDiff, Nat.reduceAdd]
            · have hi1 : 0 < i := by omega
              simp (maxSteps := 1000000) (disch := omega) only [e1, e2, e3, e4, e0, h0, h1, h5, hrB.ix Try.underlying22 cs81, hld1 hi1, ld_a2 b0, wrap64, S, S1, S2, S3, S4, S5, ST, eq_self, reduceIte, reduceCtorEq, Nat.reduceEqDiff, Nat.reduceAdd]
              refine CallH.by (l2Edge_c y x B) ?_
              rintro _ C ⟨rfl, pC⟩
              have hCp := hBp.trans pC
              simp (maxSteps := 1000000) (disch := omega) only [e1, e2, e3, e4, S, S1, S2, S3, S4, S5, ST, eq_self, reduceIte, reduceCtorEq, Nat.reduceEqDiff, Nat.reduceAdd]
              refine brD.intro (fun e5 => ?_) (fun e5 => ?_) <;> simp (maxSteps := 1000000) (disch := omega) only [e1, e2, e3, e4, e5, h0, h1, h5, wrap64, S, S1, S2, S3, S4, S5, ST, eq_self, reduceIte, reduceCtorEq, Nat.reduceEqDiff, Nat.reduceAdd]
              · have f1 := ok2 ⟨e1.1, by omega, by omega, fun _ => e5⟩
                refine ⟨m - 1, by omega, i + 1, ?_⟩
                (repeat' first | exact f1 | exact hCp | apply And.intro) <;> first | (simp only [Value.int.injEq, true_and]; omega) | omega | rfl | assumption | (simp; done) | (simp; omega)
              · refine hQ _ _ _ ?_
                simp (maxSteps := 1000000) (disch := omega) only [S, S1, S2, S3, S4, S5, ST, eq_self, reduceIte, reduceCtorEq, Nat.reduceEqDiff, Nat.reduceAdd]
                obtain ⟨q1, q2⟩ := bad (fun h => e5 (h.2.2.2 hi1)) _ hCp
                rw [q1]
                exact ⟨rfl, q2⟩
            · have f1 := ok2 ⟨e1.1, by omega, by omega, fun h => absurd h (by omega)⟩
              refine ⟨m - 1, by omega, i + 1, ?_⟩
              (repeat' first | exact f1 | exact hBp | apply And.intro) <;> first | (simp only [Value.int.injEq, true_and]; omega) | omega | rfl | assumption | (simp; done) | (simp; omega)
        · simp (maxSteps := 1000000) (disch := omega) only [e1, e2, S, S1, S2, S3, S4, S5, ST, eq_self, reduceIte, reduceCtorEq, Nat.reduceEqDiff, Nat.reduceAdd]
          refine hQ _ _ _ ?_
          simp (maxSteps := 1000000) (disch := omega) only [S, S1, S2, S3, S4, S5, ST, eq_self, reduceIte, reduceCtorEq, Nat.reduceEqDiff, Nat.reduceAdd]
          obtain ⟨q1, q2⟩ := bad (by omega) _ hBp
          rw [q1]
          exact ⟨rfl, q2⟩
      · simp (maxSteps := 1000000) (disch := omega) only [e1, S, S1, S2, S3, S4, S5, ST, eq_self, reduceIte, reduceCtorEq, Nat.reduceEqDiff, Nat.reduceAdd]
        refine hQ _ _ _ ?_
        simp (maxSteps := 1000000) (disch := omega) only [S, S1, S2, S3, S4, S5, ST, eq_self, reduceIte, reduceCtorEq, Nat.reduceEqDiff, Nat.reduceAdd]
        obtain ⟨q1, q2⟩ := bad (by omega) _ hBp
        rw [q1]
        exact ⟨rfl, q2⟩
    · simp (maxSteps := 1000000) (disch := omega) only [h0, h1, h5, S, S1, S2, S3, S4, S5, ST, eq_self, reduceIte, reduceCtorEq, Nat.reduceEqDiff, Nat.reduceAdd]
      refine hQ _ _ _ ?_
      simp (maxSteps := 1000000) (disch := omega) only [S, S1, S2, S3, S4, S5, ST, eq_self, reduceIte, reduceCtorEq, Nat.reduceEqDiff, Nat.reduceAdd]
      have : i = ps.length := by omega
      subst this
      simp [hu, hp]
set_option maxRecDepth 20000 in
set_option maxHeartbeats 4000000 in
theorem isPairs_c (v : Value) (n : Int) (ps : List (Int × Int)) (H : AH) (hr : RowP 81 H v ps) (hlen : ps.length ≤ 1099511627776) (hn : 0 ≤ n ∧ n ≤ 8) :
    ACalls Try.prog 153 [v, .int .i64 n] H fun r H' => r = .bool (decide (PrU n ps ps.length)) ∧ H <+: H' := by
  refine in153 rfl ?_
  intro Q hQ
  simp (maxSteps := 1000000) (disch := omega) only [cd153, hr.len Try.underlying22, S, S1, S2, S3, S4, S5, ST, eq_self, reduceIte, reduceCtorEq, Nat.reduceEqDiff, Nat.reduceAdd]
  refine LoopH.by (fun m s H' => ∃ i, m + i = ps.length ∧ s 0 = v ∧ s 1 = .int .i64 n ∧ s 7 = v ∧ s 8 = .int .i64 (ps.length : Int) ∧ s 9 = .int .i64 ((i : Nat) : Int) ∧ H <+: H' ∧ PrU n ps i) ps.length ?_ ?_
  · exact ⟨0, by simp, rfl, rfl, rfl, rfl, rfl, List.prefix_refl _, PrU.zero _ _⟩
  · rintro m s H' ⟨i, hm, h0, h1, h7, h8, h9, hp, hu⟩
    have hr' := hr.pre hp
    simp (maxSteps := 1000000) (disch := omega) only [h0, h1, h7, h8, h9, S, S1, S2, S3, S4, S5, ST, eq_self, reduceIte, reduceCtorEq, Nat.reduceEqDiff, Nat.reduceAdd]
    refine brD.intro (fun g => ?_) (fun g => ?_)
    · have hi : i < ps.length := by omega
      have hst0 := store_a2 H' [.int .i64 0, .int .i64 0] rfl
      simp (maxSteps := 1000000) (disch := omega) only [h0, h1, h7, h8, h9, hr'.ix Try.underlying22 cs81, Int.toNat_natCast, hr'.ld ag81 cs81 hi, alloc_a2, hst0, cell_new, wrap64, S, S1, S2, S3, S4, S5, ST, eq_self, reduceIte, reduceCtorEq, Nat.reduceEqDiff, Nat.reduceAdd]
      generalize hB : H' ++ [AObj.cells [.int .i64 (ps.getD i (0, 0)).1, .int .i64 (ps.getD i (0, 0)).2] 81 false] = B
      have pB : H' <+: B := by rw [← hB]; exact List.prefix_append _ _
      have b0 : B[H'.length]? = some (.cells [.int .i64 (ps.getD i (0, 0)).1, .int .i64 (ps.getD i (0, 0)).2] 81 false) := by rw [← hB]; exact at_new ..
      have hrB := hr'.pre pB
      have hBp := hp.trans pB
      have e0 : ((i : Int) - 1).toNat = i - 1 := by omega
      have ok2 : prOk n ps i → PrU n ps (i + 1) := fun h => hu.succ h
      have bad : ¬ prOk n ps i → ∀ G, H <+: G → decide (PrU n ps ps.length) = false ∧ H <+: G := fun h G hG => ⟨decide_eq_false (PrU.no hi h), hG⟩
      have hld1 : 0 < i → loadA Try.prog 81 (.pointer (some ⟨rowO v, rowK v + 2 * (i - 1), none⟩)) B = some (.agg (List.toArray [.int .i64 (ps.getD (i - 1) (0, 0)).1, .int .i64 (ps.getD (i - 1) (0, 0)).2])) := fun h => hrB.ld ag81 cs81 (by omega)
      unfold prOk at ok2 bad
      generalize hx : ps.getD i (0, 0) = x at *
      generalize hy : ps.getD (i - 1) (0, 0) = y at *
      refine brD.intro (fun e1 => ?_) (fun e1 => ?_) <;> simp (maxSteps := 1000000) (disch := omega) only [e1, cell_of b0, h0, h1, h7, h8, h9, wrap64, S, S1, S2, S3, S4, S5, ST, eq_self, reduceIte, reduceCtorEq, Nat.reduceEqDiff, Nat.reduceAdd]
      · refine hQ _ _ _ ?_
        simp (maxSteps := 1000000) (disch := omega) only [S, S1, S2, S3, S4, S5, ST, eq_self, reduceIte, reduceCtorEq, Nat.reduceEqDiff, Nat.reduceAdd]
        obtain ⟨q1, q2⟩ := bad (by omega) _ hBp
        rw [q1]
        exact ⟨rfl, q2⟩
      · refine brD.intro (fun e2 => ?_) (fun e2 => ?_) <;> simp (maxSteps := 1000000) (disch := omega) only [e1, e2, cell_of b0, h0, h1, h7, h8, h9, wrap64, S, S1, S2, S3, S4, S5, ST, eq_self, reduceIte, reduceCtorEq, Nat.reduceEqDiff, Nat.reduceAdd]
        · refine hQ _ _ _ ?_
          simp (maxSteps := 1000000) (disch := omega) only [S, S1, S2, S3, S4, S5, ST, eq_self, reduceIte, reduceCtorEq, Nat.reduceEqDiff, Nat.reduceAdd]
          obtain ⟨q1, q2⟩ := bad (by omega) _ hBp
          rw [q1]
          exact ⟨rfl, q2⟩
        · refine brD.intro (fun e3 => ?_) (fun e3 => ?_) <;> simp (maxSteps := 1000000) (disch := omega) only [e1, e2, e3, cell_of b0, h0, h1, h7, h8, h9, wrap64, S, S1, S2, S3, S4, S5, ST, eq_self, reduceIte, reduceCtorEq, Nat.reduceEqDiff, Nat.reduceAdd]
          · refine hQ _ _ _ ?_
            simp (maxSteps := 1000000) (disch := omega) only [S, S1, S2, S3, S4, S5, ST, eq_self, reduceIte, reduceCtorEq, Nat.reduceEqDiff, Nat.reduceAdd]
            obtain ⟨q1, q2⟩ := bad (by omega) _ hBp
            rw [q1]
            exact ⟨rfl, q2⟩
          · refine brD.intro (fun e4 => ?_) (fun e4 => ?_) <;> simp (maxSteps := 1000000) (disch := omega) only [e1, e2, e3, e4, h0, h1, h7, h8, h9, wrap64, S, S1, S2, S3, S4, S5, ST, eq_self, reduceIte, reduceCtorEq, Nat.reduceEqDiff, Nat.reduceAdd]
            · have hi1 : 0 < i := by omega
              simp (maxSteps := 1000000) (disch := omega) only [e1, e2, e3, e4, e0, h0, h1, h7, h8, h9, hrB.ix Try.underlying22 cs81, hld1 hi1, ld_a2 b0, wrap64, S, S1, S2, S3, S4, S5, ST, eq_self, reduceIte, reduceCtorEq, Nat.reduceEqDiff, Nat.reduceAdd]
              refine CallH.by (comparePairs_c y x B) ?_
              rintro _ C ⟨rfl, pC⟩
              have hCp := hBp.trans pC
              simp (maxSteps := 1000000) (disch := omega) only [e1, e2, e3, e4, S, S1, S2, S3, S4, S5, ST, eq_self, reduceIte, reduceCtorEq, Nat.reduceEqDiff, Nat.reduceAdd]
              refine brD.intro (fun e5 => ?_) (fun e5 => ?_) <;> simp (maxSteps := 1000000) (disch := omega) only [e1, e2, e3, e4, e5, h0, h1, h7, h8, h9, wrap64, S, S1, S2, S3, S4, S5, ST, eq_self, reduceIte, reduceCtorEq, Nat.reduceEqDiff, Nat.reduceAdd]
              · refine hQ _ _ _ ?_
                simp (maxSteps := 1000000) (disch := omega) only [S, S1, S2, S3, S4, S5, ST, eq_self, reduceIte, reduceCtorEq, Nat.reduceEqDiff, Nat.reduceAdd]
                obtain ⟨q1, q2⟩ := bad (fun h => (cmpP_ge y x).1 e5 (h.2.2.2 hi1)) _ hCp
                rw [q1]
                exact ⟨rfl, q2⟩
              · have f1 := ok2 ⟨by omega, by omega, by omega, fun _ => Decidable.not_not.1 fun h => e5 ((cmpP_ge y x).2 h)⟩
                refine ⟨m - 1, by omega, i + 1, ?_⟩
                (repeat' first | exact f1 | exact hCp | apply And.intro) <;> first | (simp only [Value.int.injEq, true_and]; omega) | omega | rfl | assumption | (simp; done) | (simp; omega)
            · have f1 := ok2 ⟨by omega, by omega, by omega, fun h => absurd h (by omega)⟩
              refine ⟨m - 1, by omega, i + 1, ?_⟩
              (repeat' first | exact f1 | exact hBp | apply And.intro) <;> first | (simp only [Value.int.injEq, true_and]; omega) | omega | rfl | assumption | (simp; done) | (simp; omega)
    · simp (maxSteps := 1000000) (disch := omega) only [h0, h1, h7, h8, h9, S, S1, S2, S3, S4, S5, ST, eq_self, reduceIte, reduceCtorEq, Nat.reduceEqDiff, Nat.reduceAdd]
      refine hQ _ _ _ ?_
      simp (maxSteps := 1000000) (disch := omega) only [S, S1, S2, S3, S4, S5, ST, eq_self, reduceIte, reduceCtorEq, Nat.reduceEqDiff, Nat.reduceAdd]
      have : i = ps.length := by omega
      subst this
      simp [hu, hp]
theorem l2Good_c (n : Int) (v : Value) (ps : List (Int × Int)) (H : AH) (hr : RowP 81 H v ps) (hlen : ps.length ≤ 1099511627776) :
    ACalls Try.prog 66 [.agg (List.toArray [.int .i64 n, v])] H fun r H' => r = .bool (decide (Grd n ps)) ∧ H <+: H' := by
  refine in66 rfl ?_
  intro Q hQ
  simp (maxSteps := 1000000) (disch := omega) only [cd66, hr.boxG, S, S1, S2, S3, S4, S5, ST, eq_self, reduceIte, reduceCtorEq, Nat.reduceEqDiff, Nat.reduceAdd]
  generalize hA : H ++ [AObj.cells [.int .i64 n, v] 31 false] = A
  have pA : H <+: A := by rw [← hA]; exact List.prefix_append _ _
  have cA : A[H.length]? = some (.cells [.int .i64 n, v] 31 false) := by rw [← hA]; exact at_new ..
  have rA := hr.pre pA
  simp (maxSteps := 1000000) (disch := omega) only [cell_of cA, S, S1, S2, S3, S4, S5, ST, eq_self, reduceIte, reduceCtorEq, Nat.reduceEqDiff, Nat.reduceAdd]
  refine CallH.by (l1In_c _ _ _ A) ?_
  rintro _ _ ⟨rfl, rfl⟩
  simp (maxSteps := 1000000) (disch := omega) only [cell_of cA, S, S1, S2, S3, S4, S5, ST, eq_self, reduceIte, reduceCtorEq, Nat.reduceEqDiff, Nat.reduceAdd]
  refine brD.intro (fun e => ?_) (fun e => ?_) <;> simp (maxSteps := 1000000) (disch := omega) only [e, cell_of cA, S, S1, S2, S3, S4, S5, ST, eq_self, reduceIte, reduceCtorEq, Nat.reduceEqDiff, Nat.reduceAdd]
  · refine CallH.by (l2Pairs_c v n ps A rA hlen e) ?_
    rintro _ B ⟨rfl, pB⟩
    simp (maxSteps := 1000000) (disch := omega) only [e, S, S1, S2, S3, S4, S5, ST, eq_self, reduceIte, reduceCtorEq, Nat.reduceEqDiff, Nat.reduceAdd]
    refine hQ _ _ _ ?_
    simp (maxSteps := 1000000) (disch := omega) only [e, S, S1, S2, S3, S4, S5, ST, eq_self, reduceIte, reduceCtorEq, Nat.reduceEqDiff, Nat.reduceAdd]
    exact ⟨by simp [Grd, e], pA.trans pB⟩
  · refine hQ _ _ _ ?_
    simp (maxSteps := 1000000) (disch := omega) only [e, S, S1, S2, S3, S4, S5, ST, eq_self, reduceIte, reduceCtorEq, Nat.reduceEqDiff, Nat.reduceAdd]
    exact ⟨by simp [Grd, e], pA⟩
theorem IsGraph_c (n : Int) (v : Value) (ps : List (Int × Int)) (H : AH) (hr : RowP 81 H v ps) (hlen : ps.length ≤ 1099511627776) :
    ACalls Try.prog 71 [.agg (List.toArray [.int .i64 n, v])] H fun r H' => r = .bool (decide (Grd n ps)) ∧ H <+: H' := by
  refine in71 rfl ?_
  intro Q hQ
  simp (maxSteps := 1000000) (disch := omega) only [cd71, hr.boxG, S, S1, S2, S3, S4, S5, ST, eq_self, reduceIte, reduceCtorEq, Nat.reduceEqDiff, Nat.reduceAdd]
  generalize hA : H ++ [AObj.cells [.int .i64 n, v] 31 false] = A
  have pA : H <+: A := by rw [← hA]; exact List.prefix_append _ _
  have cA : A[H.length]? = some (.cells [.int .i64 n, v] 31 false) := by rw [← hA]; exact at_new ..
  have rA := hr.pre pA
  simp (maxSteps := 1000000) (disch := omega) only [cell_of cA, S, S1, S2, S3, S4, S5, ST, eq_self, reduceIte, reduceCtorEq, Nat.reduceEqDiff, Nat.reduceAdd]
  refine CallH.by (between_c _ _ _ A) ?_
  rintro _ _ ⟨rfl, rfl⟩
  simp (maxSteps := 1000000) (disch := omega) only [cell_of cA, S, S1, S2, S3, S4, S5, ST, eq_self, reduceIte, reduceCtorEq, Nat.reduceEqDiff, Nat.reduceAdd]
  refine brD.intro (fun e => ?_) (fun e => ?_) <;> simp (maxSteps := 1000000) (disch := omega) only [e, cell_of cA, S, S1, S2, S3, S4, S5, ST, eq_self, reduceIte, reduceCtorEq, Nat.reduceEqDiff, Nat.reduceAdd]
  · refine CallH.by (isPairs_c v n ps A rA hlen e) ?_
    rintro _ B ⟨rfl, pB⟩
    simp (maxSteps := 1000000) (disch := omega) only [e, S, S1, S2, S3, S4, S5, ST, eq_self, reduceIte, reduceCtorEq, Nat.reduceEqDiff, Nat.reduceAdd]
    refine hQ _ _ _ ?_
    simp (maxSteps := 1000000) (disch := omega) only [e, S, S1, S2, S3, S4, S5, ST, eq_self, reduceIte, reduceCtorEq, Nat.reduceEqDiff, Nat.reduceAdd]
    exact ⟨by simp [Grd, e], pA.trans pB⟩
  · refine hQ _ _ _ ?_
    simp (maxSteps := 1000000) (disch := omega) only [e, S, S1, S2, S3, S4, S5, ST, eq_self, reduceIte, reduceCtorEq, Nat.reduceEqDiff, Nat.reduceAdd]
    exact ⟨by simp [Grd, e], pA⟩
end Go.Proofs.Ytlfongfhbkefmaa.Ai
namespace Go.Proofs.Ytlfongfhbkefmaa.Ai
open Go
def ords124 : List (Nat × List (Nat × Bool)) := []
def cd124 : Cd := (.seq (.reg [⟨⟨some 4, Op.alloc 81, none⟩, []⟩]) (.seq (.reg [⟨⟨some 5, Op.move (Operand.tmp 0), none⟩, []⟩,
  ⟨⟨some 6, Op.move (Operand.tmp 1), none⟩, []⟩,
  ⟨⟨some 7, Op.call { callee := (Callee.builtin Builtin.min), args := #[(Operand.tmp 5), (Operand.tmp 6)], argTypes := #[3, 3] }, none⟩, []⟩,
  ⟨⟨some 8, Op.move (Operand.tmp 0), none⟩, []⟩,
  ⟨⟨some 9, Op.move (Operand.tmp 1), none⟩, []⟩,
  ⟨⟨some 10, Op.call { callee := (Callee.builtin Builtin.max), args := #[(Operand.tmp 8), (Operand.tmp 9)], argTypes := #[3, 3] }, none⟩, []⟩,
  ⟨⟨some 11, Op.build 81 #[(0, (Operand.tmp 7)), (1, (Operand.tmp 10))], none⟩, []⟩,
  ⟨⟨none, Op.store 81 (Operand.tmp 4) (Operand.tmp 11), none⟩, []⟩]) .ret))
theorem sl124 : slim Try.f124.ntmps ords124 (Try.f124.body.getD .skip) = some cd124 := by kernel_rfl
set_option maxRecDepth 20000 in
theorem in124 {args : List Value} {H : AH} {R : Value → AH → Prop} (hl : args.length = 2) (h : ∀ (Q : Exit → Sl → AH → Prop), (∀ e s H, endA Try.prog [ResultVar.cell 4 81] R e s H → Q e s H) → wpC Try.prog cd124 Q (enterA args) H) : ACalls Try.prog 124 args H R :=
  ACalls.intro (by kernel_rfl) Try.func124 rfl (by kernel_rfl) sl124 hl (of_decide_eq_true (by kernel_rfl)) (by kernel_rfl) h
end Go.Proofs.Ytlfongfhbkefmaa.Ai
namespace Go.Proofs.Ytlfongfhbkefmaa.Ai
open Go Go.RowKit
set_option linter.unusedVariables false
set_option linter.unusedSimpArgs false
theorem pair_c (a b : Int) (H : AH) : ACalls Try.prog 124 [.int .i64 a, .int .i64 b] H fun r H' => r = .agg (List.toArray [.int .i64 (minI a b), .int .i64 (maxI a b)]) ∧ H <+: H' := by
  refine in124 rfl ?_
  intro Q hQ
  have st := store_a2 H [.int .i64 0, .int .i64 0] rfl
  simp (maxSteps := 1000000) (disch := omega) only [cd124, alloc_a2, build_a2, st, S, S1, S2, S3, S4, S5, ST, eq_self, reduceIte, reduceCtorEq, Nat.reduceEqDiff, Nat.reduceAdd]
  refine hQ _ _ _ (end_cell _ _ _ _ _ _ (.agg (List.toArray [.int .i64 (minI a b), .int .i64 (maxI a b)])) ?_ rfl ⟨rfl, List.prefix_append _ _⟩)
  simp only [S, S1, S2, S3, S4, S5, ST, eq_self, reduceIte, reduceCtorEq, Nat.reduceEqDiff, Nat.reduceAdd]
  exact load_a2 ..
end Go.Proofs.Ytlfongfhbkefmaa.Ai
namespace Go.Proofs.Ytlfongfhbkefmaa.Ai
open Go
def ords277 : List (Nat × List (Nat × Bool)) := [(4, [(0, false), (1, false), (2, false), (3, false), (4, false), (5, false)])]
def cd277 : Cd := (.seq (.reg [⟨⟨some 3, Op.box 81 (Operand.tmp 1), none⟩, []⟩,
  ⟨⟨some 4, Op.assign (Operand.const (Value.int IntKind.i64 0)), none⟩, []⟩]) (.seq (.seq (.reg [⟨⟨some 6, Op.move (Operand.tmp 0), none⟩, []⟩,
  ⟨⟨some 7, Op.call { callee := (Callee.builtin Builtin.len), args := #[(Operand.tmp 6)], argTypes := #[22] }, none⟩, []⟩,
  ⟨⟨some 8, Op.move (Operand.const (Value.int IntKind.i64 0)), none⟩, []⟩]) (.block 0 (.loop (.seq (.reg [⟨⟨some 9, Op.binOp BinOp.lss 3 (Operand.tmp 8) (Operand.tmp 7) 3, none⟩, []⟩]) (.seq (.cond (Operand.tmp 9) .skip (.exit 0)) (.seq (.block 1 (.seq (.reg [⟨⟨some 10, Op.move (Operand.tmp 8), none⟩, []⟩,
  ⟨⟨some 5, Op.assign (Operand.tmp 10), none⟩, []⟩]) (.seq (.reg [⟨⟨some 11, Op.load 81 (Operand.tmp 3), none⟩, []⟩,
  ⟨⟨some 12, Op.move (Operand.tmp 0), none⟩, []⟩,
  ⟨⟨some 13, Op.move (Operand.tmp 5), none⟩, []⟩,
  ⟨⟨some 14, Op.indexAddr 22 (Operand.tmp 12) (Operand.tmp 13), none⟩, []⟩,
  ⟨⟨some 15, Op.load 81 (Operand.tmp 14), none⟩, []⟩,
  ⟨⟨some 16, Op.binOp BinOp.eql 81 (Operand.tmp 11) (Operand.tmp 15) 81, none⟩, []⟩]) (.cond (Operand.tmp 16) (.seq (.reg [⟨⟨some 17, Op.move (Operand.tmp 5), none⟩, []⟩,
  ⟨⟨some 4, Op.assign (Operand.tmp 17), none⟩, []⟩]) .ret) .skip)))) (.reg [⟨⟨some 18, Op.binOp BinOp.add 3 (Operand.tmp 8) (Operand.const (Value.int IntKind.i64 1)) 3, none⟩, []⟩,
  ⟨⟨some 8, Op.move (Operand.tmp 18), none⟩, []⟩]))))))) (.seq (.reg [⟨⟨some 4, Op.assign (Operand.const (Value.int IntKind.i64 (-1))), none⟩, []⟩]) .ret)))
theorem sl277 : slim Try.f277.ntmps ords277 (Try.f277.body.getD .skip) = some cd277 := by kernel_rfl
theorem in277 {args : List Value} {H : AH} {R : Value → AH → Prop} (hl : args.length = 2) (h : ∀ (Q : Exit → Sl → AH → Prop), (∀ e s H, endA Try.prog [ResultVar.tmp 4] R e s H → Q e s H) → wpC Try.prog cd277 Q (enterA args) H) : ACalls Try.prog 277 args H R :=
  ACalls.intro (by kernel_rfl) Try.func277 rfl (by kernel_rfl) sl277 hl (of_decide_eq_true (by kernel_rfl)) (by kernel_rfl) h
def ords274 : List (Nat × List (Nat × Bool)) := []
def cd274 : Cd := (.seq (.reg [⟨⟨some 3, Op.box 81 (Operand.tmp 1), none⟩, []⟩,
  ⟨⟨some 4, Op.assign (Operand.const (Value.bool false)), none⟩, []⟩]) (.seq (.reg [⟨⟨some 5, Op.move (Operand.tmp 0), none⟩, []⟩,
  ⟨⟨some 6, Op.load 81 (Operand.tmp 3), none⟩, []⟩,
  ⟨⟨some 7, Op.call { callee := (Callee.value (Operand.func 277)), args := #[(Operand.tmp 5), (Operand.tmp 6)], argTypes := #[22, 81] }, none⟩, []⟩,
  ⟨⟨some 8, Op.binOp BinOp.geq 3 (Operand.tmp 7) (Operand.const (Value.int IntKind.i64 0)) 3, none⟩, []⟩,
  ⟨⟨some 4, Op.assign (Operand.tmp 8), none⟩, []⟩]) .ret))
theorem sl274 : slim Try.f274.ntmps ords274 (Try.f274.body.getD .skip) = some cd274 := by kernel_rfl
theorem in274 {args : List Value} {H : AH} {R : Value → AH → Prop} (hl : args.length = 2) (h : ∀ (Q : Exit → Sl → AH → Prop), (∀ e s H, endA Try.prog [ResultVar.tmp 4] R e s H → Q e s H) → wpC Try.prog cd274 Q (enterA args) H) : ACalls Try.prog 274 args H R :=
  ACalls.intro (by kernel_rfl) Try.func274 rfl (by kernel_rfl) sl274 hl (of_decide_eq_true (by kernel_rfl)) (by kernel_rfl) h
def ords271 : List (Nat × List (Nat × Bool)) := [(1, [(0, false), (1, false), (2, false), (3, false), (4, true), (5, true), (6, false)])]
def cd271 : Cd := (.seq (.reg [⟨⟨some 3, Op.box 31 (Operand.tmp 0), none⟩, []⟩,
  ⟨⟨some 6, Op.assign (Operand.const (Value.bool false)), none⟩, []⟩]) (.seq (.reg [⟨⟨some 7, Op.fieldAddr 31 (Operand.tmp 3) 1, none⟩, []⟩,
  ⟨⟨some 8, Op.load 22 (Operand.tmp 7), none⟩, []⟩,
  ⟨⟨some 9, Op.move (Operand.tmp 1), none⟩, []⟩,
  ⟨⟨some 10, Op.move (Operand.tmp 2), none⟩, []⟩,
  ⟨⟨some 11, Op.call { callee := (Callee.value (Operand.func 124)), args := #[(Operand.tmp 9), (Operand.tmp 10)], argTypes := #[3, 3] }, none⟩, [⟨some 8, Op.load 22 (Operand.tmp 7), none⟩]⟩,
  ⟨⟨some 12, Op.call { callee := (Callee.value (Operand.func 274)), args := #[(Operand.tmp 8), (Operand.tmp 11)], argTypes := #[22, 81] }, none⟩, []⟩,
  ⟨⟨some 6, Op.assign (Operand.tmp 12), none⟩, []⟩]) .ret))
theorem sl271 : slim Try.f271.ntmps ords271 (Try.f271.body.getD .skip) = some cd271 := by kernel_rfl
theorem in271 {args : List Value} {H : AH} {R : Value → AH → Prop} (hl : args.length = 3) (h : ∀ (Q : Exit → Sl → AH → Prop), (∀ e s H, endA Try.prog [ResultVar.tmp 6] R e s H → Q e s H) → wpC Try.prog cd271 Q (enterA args) H) : ACalls Try.prog 271 args H R :=
  ACalls.intro (by kernel_rfl) Try.func271 rfl (by kernel_rfl) sl271 hl (of_decide_eq_true (by kernel_rfl)) (by kernel_rfl) h
def ords257 : List (Nat × List (Nat × Bool)) := []
def cd257 : Cd := (.seq (.reg [⟨⟨some 3, Op.box 31 (Operand.tmp 0), none⟩, []⟩,
  ⟨⟨some 6, Op.assign (Operand.const (Value.bool false)), none⟩, []⟩]) (.seq (.seq (.reg [⟨⟨some 7, Op.assign (Operand.const (Value.int IntKind.i64 0)), none⟩, []⟩]) (.block 0 (.loop (.seq (.seq (.reg [⟨⟨some 9, Op.move (Operand.tmp 7), none⟩, []⟩,
  ⟨⟨some 10, Op.fieldAddr 31 (Operand.tmp 3) 1, none⟩, []⟩,
  ⟨⟨some 11, Op.load 22 (Operand.tmp 10), none⟩, []⟩,
  ⟨⟨some 12, Op.call { callee := (Callee.builtin Builtin.len), args := #[(Operand.tmp 11)], argTypes := #[22] }, none⟩, []⟩,
  ⟨⟨some 13, Op.binOp BinOp.lss 3 (Operand.tmp 9) (Operand.tmp 12) 3, none⟩, []⟩]) (.cond (Operand.tmp 13) .skip (.exit 0))) (.seq (.block 1 (.seq (.reg [⟨⟨some 16, Op.fieldAddr 31 (Operand.tmp 3) 1, none⟩, []⟩,
  ⟨⟨some 17, Op.load 22 (Operand.tmp 16), none⟩, []⟩,
  ⟨⟨some 18, Op.move (Operand.tmp 7), none⟩, []⟩,
  ⟨⟨some 19, Op.indexAddr 22 (Operand.tmp 17) (Operand.tmp 18), none⟩, []⟩,
  ⟨⟨some 20, Op.load 81 (Operand.tmp 19), none⟩, []⟩,
  ⟨⟨some 8, Op.alloc 81, none⟩, []⟩,
  ⟨⟨none, Op.store 81 (Operand.tmp 8) (Operand.tmp 20), none⟩, []⟩]) (.seq (.reg [⟨⟨some 21, Op.indexAddr 81 (Operand.tmp 8) (Operand.const (Value.int IntKind.i64 0)), none⟩, []⟩,
  ⟨⟨some 22, Op.load 3 (Operand.tmp 21), none⟩, []⟩,
  ⟨⟨some 23, Op.move (Operand.tmp 1), none⟩, []⟩,
  ⟨⟨some 24, Op.binOp BinOp.eql 3 (Operand.tmp 22) (Operand.tmp 23) 3, none⟩, []⟩,
  ⟨⟨some 25, Op.move (Operand.tmp 24), none⟩, []⟩,
  ⟨⟨some 26, Op.indexAddr 81 (Operand.tmp 8) (Operand.const (Value.int IntKind.i64 1)), some (25, true)⟩, []⟩,
  ⟨⟨some 27, Op.load 3 (Operand.tmp 26), some (25, true)⟩, []⟩,
  ⟨⟨some 28, Op.move (Operand.tmp 2), some (25, true)⟩, []⟩,
  ⟨⟨some 29, Op.binOp BinOp.eql 3 (Operand.tmp 27) (Operand.tmp 28) 3, some (25, true)⟩, []⟩,
  ⟨⟨some 30, Op.pick (Operand.tmp 25) (Operand.tmp 29) (Operand.const (Value.bool false)), none⟩, []⟩,
  ⟨⟨some 31, Op.move (Operand.tmp 30), none⟩, []⟩,
  ⟨⟨some 32, Op.indexAddr 81 (Operand.tmp 8) (Operand.const (Value.int IntKind.i64 0)), some (31, false)⟩, []⟩,
  ⟨⟨some 33, Op.load 3 (Operand.tmp 32), some (31, false)⟩, []⟩,
  ⟨⟨some 34, Op.move (Operand.tmp 2), some (31, false)⟩, []⟩,
  ⟨⟨some 35, Op.binOp BinOp.eql 3 (Operand.tmp 33) (Operand.tmp 34) 3, some (31, false)⟩, []⟩,
  ⟨⟨some 36, Op.move (Operand.tmp 35), some (31, false)⟩, []⟩,
  ⟨⟨some 37, Op.indexAddr 81 (Operand.tmp 8) (Operand.const (Value.int IntKind.i64 1)), some (36, true)⟩, []⟩,
  ⟨⟨some 38, Op.load 3 (Operand.tmp 37), some (36, true)⟩, []⟩,
  ⟨⟨some 39, Op.move (Operand.tmp 1), some (36, true)⟩, []⟩,
  ⟨⟨some 40, Op.binOp BinOp.eql 3 (Operand.tmp 38) (Operand.tmp 39) 3, some (36, true)⟩, []⟩,
  ⟨⟨some 41, Op.pick (Operand.tmp 36) (Operand.tmp 40) (Operand.const (Value.bool false)), some (31, false)⟩, []⟩,
  ⟨⟨some 42, Op.pick (Operand.tmp 31) (Operand.const (Value.bool true)) (Operand.tmp 41), none⟩, []⟩]) (.cond (Operand.tmp 42) (.seq (.reg [⟨⟨some 6, Op.assign (Operand.const (Value.bool true)), none⟩, []⟩]) .ret) .skip)))) (.reg [⟨⟨some 14, Op.move (Operand.tmp 7), none⟩, []⟩,
  ⟨⟨some 15, Op.binOp BinOp.add 3 (Operand.tmp 14) (Operand.const (Value.int IntKind.i64 1)) 3, none⟩, []⟩,
  ⟨⟨some 7, Op.assign (Operand.tmp 15), none⟩, []⟩])))))) (.seq (.reg [⟨⟨some 6, Op.assign (Operand.const (Value.bool false)), none⟩, []⟩]) .ret)))
theorem sl257 : slim Try.f257.ntmps ords257 (Try.f257.body.getD .skip) = some cd257 := by kernel_rfl
theorem in257 {args : List Value} {H : AH} {R : Value → AH → Prop} (hl : args.length = 3) (h : ∀ (Q : Exit → Sl → AH → Prop), (∀ e s H, endA Try.prog [ResultVar.tmp 6] R e s H → Q e s H) → wpC Try.prog cd257 Q (enterA args) H) : ACalls Try.prog 257 args H R :=
  ACalls.intro (by kernel_rfl) Try.func257 rfl (by kernel_rfl) sl257 hl (of_decide_eq_true (by kernel_rfl)) (by kernel_rfl) h
def ords263 : List (Nat × List (Nat × Bool)) := []
def cd263 : Cd := (.seq (.reg [⟨⟨some 2, Op.box 31 (Operand.tmp 0), none⟩, []⟩,
  ⟨⟨some 4, Op.assign (Operand.const (Value.slice none 0 0)), none⟩, []⟩]) (.seq (.reg [⟨⟨some 7, Op.buildSlice 38 0 #[], none⟩, []⟩,
  ⟨⟨some 5, Op.assign (Operand.tmp 7), none⟩, []⟩]) (.seq (.seq (.reg [⟨⟨some 8, Op.fieldAddr 31 (Operand.tmp 2) 0, none⟩, []⟩,
  ⟨⟨some 9, Op.load 3 (Operand.tmp 8), none⟩, []⟩,
  ⟨⟨some 10, Op.move (Operand.const (Value.int IntKind.i64 0)), none⟩, []⟩]) (.block 0 (.loop (.seq (.reg [⟨⟨some 11, Op.binOp BinOp.lss 3 (Operand.tmp 10) (Operand.tmp 9) 3, none⟩, []⟩]) (.seq (.cond (Operand.tmp 11) .skip (.exit 0)) (.seq (.block 1 (.seq (.reg [⟨⟨some 12, Op.move (Operand.tmp 10), none⟩, []⟩,
  ⟨⟨some 6, Op.assign (Operand.tmp 12), none⟩, []⟩]) (.seq (.reg [⟨⟨some 13, Op.move (Operand.tmp 6), none⟩, []⟩,
  ⟨⟨some 14, Op.move (Operand.tmp 1), none⟩, []⟩,
  ⟨⟨some 15, Op.binOp BinOp.neq 3 (Operand.tmp 13) (Operand.tmp 14) 3, none⟩, []⟩,
  ⟨⟨some 16, Op.move (Operand.tmp 15), none⟩, []⟩,
  ⟨⟨some 17, Op.load 31 (Operand.tmp 2), some (16, true)⟩, []⟩,
  ⟨⟨some 18, Op.move (Operand.tmp 1), some (16, true)⟩, []⟩,
  ⟨⟨some 19, Op.move (Operand.tmp 6), some (16, true)⟩, []⟩,
  ⟨⟨some 20, Op.call { callee := (Callee.value (Operand.func 271)), args := #[(Operand.tmp 17), (Operand.tmp 18), (Operand.tmp 19)], argTypes := #[31, 3, 3] }, some (16, true)⟩, []⟩,
  ⟨⟨some 21, Op.pick (Operand.tmp 16) (Operand.tmp 20) (Operand.const (Value.bool false)), none⟩, []⟩]) (.cond (Operand.tmp 21) (.reg [⟨⟨some 22, Op.move (Operand.tmp 5), none⟩, []⟩,
  ⟨⟨some 23, Op.move (Operand.tmp 6), none⟩, []⟩,
  ⟨⟨some 24, Op.buildSlice 38 1 #[(0, (Operand.tmp 23))], none⟩, []⟩,
  ⟨⟨some 25, Op.call { callee := (Callee.builtin Builtin.append), args := #[(Operand.tmp 22), (Operand.tmp 24)], argTypes := #[38, 38] }, none⟩, []⟩,
  ⟨⟨some 5, Op.assign (Operand.tmp 25), none⟩, []⟩]) .skip)))) (.reg [⟨⟨some 26, Op.binOp BinOp.add 3 (Operand.tmp 10) (Operand.const (Value.int IntKind.i64 1)) 3, none⟩, []⟩,
  ⟨⟨some 10, Op.move (Operand.tmp 26), none⟩, []⟩]))))))) (.seq (.reg [⟨⟨some 27, Op.move (Operand.tmp 5), none⟩, []⟩,
  ⟨⟨some 4, Op.assign (Operand.tmp 27), none⟩, []⟩]) .ret))))
theorem sl263 : slim Try.f263.ntmps ords263 (Try.f263.body.getD .skip) = some cd263 := by kernel_rfl
theorem in263 {args : List Value} {H : AH} {R : Value → AH → Prop} (hl : args.length = 2) (h : ∀ (Q : Exit → Sl → AH → Prop), (∀ e s H, endA Try.prog [ResultVar.tmp 4] R e s H → Q e s H) → wpC Try.prog cd263 Q (enterA args) H) : ACalls Try.prog 263 args H R :=
  ACalls.intro (by kernel_rfl) Try.func263 rfl (by kernel_rfl) sl263 hl (of_decide_eq_true (by kernel_rfl)) (by kernel_rfl) h
end Go.Proofs.Ytlfongfhbkefmaa.Ai
namespace Go.Proofs.Ytlfongfhbkefmaa.Ai
open Go Go.RowKit
set_option linter.unusedVariables false
set_option linter.unusedSimpArgs false
def hitB (a b : Int) (e : Int × Int) : Bool := decide (e.1 = a ∧ e.2 = b ∨ e.1 = b ∧ e.2 = a)
/-- are two nodes neighbors -/
def nearB (es : List (Int × Int)) (a b : Int) : Bool := es.any (hitB a b)
theorem any_step {α : Type} (p : α → Bool) (xs : List α) (d : α) (i : Nat) (hi : i < xs.length) : (xs.drop i).any p = (p (xs.getD i d) || (xs.drop (i + 1)).any p) := by
  have : xs.getD i d = xs[i] := by simp [hi]
  rw [List.drop_eq_getElem_cons hi, List.any_cons, this]
theorem nearB_comm (es : List (Int × Int)) (a b : Int) : nearB es a b = nearB es b a := by
  have : hitB a b = hitB b a := by
    funext e
    unfold hitB
    rw [decide_eq_decide]
    exact ⟨fun h => h.elim .inr .inl, fun h => h.elim .inr .inl⟩
  unfold nearB
  rw [this]
theorem nearB_iff (es : List (Int × Int)) (a b : Int) : nearB es a b = true ↔ ((a, b) ∈ es ∨ (b, a) ∈ es) := by
  unfold nearB hitB
  rw [List.any_eq_true]
  constructor
  · rintro ⟨⟨x, y⟩, hm, h⟩
    rcases of_decide_eq_true h with h | h
    · obtain ⟨h1, h2⟩ := h
      simp only at h1 h2
      subst h1; subst h2; exact .inl hm
    · obtain ⟨h1, h2⟩ := h
      simp only at h1 h2
      subst h1; subst h2; exact .inr hm
  · rintro (h | h)
    · exact ⟨_, h, by simp⟩
    · exact ⟨_, h, by simp⟩
theorem grd_mem {n : Int} {es : List (Int × Int)} (hg : Grd n es) {e : Int × Int} (he : e ∈ es) : 0 ≤ e.1 ∧ e.1 < e.2 ∧ e.2 < n := by
  obtain ⟨i, hi, rfl⟩ := List.mem_iff_getElem.1 he
  obtain ⟨h1, h2, h3, _⟩ := hg.2 i hi
  have : es.getD i (0, 0) = es[i] := by simp [hi]
  rw [this] at h1 h2 h3
  exact ⟨h1, h2, h3⟩
theorem near_rng {n : Int} {es : List (Int × Int)} (hg : Grd n es) {a b : Int} (h : nearB es a b = true) : (0 ≤ a ∧ a < n) ∧ (0 ≤ b ∧ b < n) ∧ a ≠ b := by
  rcases (nearB_iff es a b).1 h with h | h <;> have := grd_mem hg h <;> simp only at this <;> omega
theorem near_has {n : Int} {es : List (Int × Int)} (hg : Grd n es) (a b : Int) (hab : b ≠ a) : decide ((minI a b, maxI a b) ∈ es) = nearB es a b := by
  rw [Bool.eq_iff_iff, decide_eq_true_iff, nearB_iff]
  by_cases h : a ≤ b
  · have e1 : minI a b = a := by unfold minI; split <;> omega
    have e2 : maxI a b = b := by unfold maxI; split <;> omega
    rw [e1, e2]
    exact ⟨.inl, fun h' => h'.resolve_right fun h'' => by have := grd_mem hg h''; simp only at this; omega⟩
  · have e1 : minI a b = b := by unfold minI; split <;> omega
    have e2 : maxI a b = a := by unfold maxI; split <;> omega
    rw [e1, e2]
    exact ⟨.inr, fun h' => h'.resolve_left fun h'' => by have := grd_mem hg h''; simp only at this; omega⟩
/-- the neighbors of a node below k -/
def nbsU (es : List (Int × Int)) (x : Int) : Nat → List Int
  | 0 => []
  | k + 1 => nbsU es x k ++ if nearB es x k = true then [(k : Int)] else []
theorem nbsU_len (es : List (Int × Int)) (x : Int) (k : Nat) : (nbsU es x k).length ≤ k := by
  induction k with
  | zero => simp [nbsU]
  | succ k ih => simp only [nbsU, List.length_append]; split <;> simp <;> omega
theorem nbsU_mem (es : List (Int × Int)) (x : Int) (k : Nat) (y : Int) : y ∈ nbsU es x k ↔ (0 ≤ y ∧ y < k) ∧ nearB es x y = true := by
  induction k with
  | zero => simp [nbsU]; intro h1 h2; omega
  | succ k ih =>
    simp only [nbsU, List.mem_append, ih]
    constructor
    · rintro (⟨h1, h2⟩ | h)
      · exact ⟨by omega, h2⟩
      · split at h
        · rename_i hn
          simp only [List.mem_cons, List.not_mem_nil, or_false] at h
          subst h; exact ⟨by omega, hn⟩
        · simp at h
    · rintro ⟨h1, h2⟩
      by_cases h : y < k
      · exact .inl ⟨by omega, h2⟩
      · obtain rfl : y = k := by omega
        right; rw [if_pos h2]; simp
theorem eq_a2 (a b c d : Int) : binA Try.prog .eql 81 (.agg (List.toArray [.int .i64 a, .int .i64 b])) (.agg (List.toArray [.int .i64 c, .int .i64 d])) = some (.bool (decide ((a, b) = (c, d)))) := by
  have h : binA Try.prog .eql 81 (.agg (List.toArray [.int .i64 a, .int .i64 b])) (.agg (List.toArray [.int .i64 c, .int .i64 d])) = some (.bool (a == c && b == d)) := by kernel_rfl
  have h2 : (a == c && b == d) = decide ((a, b) = (c, d)) := by
    rw [Bool.eq_iff_iff]
    simp
  rw [h, h2]
set_option maxRecDepth 20000 in
theorem IndexP_c (v : Value) (ps : List (Int × Int)) (p : Int × Int) (H : AH) (hr : RowP 81 H v ps) (hlen : ps.length ≤ 1099511627776) :
    ACalls Try.prog 277 [v, .agg (List.toArray [.int .i64 p.1, .int .i64 p.2])] H fun r H' => (∃ k : Int, r = .int .i64 k ∧ (0 ≤ k ↔ p ∈ ps)) ∧ H <+: H' := by
  refine in277 rfl ?_
  intro Q hQ
  simp (maxSteps := 1000000) (disch := omega) only [cd277, box_a2, hr.len Try.underlying22, S, S1, S2, S3, S4, S5, ST, eq_self, reduceIte, reduceCtorEq, Nat.reduceEqDiff, Nat.reduceAdd]
  generalize hA : H ++ [AObj.cells [.int .i64 p.1, .int .i64 p.2] 81 false] = A
  have pA : H <+: A := by rw [← hA]; exact List.prefix_append _ _
  have cA : A[H.length]? = some (.cells [.int .i64 p.1, .int .i64 p.2] 81 false) := by rw [← hA]; exact at_new ..
  have rA := hr.pre pA
  refine LoopH.by (fun m s H' => ∃ i, m + i = ps.length ∧ s 0 = v ∧ s 3 = .pointer (some ⟨H.length, 0, none⟩) ∧ s 7 = .int .i64 (ps.length : Int) ∧ s 8 = .int .i64 ((i : Nat) : Int) ∧ A = H' ∧ ∀ j, j < i → ps.getD j (0, 0) ≠ p) ps.length ?_ ?_
  · exact ⟨0, by simp, rfl, rfl, rfl, rfl, rfl, fun j hj => absurd hj (Nat.not_lt_zero j)⟩
  · rintro m s H' ⟨i, hm, h0, h3, h7, h8, rfl, hn⟩
    simp (maxSteps := 1000000) (disch := omega) only [h0, h3, h7, h8, S, S1, S2, S3, S4, S5, ST, eq_self, reduceIte, reduceCtorEq, Nat.reduceEqDiff, Nat.reduceAdd]
    refine brD.intro (fun g => ?_) (fun g => ?_)
    · have hi : i < ps.length := by omega
      simp (maxSteps := 1000000) (disch := omega) only [h0, h3, h7, h8, ld_a2 cA, rA.ix Try.underlying22 cs81, Int.toNat_natCast, rA.ld ag81 cs81 hi, eq_a2, S, S1, S2, S3, S4, S5, ST, eq_self, reduceIte, reduceCtorEq, Nat.reduceEqDiff, Nat.reduceAdd]
      refine brD.intro (fun e => ?_) (fun e => ?_) <;> simp (maxSteps := 1000000) (disch := omega) only [h0, h3, h7, h8, wrap64, S, S1, S2, S3, S4, S5, ST, eq_self, reduceIte, reduceCtorEq, Nat.reduceEqDiff, Nat.reduceAdd]
      · refine hQ _ _ _ ?_
        simp (maxSteps := 1000000) (disch := omega) only [S, S1, S2, S3, S4, S5, ST, eq_self, reduceIte, reduceCtorEq, Nat.reduceEqDiff, Nat.reduceAdd]
        have e' : p = ps.getD i (0, 0) := e
        have hm : p ∈ ps := by rw [e']; simp [hi]
        exact ⟨⟨i, rfl, ⟨fun _ => hm, fun _ => by omega⟩⟩, pA⟩
      · have f1 : ∀ j, j < i + 1 → ps.getD j (0, 0) ≠ p := by
          intro j hj
          rcases Nat.lt_succ_iff_lt_or_eq.1 hj with h | h
          · exact hn j h
          · rw [h]; intro h'; exact e h'.symm
        refine ⟨m - 1, by omega, i + 1, ?_⟩
        (repeat' apply And.intro) <;> first | exact f1 | (simp only [Value.int.injEq, true_and]; omega) | omega | rfl | assumption | (simp; done) | (simp; omega)
    · simp (maxSteps := 1000000) (disch := omega) only [S, S1, S2, S3, S4, S5, ST, eq_self, reduceIte, reduceCtorEq, Nat.reduceEqDiff, Nat.reduceAdd]
      refine hQ _ _ _ ?_
      simp (maxSteps := 1000000) (disch := omega) only [S, S1, S2, S3, S4, S5, ST, eq_self, reduceIte, reduceCtorEq, Nat.reduceEqDiff, Nat.reduceAdd]
      refine ⟨⟨-1, rfl, ⟨fun h => absurd h (by omega), fun h => ?_⟩⟩, pA⟩
      obtain ⟨j, hj, e⟩ := List.mem_iff_getElem.1 h
      exact absurd (by simp [hj, e]) (hn j (by omega))
theorem ContainsP_c (v : Value) (ps : List (Int × Int)) (p : Int × Int) (H : AH) (hr : RowP 81 H v ps) (hlen : ps.length ≤ 1099511627776) :
    ACalls Try.prog 274 [v, .agg (List.toArray [.int .i64 p.1, .int .i64 p.2])] H fun r H' => r = .bool (decide (p ∈ ps)) ∧ H <+: H' := by
  refine in274 rfl ?_
  intro Q hQ
  simp (maxSteps := 1000000) (disch := omega) only [cd274, box_a2, S, S1, S2, S3, S4, S5, ST, eq_self, reduceIte, reduceCtorEq, Nat.reduceEqDiff, Nat.reduceAdd]
  generalize hA : H ++ [AObj.cells [.int .i64 p.1, .int .i64 p.2] 81 false] = A
  have pA : H <+: A := by rw [← hA]; exact List.prefix_append _ _
  have cA : A[H.length]? = some (.cells [.int .i64 p.1, .int .i64 p.2] 81 false) := by rw [← hA]; exact at_new ..
  simp (maxSteps := 1000000) (disch := omega) only [ld_a2 cA, S, S1, S2, S3, S4, S5, ST, eq_self, reduceIte, reduceCtorEq, Nat.reduceEqDiff, Nat.reduceAdd]
  refine CallH.by (IndexP_c v ps p A (hr.pre pA) hlen) ?_
  rintro _ B ⟨⟨k, rfl, hk⟩, pB⟩
  simp (maxSteps := 1000000) (disch := omega) only [S, S1, S2, S3, S4, S5, ST, eq_self, reduceIte, reduceCtorEq, Nat.reduceEqDiff, Nat.reduceAdd]
  refine hQ _ _ _ ?_
  simp (maxSteps := 1000000) (disch := omega) only [S, S1, S2, S3, S4, S5, ST, eq_self, reduceIte, reduceCtorEq, Nat.reduceEqDiff, Nat.reduceAdd]
  refine ⟨?_, pA.trans pB⟩
  rw [Value.bool.injEq, decide_eq_decide]; exact hk
theorem has_G (n : Int) (v : Value) (es : List (Int × Int)) (a b : Int) (H : AH) (hr : RowP 81 H v es) (hlen : es.length ≤ 1099511627776) :
    ACalls Try.prog 271 [.agg (List.toArray [.int .i64 n, v]), .int .i64 a, .int .i64 b] H fun r H' => r = .bool (decide ((minI a b, maxI a b) ∈ es)) ∧ H <+: H' := by
  refine in271 rfl ?_
  intro Q hQ
  simp (maxSteps := 1000000) (disch := omega) only [cd271, hr.boxG, S, S1, S2, S3, S4, S5, ST, eq_self, reduceIte, reduceCtorEq, Nat.reduceEqDiff, Nat.reduceAdd]
  generalize hA : H ++ [AObj.cells [.int .i64 n, v] 31 false] = A
  have pA : H <+: A := by rw [← hA]; exact List.prefix_append _ _
  have cA : A[H.length]? = some (.cells [.int .i64 n, v] 31 false) := by rw [← hA]; exact at_new ..
  have rA := hr.pre pA
  simp (maxSteps := 1000000) (disch := omega) only [cell_of cA, S, S1, S2, S3, S4, S5, ST, eq_self, reduceIte, reduceCtorEq, Nat.reduceEqDiff, Nat.reduceAdd]
  refine CallH.by (pair_c a b A) ?_
  rintro _ B ⟨rfl, pB⟩
  have cB := pre_at pB cA
  simp (maxSteps := 1000000) (disch := omega) only [cell_of cB, S, S1, S2, S3, S4, S5, ST, eq_self, reduceIte, reduceCtorEq, Nat.reduceEqDiff, Nat.reduceAdd]
  refine CallH.by (ContainsP_c v es (minI a b, maxI a b) B (rA.pre pB) hlen) ?_
  rintro _ C ⟨rfl, pC⟩
  simp (maxSteps := 1000000) (disch := omega) only [S, S1, S2, S3, S4, S5, ST, eq_self, reduceIte, reduceCtorEq, Nat.reduceEqDiff, Nat.reduceAdd]
  refine hQ _ _ _ ?_
  simp (maxSteps := 1000000) (disch := omega) only [S, S1, S2, S3, S4, S5, ST, eq_self, reduceIte, reduceCtorEq, Nat.reduceEqDiff, Nat.reduceAdd]
  exact pA.trans (pB.trans pC)
set_option maxRecDepth 20000 in
set_option maxHeartbeats 1000000 in
theorem l2Near_c (n : Int) (v : Value) (es : List (Int × Int)) (a b : Int) (H : AH) (hr : RowP 81 H v es) (hlen : es.length ≤ 1099511627776) :
    ACalls Try.prog 257 [.agg (List.toArray [.int .i64 n, v]), .int .i64 a, .int .i64 b] H fun r H' => r = .bool (nearB es a b) ∧ H <+: H' := by
  refine in257 rfl ?_
  intro Q hQ
  simp (maxSteps := 1000000) (disch := omega) only [cd257, hr.boxG, S, S1, S2, S3, S4, S5, ST, eq_self, reduceIte, reduceCtorEq, Nat.reduceEqDiff, Nat.reduceAdd]
  generalize hA : H ++ [AObj.cells [.int .i64 n, v] 31 false] = A
  have pA : H <+: A := by rw [← hA]; exact List.prefix_append _ _
  have cA : A[H.length]? = some (.cells [.int .i64 n, v] 31 false) := by rw [← hA]; exact at_new ..
  have rA := hr.pre pA
  try simp (maxSteps := 1000000) (disch := omega) only [S, S1, S2, S3, S4, S5, ST, eq_self, reduceIte, reduceCtorEq, Nat.reduceEqDiff, Nat.reduceAdd]
  refine LoopH.by (fun m s H' => ∃ i, m + i = es.length ∧ s 1 = .int .i64 a ∧ s 2 = .int .i64 b ∧ s 3 = .pointer (some ⟨H.length, 0, none⟩) ∧ s 7 = .int .i64 ((i : Nat) : Int) ∧ nearB es a b = (es.drop i).any (hitB a b) ∧ A <+: H') es.length ?_ ?_
  · exact ⟨0, by simp, rfl, rfl, rfl, rfl, by rw [List.drop_zero]; rfl, List.prefix_refl _⟩
  · rintro m s H' ⟨i, hm, h1, h2, h3, h7, hn, hp⟩
    have hr' := rA.pre hp
    have cH := pre_at hp cA
    have hpp := pA.trans hp
    simp (maxSteps := 1000000) (disch := omega) only [h1, h2, h3, h7, cell_of cH, hr'.len Try.underlying22, S, S1, S2, S3, S4, S5, ST, eq_self, reduceIte, reduceCtorEq, Nat.reduceEqDiff, Nat.reduceAdd]
    refine brD.intro (fun g => ?_) (fun g => ?_)
    · have hi : i < es.length := by omega
      have hst0 := store_a2 H' [.int .i64 0, .int .i64 0] rfl
      rw [any_step _ es (0, 0) i hi] at hn
      simp (maxSteps := 1000000) (disch := omega) only [h1, h2, h3, h7, cell_of cH, hr'.ix Try.underlying22 cs81, Int.toNat_natCast, hr'.ld ag81 cs81 hi, alloc_a2, hst0, cell_new, wrap64, S, S1, S2, S3, S4, S5, ST, eq_self, reduceIte, reduceCtorEq, Nat.reduceEqDiff, Nat.reduceAdd]
      generalize hx : es.getD i (0, 0) = x at *
      have pB : A <+: H' ++ [AObj.cells [.int .i64 x.1, .int .i64 x.2] 81 false] := pre_app hp _
      have yes : hitB a b x = true → nearB es a b = true := fun h => by rw [hn, h]; rfl
      have no : hitB a b x = false → nearB es a b = (es.drop (i + 1)).any (hitB a b) := fun h => by rw [hn, h]; rfl
      unfold hitB at yes no
      rw [decide_eq_true_iff] at yes
      rw [decide_eq_false_iff_not] at no
      have second : ¬ (x.1 = a ∧ x.2 = b) → True := fun _ => trivial
      refine brD.intro (fun e1 => ?_) (fun e1 => ?_) <;> (first | have de1 := decide_eq_false e1 | have de1 := decide_eq_true e1) <;> simp (maxSteps := 1000000) (disch := omega) only [de1, h1, h2, h3, h7, cell_new, wrap64, S, S1, S2, S3, S4, S5, ST, eq_self, reduceIte, reduceCtorEq, Nat.reduceEqDiff, Nat.reduceAdd]
      · refine brD.intro (fun e2 => ?_) (fun e2 => ?_) <;> (first | have de2 := decide_eq_false e2 | have de2 := decide_eq_true e2) <;> simp (maxSteps := 1000000) (disch := omega) only [de1, de2, h1, h2, h3, h7, cell_new, wrap64, S, S1, S2, S3, S4, S5, ST, eq_self, reduceIte, reduceCtorEq, Nat.reduceEqDiff, Nat.reduceAdd]
        · refine hQ _ _ _ ?_
          simp (maxSteps := 1000000) (disch := omega) only [S, S1, S2, S3, S4, S5, ST, eq_self, reduceIte, reduceCtorEq, Nat.reduceEqDiff, Nat.reduceAdd]
          exact ⟨by rw [yes (by omega)], pA.trans pB⟩
        · refine brD.intro (fun e3 => ?_) (fun e3 => ?_) <;> (first | have de3 := decide_eq_false e3 | have de3 := decide_eq_true e3) <;> simp (maxSteps := 1000000) (disch := omega) only [de1, de2, de3, h1, h2, h3, h7, cell_new, wrap64, S, S1, S2, S3, S4, S5, ST, eq_self, reduceIte, reduceCtorEq, Nat.reduceEqDiff, Nat.reduceAdd]
          · refine brD.intro (fun e4 => ?_) (fun e4 => ?_) <;> (first | have de4 := decide_eq_false e4 | have de4 := decide_eq_true e4) <;> simp (maxSteps := 1000000) (disch := omega) only [de1, de2, de3, de4, h1, h2, h3, h7, cell_new, wrap64, S, S1, S2, S3, S4, S5, ST, eq_self, reduceIte, reduceCtorEq, Nat.reduceEqDiff, Nat.reduceAdd]
            · refine hQ _ _ _ ?_
              simp (maxSteps := 1000000) (disch := omega) only [S, S1, S2, S3, S4, S5, ST, eq_self, reduceIte, reduceCtorEq, Nat.reduceEqDiff, Nat.reduceAdd]
              exact ⟨by rw [yes (by omega)], pA.trans pB⟩
            · have f1 := no (by omega)
              refine ⟨m - 1, by omega, i + 1, ?_⟩
              (repeat' first | exact f1 | exact pB | apply And.intro) <;> first | (simp only [Value.int.injEq, true_and]; omega) | omega | rfl | assumption | (simp; done) | (simp; omega)
          · have f1 := no (by omega)
            refine ⟨m - 1, by omega, i + 1, ?_⟩
            (repeat' first | exact f1 | exact pB | apply And.intro) <;> first | (simp only [Value.int.injEq, true_and]; omega) | omega | rfl | assumption | (simp; done) | (simp; omega)
      · refine brD.intro (fun e3 => ?_) (fun e3 => ?_) <;> (first | have de3 := decide_eq_false e3 | have de3 := decide_eq_true e3) <;> simp (maxSteps := 1000000) (disch := omega) only [de1, de3, h1, h2, h3, h7, cell_new, wrap64, S, S1, S2, S3, S4, S5, ST, eq_self, reduceIte, reduceCtorEq, Nat.reduceEqDiff, Nat.reduceAdd]
        · refine brD.intro (fun e4 => ?_) (fun e4 => ?_) <;> (first | have de4 := decide_eq_false e4 | have de4 := decide_eq_true e4) <;> simp (maxSteps := 1000000) (disch := omega) only [de1, de3, de4, h1, h2, h3, h7, cell_new, wrap64, S, S1, S2, S3, S4, S5, ST, eq_self, reduceIte, reduceCtorEq, Nat.reduceEqDiff, Nat.reduceAdd]
          · refine hQ _ _ _ ?_
            simp (maxSteps := 1000000) (disch := omega) only [S, S1, S2, S3, S4, S5, ST, eq_self, reduceIte, reduceCtorEq, Nat.reduceEqDiff, Nat.reduceAdd]
            exact ⟨by rw [yes (by omega)], pA.trans pB⟩
          · have f1 := no (by omega)
            refine ⟨m - 1, by omega, i + 1, ?_⟩
            (repeat' first | exact f1 | exact pB | apply And.intro) <;> first | (simp only [Value.int.injEq, true_and]; omega) | omega | rfl | assumption | (simp; done) | (simp; omega)
        · have f1 := no (by omega)
          refine ⟨m - 1, by omega, i + 1, ?_⟩
          (repeat' first | exact f1 | exact pB | apply And.intro) <;> first | (simp only [Value.int.injEq, true_and]; omega) | omega | rfl | assumption | (simp; done) | (simp; omega)
    · simp (maxSteps := 1000000) (disch := omega) only [h1, h2, h3, h7, S, S1, S2, S3, S4, S5, ST, eq_self, reduceIte, reduceCtorEq, Nat.reduceEqDiff, Nat.reduceAdd]
      refine hQ _ _ _ ?_
      simp (maxSteps := 1000000) (disch := omega) only [S, S1, S2, S3, S4, S5, ST, eq_self, reduceIte, reduceCtorEq, Nat.reduceEqDiff, Nat.reduceAdd]
      rw [hn, List.drop_of_length_le (by omega)]
      exact ⟨rfl, hpp⟩
set_option maxRecDepth 20000 in
set_option maxHeartbeats 1000000 in
theorem neighbors_c (n : Int) (v : Value) (es : List (Int × Int)) (x : Int) (H : AH) (hr : RowP 81 H v es) (hlen : es.length ≤ 1099511627776) (hg : Grd n es) :
    ACalls Try.prog 263 [.agg (List.toArray [.int .i64 n, v]), .int .i64 x] H fun r H' => Own 3 H H' r (nbsU es x n.toNat) ∧ H <+: H' := by
  have hn := hg.1
  refine in263 rfl ?_
  intro Q hQ
  simp (maxSteps := 1000000) (disch := omega) only [cd263, hr.boxG, S, S1, S2, S3, S4, S5, ST, eq_self, reduceIte, reduceCtorEq, Nat.reduceEqDiff, Nat.reduceAdd]
  generalize hA : H ++ [AObj.cells [.int .i64 n, v] 31 false] = A
  have pA : H <+: A := by rw [← hA]; exact List.prefix_append _ _
  have cA : A[H.length]? = some (.cells [.int .i64 n, v] 31 false) := by rw [← hA]; exact at_new ..
  have rA := hr.pre pA
  simp (maxSteps := 1000000) (disch := omega) only [cell_of (at_app cA _), S, S1, S2, S3, S4, S5, ST, eq_self, reduceIte, reduceCtorEq, Nat.reduceEqDiff, Nat.reduceAdd]
  refine LoopH.by (fun m s H' => ∃ i, m + i = n.toNat ∧ s 1 = .int .i64 x ∧ s 2 = .pointer (some ⟨H.length, 0, none⟩) ∧ s 9 = .int .i64 n ∧ s 10 = .int .i64 ((i : Nat) : Int) ∧ Own 3 A H' (s 5) (nbsU es x i) ∧ A <+: H') n.toNat ?_ ?_
  · exact ⟨0, by simp, rfl, rfl, rfl, rfl, .inr ⟨A.length, rfl, Nat.le_refl _, at_new ..⟩, List.prefix_append _ _⟩
  · rintro m s H' ⟨i, hm, h1, h2, h9, h10, ho, hp⟩
    have hr' := rA.pre hp
    have cH := pre_at hp cA
    have hl := nbsU_len es x i
    have hst : nbsU es x (i + 1) = nbsU es x i ++ if nearB es x i = true then [(i : Int)] else [] := rfl
    generalize hw : s 5 = w at *
    simp (maxSteps := 1000000) (disch := omega) only [h1, h2, h9, h10, hw, S, S1, S2, S3, S4, S5, ST, eq_self, reduceIte, reduceCtorEq, Nat.reduceEqDiff, Nat.reduceAdd]
    refine brD.intro (fun g => ?_) (fun g => ?_)
    · simp (maxSteps := 1000000) (disch := omega) only [h1, h2, h9, h10, hw, S, S1, S2, S3, S4, S5, ST, eq_self, reduceIte, reduceCtorEq, Nat.reduceEqDiff, Nat.reduceAdd]
      refine brD.intro (fun e1 => ?_) (fun e1 => ?_) <;> simp (maxSteps := 1000000) (disch := omega) only [e1, h1, h2, h9, h10, hw, ld_agg ag31 cs31 cH, wrap64, S, S1, S2, S3, S4, S5, ST, eq_self, reduceIte, reduceCtorEq, Nat.reduceEqDiff, Nat.reduceAdd]
      · refine CallH.by (has_G n v es x i H' hr' hlen) ?_
        rintro _ B ⟨rfl, pB⟩
        rw [near_has hg x i (by omega)]
        have hoB := ho.pre pB
        have hpB := hp.trans pB
        simp (maxSteps := 1000000) (disch := omega) only [e1, S, S1, S2, S3, S4, S5, ST, eq_self, reduceIte, reduceCtorEq, Nat.reduceEqDiff, Nat.reduceAdd]
        refine brH.intro (fun e2 => ?_) (fun e2 => ?_)
        · obtain ⟨w', H2, k1, k2, k3, k4, k5, k6⟩ := own1_38 hoB hpB (by omega) (i : Int)
          simp (maxSteps := 1000000) (disch := omega) only [e1, e2, h1, h2, h9, h10, hw, k1, wrap64, S, S1, S2, S3, S4, S5, ST, eq_self, reduceIte, reduceCtorEq, Nat.reduceEqDiff, Nat.reduceAdd]
          rw [if_pos e2] at hst
          rw [← hst] at k2
          refine ⟨m - 1, by omega, i + 1, ?_⟩
          (repeat' first | exact k2 | exact k3 | apply And.intro) <;> first | (simp only [Value.int.injEq, true_and]; omega) | omega | rfl | assumption | (simp; done) | (simp; omega)
        · simp (maxSteps := 1000000) (disch := omega) only [e1, e2, h1, h2, h9, h10, hw, wrap64, S, S1, S2, S3, S4, S5, ST, eq_self, reduceIte, reduceCtorEq, Nat.reduceEqDiff, Nat.reduceAdd]
          rw [if_neg (by simpa using e2), List.append_nil] at hst
          rw [← hst] at hoB
          refine ⟨m - 1, by omega, i + 1, ?_⟩
          (repeat' first | exact hoB | exact hpB | apply And.intro) <;> first | (simp only [Value.int.injEq, true_and]; omega) | omega | rfl | assumption | (simp; done) | (simp; omega)
      · have e2 : nearB es x i ≠ true := by
          intro h
          have := (near_rng hg h).2.2
          omega
        rw [if_neg e2, List.append_nil] at hst
        rw [← hst] at ho
        refine ⟨m - 1, by omega, i + 1, ?_⟩
        (repeat' first | exact ho | exact hp | apply And.intro) <;> first | (simp only [Value.int.injEq, true_and]; omega) | omega | rfl | assumption | (simp; done) | (simp; omega)
    · simp (maxSteps := 1000000) (disch := omega) only [hw, S, S1, S2, S3, S4, S5, ST, eq_self, reduceIte, reduceCtorEq, Nat.reduceEqDiff, Nat.reduceAdd]
      refine hQ _ _ _ ?_
      simp (maxSteps := 1000000) (disch := omega) only [hw, ho.row.tup, S, S1, S2, S3, S4, S5, ST, eq_self, reduceIte, reduceCtorEq, Nat.reduceEqDiff, Nat.reduceAdd]
      have : i = n.toNat := by omega
      subst this
      exact ⟨ho.base pA, pA.trans hp⟩
end Go.Proofs.Ytlfongfhbkefmaa.Ai
namespace Go.Proofs.Ytlfongfhbkefmaa.Ai
open Go
set_option linter.unusedVariables false
/-- the places that only one of two has -/
def dix (a b : List Int) : Nat → List Int
  | 0 => []
  | k + 1 => dix a b k ++ (if (decide ((k : Int) ∈ a) != decide ((k : Int) ∈ b)) = true then [(k : Int)] else [])
theorem dix_mem (a b : List Int) (x : Int) : ∀ k, x ∈ dix a b k ↔ (0 ≤ x ∧ x < k) ∧ (decide (x ∈ a) != decide (x ∈ b)) = true
  | 0 => by simp [dix]; omega
  | k + 1 => by
    simp only [dix, List.mem_append, dix_mem a b x k]
    constructor
    · rintro (⟨h1, h2⟩ | h)
      · exact ⟨by omega, h2⟩
      · split at h
        · rename_i hk
          simp only [List.mem_singleton] at h
          subst h
          exact ⟨by omega, hk⟩
        · simp at h
    · rintro ⟨h1, h2⟩
      by_cases e : x = k
      · right
        subst e
        rw [if_pos h2]; simp
      · exact .inl ⟨by omega, h2⟩
theorem dix_len (a b : List Int) : ∀ k, (dix a b k).length ≤ k
  | 0 => Nat.le_refl _
  | k + 1 => by
    have := dix_len a b k
    simp only [dix, List.length_append]
    split <;> simp <;> omega
theorem dix_more (a b : List Int) {N : Nat} (ha : ∀ x ∈ a, x < N) (hb : ∀ x ∈ b, x < N) : ∀ k, N ≤ k → dix a b k = dix a b N := by
  intro k hk
  induction k with
  | zero =>
    have : N = 0 := by omega
    rw [this]
  | succ k ih =>
    by_cases e : N = k + 1
    · rw [e]
    · simp only [dix]
      rw [ih (by omega)]
      have h1 : (k : Int) ∉ a := fun h => by have := ha _ h; omega
      have h2 : (k : Int) ∉ b := fun h => by have := hb _ h; omega
      rw [decide_eq_false h1, decide_eq_false h2]
      simp
def dED (es : List (Int × Int)) (ds : List Int) : List (Int × Int) := ds.map fun i => es.getD i.toNat (0, 0)
/-- the edges that only one of two has -/
def dE (es : List (Int × Int)) (a b : List Int) : List (Int × Int) := dED es (dix a b es.length)
theorem dE_mem {es : List (Int × Int)} {a b : List Int} {e : Int × Int} (h : e ∈ dE es a b) : e ∈ es := by
  unfold dE dED at h
  rw [List.mem_map] at h
  obtain ⟨i, hi, rfl⟩ := h
  have := ((dix_mem a b i es.length).1 hi).1
  have hlt : i.toNat < es.length := by omega
  simp [hlt]
theorem dE_near {es : List (Int × Int)} {a b : List Int} {x y : Int} (h : nearB (dE es a b) x y = true) : nearB es x y = true := by
  rw [nearB_iff] at h ⊢
  exact h.imp dE_mem dE_mem
theorem dE_rng {n : Int} {es : List (Int × Int)} (hg : Grd n es) {a b : List Int} {x y : Int} (h : nearB (dE es a b) x y = true) : (0 ≤ x ∧ x < n) ∧ (0 ≤ y ∧ y < n) ∧ x ≠ y := near_rng hg (dE_near h)
/-- the numbers in a bag are those below 64 in a list -/
def BagI (b : Nat) (s : List Int) : Prop := b < 2 ^ 32 ∧ ∀ z : Nat, z < 64 → b.testBit z = decide ((z : Int) ∈ s)
theorem BagI.zero : BagI 0 [] := ⟨by decide, fun z _ => by simp⟩
theorem BagI.or {b y : Nat} {s : List Int} (h : BagI b s) (hy : y < 32) : BagI (b ||| 2 ^ y) (s ++ [(y : Int)]) := by
  refine ⟨Nat.or_lt_two_pow h.1 (Nat.pow_lt_pow_right (by decide) hy), fun z hz => ?_⟩
  rw [Nat.testBit_or, h.2 z hz, Nat.testBit_two_pow]
  by_cases e : y = z
  · subst e; simp
  · have e2 : ¬ ((z : Int) = y) := by omega
    simp [e, e2]
theorem BagI.congr {b : Nat} {s t : List Int} (h : BagI b s) (he : ∀ z : Nat, z < 64 → ((z : Int) ∈ s ↔ (z : Int) ∈ t)) : BagI b t :=
  ⟨h.1, fun z hz => by rw [h.2 z hz]; exact decide_eq_decide.2 (he z hz)⟩
end Go.Proofs.Ytlfongfhbkefmaa.Ai
namespace Go.Proofs.Ytlfongfhbkefmaa.Ai
open Go Go.RowKit
set_option linter.unusedVariables false
/-- both nodes of an edge -/
abbrev ed1 (es : List (Int × Int)) (e : Int) : Int := (es.getD e.toNat (0, 0)).1
abbrev ed2 (es : List (Int × Int)) (e : Int) : Int := (es.getD e.toNat (0, 0)).2
def seenL (es : List (Int × Int)) (xs : List Int) : List Int := xs.flatMap fun e => [ed1 es e, ed2 es e]
theorem seenL_snoc (es : List (Int × Int)) (xs : List Int) (e : Int) : seenL es (xs ++ [e]) = seenL es xs ++ [ed1 es e, ed2 es e] := by simp [seenL]
theorem seenL_take (es : List (Int × Int)) (xs : List Int) (i : Nat) (hi : i < xs.length) : seenL es (xs.take (i + 1)) = seenL es (xs.take i) ++ [ed1 es (xs.getD i 0), ed2 es (xs.getD i 0)] := by
  rw [List.take_add_one, List.getElem?_eq_getElem hi]
  have : xs.getD i 0 = xs[i] := by simp [hi]
  rw [this]
  exact seenL_snoc es _ _
theorem seenL_len (es : List (Int × Int)) (xs : List Int) : (seenL es xs).length = 2 * xs.length := by
  induction xs with
  | nil => rfl
  | cons a xs ih => simp only [seenL, List.flatMap_cons, List.length_append] at ih ⊢; simp only [List.length_cons, List.length_nil, ih]; omega
def rsOk (n : Int) (xs : List Int) (i : Nat) : Prop := (0 ≤ xs.getD i 0 ∧ xs.getD i 0 ≤ n - 1) ∧ (0 < i → xs.getD (i - 1) 0 < xs.getD i 0)
instance (n : Int) (xs : List Int) (i : Nat) : Decidable (rsOk n xs i) := by unfold rsOk; infer_instance
def frOk (es : List (Int × Int)) (xs : List Int) (i : Nat) : Prop := ed1 es (xs.getD i 0) ∉ seenL es (xs.take i) ∧ ed2 es (xs.getD i 0) ∉ seenL es (xs.take i)
instance (es : List (Int × Int)) (xs : List Int) (i : Nat) : Decidable (frOk es xs i) := by unfold frOk; infer_instance
def MtU (es : List (Int × Int)) (xs : List Int) (k : Nat) : Prop := ∀ i, i < k → rsOk es.length xs i ∧ frOk es xs i
instance (es : List (Int × Int)) (xs : List Int) (k : Nat) : Decidable (MtU es xs k) := by unfold MtU; infer_instance
/-- a matching -/
abbrev Mtc (es : List (Int × Int)) (xs : List Int) : Prop := MtU es xs xs.length
theorem MtU.zero (es : List (Int × Int)) (xs : List Int) : MtU es xs 0 := fun i h => absurd h (Nat.not_lt_zero i)
theorem MtU.succ {es : List (Int × Int)} {xs : List Int} {k : Nat} (h : MtU es xs k) (h1 : rsOk es.length xs k) (h2 : frOk es xs k) : MtU es xs (k + 1) := by
  intro i hi
  rcases Nat.lt_succ_iff_lt_or_eq.1 hi with g | g
  · exact h i g
  · rw [g]; exact ⟨h1, h2⟩
theorem MtU.no {es : List (Int × Int)} {xs : List Int} {k i : Nat} (hi : i < k) (h : ¬ (rsOk es.length xs i ∧ frOk es xs i)) : ¬ MtU es xs k := fun g => h (g i hi)
end Go.Proofs.Ytlfongfhbkefmaa.Ai
namespace Go.Proofs.Ytlfongfhbkefmaa.Ai
open Go
def ords144 : List (Nat × List (Nat × Bool)) := []
def cd144 : Cd := (.seq (.reg [⟨⟨some 4, Op.assign (Operand.const (Value.bool false)), none⟩, []⟩]) (.seq (.seq (.reg [⟨⟨some 5, Op.assign (Operand.const (Value.int IntKind.i64 0)), none⟩, []⟩]) (.block 0 (.loop (.seq (.seq (.reg [⟨⟨some 6, Op.move (Operand.tmp 5), none⟩, []⟩,
  ⟨⟨some 7, Op.move (Operand.tmp 0), none⟩, []⟩,
  ⟨⟨some 8, Op.call { callee := (Callee.builtin Builtin.len), args := #[(Operand.tmp 7)], argTypes := #[38] }, none⟩, []⟩,
  ⟨⟨some 9, Op.binOp BinOp.lss 3 (Operand.tmp 6) (Operand.tmp 8) 3, none⟩, []⟩]) (.cond (Operand.tmp 9) .skip (.exit 0))) (.seq (.block 1 (.seq (.reg [⟨⟨some 12, Op.move (Operand.tmp 0), none⟩, []⟩,
  ⟨⟨some 13, Op.move (Operand.tmp 5), none⟩, []⟩,
  ⟨⟨some 14, Op.indexAddr 38 (Operand.tmp 12) (Operand.tmp 13), none⟩, []⟩,
  ⟨⟨some 15, Op.load 3 (Operand.tmp 14), none⟩, []⟩,
  ⟨⟨some 16, Op.move (Operand.tmp 1), none⟩, []⟩,
  ⟨⟨some 17, Op.binOp BinOp.eql 3 (Operand.tmp 15) (Operand.tmp 16) 3, none⟩, []⟩]) (.cond (Operand.tmp 17) (.seq (.reg [⟨⟨some 4, Op.assign (Operand.const (Value.bool true)), none⟩, []⟩]) .ret) .skip))) (.reg [⟨⟨some 10, Op.move (Operand.tmp 5), none⟩, []⟩,
  ⟨⟨some 11, Op.binOp BinOp.add 3 (Operand.tmp 10) (Operand.const (Value.int IntKind.i64 1)) 3, none⟩, []⟩,
  ⟨⟨some 5, Op.assign (Operand.tmp 11), none⟩, []⟩])))))) (.seq (.reg [⟨⟨some 4, Op.assign (Operand.const (Value.bool false)), none⟩, []⟩]) .ret)))
theorem sl144 : slim Try.f144.ntmps ords144 (Try.f144.body.getD .skip) = some cd144 := by kernel_rfl
theorem in144 {args : List Value} {H : AH} {R : Value → AH → Prop} (hl : args.length = 2) (h : ∀ (Q : Exit → Sl → AH → Prop), (∀ e s H, endA Try.prog [ResultVar.tmp 4] R e s H → Q e s H) → wpC Try.prog cd144 Q (enterA args) H) : ACalls Try.prog 144 args H R :=
  ACalls.intro (by kernel_rfl) Try.func144 rfl (by kernel_rfl) sl144 hl (of_decide_eq_true (by kernel_rfl)) (by kernel_rfl) h
end Go.Proofs.Ytlfongfhbkefmaa.Ai
namespace Go.Proofs.Ytlfongfhbkefmaa.Ai
open Go Go.RowKit
set_option linter.unusedVariables false
set_option linter.unusedSimpArgs false
theorem l1Has_c (v : Value) (xs : List Int) (x : Int) (H : AH) (hr : Row 3 H v xs) (hlen : xs.length ≤ 1099511627776) : ACalls Try.prog 144 [v, .int .i64 x] H fun r H' => r = .bool (decide (x ∈ xs)) ∧ H = H' := by
  refine in144 rfl ?_
  intro Q hQ
  simp (maxSteps := 1000000) (disch := omega) only [cd144, S, S1, S2, S3, S4, S5, ST, eq_self, reduceIte, reduceCtorEq, Nat.reduceEqDiff, Nat.reduceAdd]
  refine LoopH.by (fun m s H' => ∃ i, m + i = xs.length ∧ s 0 = v ∧ s 1 = .int .i64 x ∧ s 5 = .int .i64 ((i : Nat) : Int) ∧ H = H' ∧ x ∉ xs.take i) xs.length ?_ ?_
  · exact ⟨0, by simp, rfl, rfl, rfl, rfl, by simp⟩
  · rintro m s H' ⟨i, hm, h0, h1, h5, rfl, hn⟩
    simp (maxSteps := 1000000) (disch := omega) only [h0, h1, h5, hr.len Try.underlying38, S, S1, S2, S3, S4, S5, ST, eq_self, reduceIte, reduceCtorEq, Nat.reduceEqDiff, Nat.reduceAdd]
    refine brD.intro (fun g => ?_) (fun g => ?_) <;> simp (maxSteps := 1000000) (disch := omega) only [h0, h1, h5, hr.ix Try.underlying38 cs3, hr.cell, Int.toNat_natCast, S, S1, S2, S3, S4, S5, ST, eq_self, reduceIte, reduceCtorEq, Nat.reduceEqDiff, Nat.reduceAdd]
    · have hi : i < xs.length := by omega
      have hg : xs.getD i 0 = xs[i] := by simp [hi]
      refine brD.intro (fun e => ?_) (fun e => ?_) <;> simp (maxSteps := 1000000) (disch := omega) only [h0, h1, h5, wrap64, S, S1, S2, S3, S4, S5, ST, eq_self, reduceIte, reduceCtorEq, Nat.reduceEqDiff, Nat.reduceAdd]
      · refine hQ _ _ _ ?_
        simp (maxSteps := 1000000) (disch := omega) only [S, S1, S2, S3, S4, S5, ST, eq_self, reduceIte, reduceCtorEq, Nat.reduceEqDiff, Nat.reduceAdd]
        rw [hg] at e
        have : x ∈ xs := e ▸ List.getElem_mem hi
        simp [this]
      · refine ⟨m - 1, by omega, i + 1, by omega, by simp, ?_⟩
        rw [List.take_add_one, List.getElem?_eq_getElem hi]
        rw [hg] at e
        simp only [Option.toList_some, List.mem_append, List.mem_singleton, not_or]
        exact ⟨hn, fun e' => e e'.symm⟩
    · refine hQ _ _ _ ?_
      simp (maxSteps := 1000000) (disch := omega) only [S, S1, S2, S3, S4, S5, ST, eq_self, reduceIte, reduceCtorEq, Nat.reduceEqDiff, Nat.reduceAdd]
      rw [List.take_of_length_le (by omega)] at hn
      simp [hn]
end Go.Proofs.Ytlfongfhbkefmaa.Ai
namespace Go.Proofs.Ytlfongfhbkefmaa.Ai
open Go Go.RowKit Go.Shelf
set_option linter.unusedVariables false
set_option linter.unusedSimpArgs false
attribute [local go_sem] Oper.semAt_some
/-- what has come when k rounds are over -/
def uptoF {α : Type} (f : Nat → α) (k : Nat) : List α := (List.range k).map f
theorem uptoF_succ {α : Type} (f : Nat → α) (k : Nat) : uptoF f (k + 1) = uptoF f k ++ [f k] := by simp [uptoF, List.range_succ]
theorem uptoF_length {α : Type} (f : Nat → α) (k : Nat) : (uptoF f k).length = k := by simp [uptoF]
theorem uptoF_all (zs : List Int) : uptoF (fun j => zs[j]?.getD 0) zs.length = zs := by
  apply List.ext_getElem
  · simp [uptoF]
  · intro i h1 h2
    simp [uptoF, h2]
theorem uptoF_take (zs : List Int) {k : Nat} (hk : k ≤ zs.length) : uptoF (fun j => zs[j]?.getD 0) k = zs.take k := by
  apply List.ext_getElem
  · simp [uptoF, hk]
  · intro i h1 h2
    have : i < zs.length := by simp [uptoF] at h1; omega
    simp [uptoF, this]
set_option maxRecDepth 100000 in
set_option maxHeartbeats 2000000 in
/-- the iterator of slices.Values, for every body of a loop that keeps what lay below n₀ -/
theorem values1_in (F : Fence) (n : Nat) (h7 : F.fn 245) (hro : F.round = none) (hn : 1 ≤ n) (l Bs kk n₀ b off len cap : Nat) (zs : List Int) (hreach : len * 8 ≤ 140737488351232) (hb : b < n₀) (J Jx : List Int → World → Prop)
    (hY : ∀ pre x W, J pre W → pre.length < len → YieldAt F (n - 1) Try.prog l #[.int .i64 x] W fun e W' =>
      (e = .returned (.bool true) ∧ J (pre ++ [x]) W' ∧ Below n₀ W W') ∨ (e = .returned (.bool false) ∧ Jx (pre ++ [x]) W'))
    (W : World) (hBs : W.cell? ⟨Bs, kk, none⟩ = some (.slice (some ⟨b, off, none⟩) len cap)) (hc : ∀ j, j < len → W.cell? ⟨b, off + j, none⟩ = some (.int .i64 (zs[j]?.getD 0))) (h0 : J [] W) :
    CallsIn F n Try.prog 245 #[.func (.yield l) #[] #[], .pointer (some ⟨Bs, kk, none⟩)] W fun e W' => (∃ v, e = .returned v) ∧
      ((∃ ys, ys = uptoF (fun j => zs[j]?.getD 0) len ∧ J ys W') ∨ (∃ pre, (∃ k, k ≤ len ∧ pre = uptoF (fun j => zs[j]?.getD 0) k) ∧ Jx pre W')) := by
  refine callsIn_of_wp Try.func245 rfl h7 ?_ hro
  simp only [Try.ntmps245, List.size_toArray, List.length_cons, List.length_nil, Nat.reduceAdd, Nat.reduceSub, Array.replicate_succ, Array.replicate_zero, List.push_toArray, List.append_toArray, List.nil_append, List.cons_append]
  gi_wp2
  gi_loopw [7] (fun i wr => ∃ k : Nat, k ≤ len ∧ i = .int .i64 k ∧ J (uptoF (fun j => zs[j]?.getD 0) k) wr ∧ Below n₀ W wr)
    (fun i _ => len - (intOf i).toNat)
  case atStart => exact ⟨0, Nat.zero_le _, rfl, h0, Below.refl _ _⟩
  case round =>
    obtain ⟨k, hk, rfl, hJs, hnx⟩ := hrel
    have hcx : k < len → wr.cell? ⟨b, off + k, none⟩ = some (.int .i64 (zs[k]?.getD 0)) := fun h => (hnx.cell (p := ⟨b, off + k, none⟩) hb).trans (hc k h)
    by_cases hlt : k < len
    · obtain ⟨fn, tmps, assign, body, hy, hR⟩ := hY _ (zs[k]?.getD 0) wr hJs (by rw [uptoF_length]; exact hlt)
      have hcx' := hcx hlt
      gi_wp2
      refine hR.mono ?_
      rintro e W3 (⟨rfl, hJ3, hk3⟩ | ⟨rfl, hJx3⟩)
      · gi_wp2
        go_roundw
        case rel => exact ⟨k + 1, by omega, by simp, by rw [uptoF_succ]; exact hJ3, hnx.trans hk3⟩
        case measure => simp [intOf]; omega
      · gi_wp2
        refine bodyPost_ret (results_none rfl _ _ _) rfl ?_
        exact ⟨⟨_, rfl⟩, .inr ⟨_, ⟨k + 1, by omega, (uptoF_succ _ _).symm⟩, hJx3⟩⟩
    · obtain rfl : k = len := by omega
      gi_wp2
      go_end0
      exact ⟨⟨_, rfl⟩, .inl ⟨_, rfl, hJs⟩⟩
/-- a slice value that holds ints, in a block below n₀; or it is nil -/
def SlInts (n₀ : Nat) (W : World) (sv : Value) (zs : List Int) : Prop :=
  (∃ a c, sv = .slice a 0 c ∧ zs = []) ∨ ∃ b off cap, sv = .slice (some ⟨b, off, none⟩) zs.length cap ∧ b < n₀ ∧ ∀ j, j < zs.length → W.cell? ⟨b, off + j, none⟩ = some (.int .i64 (zs[j]?.getD 0))
theorem SlInts.below {n₀ : Nat} {A B : World} (h : Below n₀ A B) {sv : Value} {zs : List Int} : SlInts n₀ A sv zs → SlInts n₀ B sv zs
  | .inl e => .inl e
  | .inr ⟨b, off, cap, e, hb, hc⟩ => .inr ⟨b, off, cap, e, hb, fun j hj => (h.cell (p := ⟨b, off + j, none⟩) hb).trans (hc j hj)⟩
set_option maxRecDepth 100000 in
set_option maxHeartbeats 1000000 in
theorem values1_nil_in (F : Fence) (n : Nat) (h7 : F.fn 245) (hro : F.round = none) (l Bs kk : Nat) (J : List Int → World → Prop) (W : World) (a0 : Option Addr) (c0 : Nat) (hBs : W.cell? ⟨Bs, kk, none⟩ = some (.slice a0 0 c0)) (h0 : J [] W) :
    CallsIn F n Try.prog 245 #[.func (.yield l) #[] #[], .pointer (some ⟨Bs, kk, none⟩)] W fun e W' => (∃ v, e = .returned v) ∧ J [] W' := by
  refine callsIn_of_wp Try.func245 rfl h7 ?_ hro
  simp only [Try.ntmps245, List.size_toArray, List.length_cons, List.length_nil, Nat.reduceAdd, Nat.reduceSub, Array.replicate_succ, Array.replicate_zero, List.push_toArray, List.append_toArray, List.nil_append, List.cons_append]
  gi_wp2
  gi_loopw [7] (fun i wr => i = .int .i64 0 ∧ J [] wr) (fun _ _ => 0)
  case atStart => exact ⟨rfl, h0⟩
  case round =>
    obtain ⟨rfl, hJs⟩ := hrel
    gi_wp2
    go_end0
    exact ⟨⟨_, rfl⟩, hJs⟩
theorem values_stops (F : Fence) (n : Nat) (h7 : F.fn 245) (hro : F.round = none) (hn : 1 ≤ n) (Bs kk n₀ : Nat) (sv : Value) (zs : List Int) (hreach : zs.length * 8 ≤ 140737488351232) (w : World) (hBs : Bs < w.heap.size) (hn₀ : n₀ ≤ w.heap.size)
    (hc : w.cell? ⟨Bs, kk, none⟩ = some sv) (hI : SlInts n₀ w sv zs) :
    SeqStopsK F n Try.prog 245 #[.pointer (some ⟨Bs, kk, none⟩)] (fun x : Int => #[Value.int .i64 x]) (Below n₀) (fun ys => ys = zs) (fun pre => pre <+: zs) zs.length w := fun l J Jx W hW _ _ hY h0 => by
  have hc' := (hW.cell (p := ⟨Bs, kk, none⟩) hBs).trans hc
  rcases hI.below (hW.mono hn₀) with ⟨a0, c0, rfl, rfl⟩ | ⟨b, off, cap, rfl, hb, hcs⟩
  · exact (values1_nil_in F n h7 hro l Bs kk J W a0 c0 hc' h0).mono fun e W' ⟨he, hj⟩ => ⟨he, .inl ⟨_, rfl, hj⟩⟩
  · refine (values1_in F n h7 hro hn l Bs kk n₀ b off zs.length cap zs hreach hb J Jx hY W hc' hcs h0).mono ?_
    rintro e W' ⟨he, ⟨ys, rfl, hj⟩ | ⟨pre, ⟨k, hk, rfl⟩, hj⟩⟩
    · exact ⟨he, .inl ⟨_, uptoF_all zs, hj⟩⟩
    · exact ⟨he, .inr ⟨_, by rw [uptoF_take zs hk]; exact List.take_prefix _ _, hj⟩⟩
theorem infoInt : (Try.prog.info? 3).map (fun i => (i.zero, i.size, i.bytes)) = some (some (.int .i64 0), 1, 8) := by kernel_rfl
set_option maxRecDepth 100000 in
set_option maxHeartbeats 2000000 in
/-- slices.AppendSeq(nil, seq) over it: a slice that owns just these ints, and nothing that lay before has turned -/
theorem appendSeq_in (F : Fence) (n : Nat) (h3 : F.fn 266) (h5 : F.fn 245) (hro : F.round = none) (hn : 3 ≤ n) (Bs kk : Nat) (sv : Value) (zs : List Int) (hlen : zs.length ≤ maxLen) (hbytes : zs.length * 8 ≤ 140737488351232) (w : World)
    (hBs : Bs < w.heap.size) (hcs : w.cell? ⟨Bs, kk, none⟩ = some sv) (hI : SlInts w.heap.size w sv zs) :
    CallsIn F n Try.prog 266 #[.slice none 0 0, .func (.func 245) #[] #[.pointer (some ⟨Bs, kk, none⟩)]] w fun e W' => ∃ v, e = .returned v ∧ W'.ownsRow w.heap.size 3 1 v zs.length (zs.map (Value.int .i64)) ∧ (v = .slice none 0 0 ↔ zs = []) ∧ Below w.heap.size w W' := by
  have h1 : 1 ≤ n := by omega
  obtain ⟨i0, hi, hz0, hz1, hz2⟩ := info_parts infoInt
  refine callsIn_of_wp_marks Try.func266 rfl h3 ?_ hro
  simp only [Try.ntmps266, List.size_toArray, List.length_cons, List.length_nil, Nat.reduceAdd, Nat.reduceSub, Array.replicate_succ, Array.replicate_zero, List.push_toArray, List.append_toArray, List.nil_append, List.cons_append]
  gi_wp2
  have bO := Boxed.new w 38 (.slice none 0 0)
  have hB0 : Below w.heap.size w (w.alloc (.cells #[.slice none 0 0] 38)) := (Below.refl _ w).alloc (Nat.le_refl _) _
  refine wpIn_rangeFunc_ownG hro h1 (gf := 245) (lb := #[.pointer (some ⟨Bs, kk, none⟩)]) rfl h5 (enters_of Try.func245 (by kernel_rfl) rfl)
    (values_stops F (n - 1) h5 hro (by omega) Bs kk w.heap.size sv zs hbytes (w.alloc (.cells #[.slice none 0 0] 38)) (by simp; omega) (by simp) ((hB0.cell (p := ⟨Bs, kk, none⟩) hBs).trans hcs) (hI.below hB0)) belowK_t (belowK_b (by simp)) (Below.refl _ _) (fun _ => rfl)
    (fun pre W => (∃ v, Boxed W w.heap.size 38 v ∧ W.ownsRow w.heap.size 3 1 v pre.length (pre.map (Value.int .i64)) ∧ (v = .slice none 0 0 ↔ pre = [])) ∧ Below w.heap.size w W)
    (fun _ _ _ => False)
    (OwnFrom.and (Own.from (holdsRow_own w.heap.size w.heap.size 38 3 1 (fun pre : List Int => pre.length) (fun pre => pre.map (Value.int .i64)) (fun pre v => v = .slice none 0 0 ↔ pre = [])) _) (ownFrom_below (Nat.le_refl _) (by simp)))
    (fun _ _ _ _ _ hs _ _ => hs)
    ⟨⟨_, bO, World.ownsRow_nil _ _ _ _, by simp⟩, hB0⟩
    (fun x => { tmps := #[.slice none 0 0, .func (.func 245) #[] #[.pointer (some ⟨Bs, kk, none⟩)], .pointer (some ⟨w.heap.size, 0, none⟩), undef, .slice none 0 0, .int .i64 x, .func (.func 245) #[] #[.pointer (some ⟨Bs, kk, none⟩)], .int .i64 x, undef, undef, undef, undef, undef], defers := [] }) ?assign ?body ?done ?stop
  case assign =>
    intro l x W K hK
    gi_wp2
    exact hK
  case body =>
    rintro l pre x W ⟨⟨v, hv, hrow, hnil⟩, hB⟩ hlt
    have hc := hv.cell
    gi_wp2_with (gi_at_builtin; refine wpListIn_append_own _ rfl _ _ 38 rfl w.heap.size 3 i0 (.int .i64 0) 1 8 Try.underlying38 hi hz0 hz1 hz2 rfl (by decide) _ _ _ rfl (hrow.alloc _) ⟨W.heap.size, 0, none⟩ 1 1 [.int .i64 x] rfl rfl (cell_one_new _ _ _) (by simp [Value.oneCell']) (by omega) (by omega) (by have := hB.size; simp; omega) ?_; intro v' w1 hown' hgrow _; obtain ⟨g', cap', rfl⟩ := ownsRow_succ hown'; obtain ⟨hv1, hv2, hr2, hk2, hb2⟩ := hv.appended (by decide) hrow hB.size (Nat.le_refl _) hown' hgrow; have hc1 := hv1.cell; have hf1 := hv1.frozen)
    exact ⟨hk2.from _, hb2, ⟨_, hv2, by simpa using hr2, by simp⟩, hB.trans hb2⟩
  case done =>
    rintro D ys W hD rfl ⟨⟨v, hv, hrow, hnil⟩, hB⟩ hK
    have hc := hv.cell
    gi_wp2
    refine ⟨by simp, .inl ⟨_, _, rfl, run_takeDeferred hK, ?_⟩⟩
    exact ⟨_, results_tmp rfl _ _ _, v, rfl, ownsRow_putObj hrow _ hK rfl, hnil, hB.trans (belowK_b (w := w) (Nat.le_refl _) W D _ _ (by simp at hD; omega) hK rfl rfl)⟩
  case stop =>
    rintro D c pre W _ _ h _
    exact h.elim
/-- .. the same as a call -/
theorem appendSeq_calls (Bs kk : Nat) (sv : Value) (zs : List Int) (hlen : zs.length ≤ 1099511627776) (w : World) (hBs : Bs < w.heap.size) (hcs : w.cell? ⟨Bs, kk, none⟩ = some sv) (hI : SlInts w.heap.size w sv zs) :
    Calls Try.prog 266 #[.slice none 0 0, .func (.func 245) #[] #[.pointer (some ⟨Bs, kk, none⟩)]] w fun e W' => ∃ v, e = .returned v ∧ W'.ownsRow w.heap.size 3 1 v zs.length (zs.map (Value.int .i64)) ∧ (v = .slice none 0 0 ↔ zs = []) ∧ Below w.heap.size w W' :=
  (callsIn_wide (n := 5)).1 (appendSeq_in Fence.wide 5 trivial trivial rfl (by omega) Bs kk sv zs (Nat.le_trans hlen (by decide)) (by omega) w hBs hcs hI)
end Go.Proofs.Ytlfongfhbkefmaa.Ai
namespace Go.Proofs.Ytlfongfhbkefmaa.Ai
open Go
def ords244 : List (Nat × List (Nat × Bool)) := []
def cd244 : Cd := (.seq (.reg [⟨⟨some 2, Op.assign (Operand.const (Value.slice none 0 0)), none⟩, []⟩]) (.seq (.reg [⟨⟨some 3, Op.move (Operand.tmp 0), none⟩, []⟩,
  ⟨⟨some 4, Op.call { callee := (Callee.value (Operand.func 266)), args := #[(Operand.const (Value.slice none 0 0)), (Operand.tmp 3)], argTypes := #[38, 168] }, none⟩, []⟩,
  ⟨⟨some 2, Op.assign (Operand.tmp 4), none⟩, []⟩]) .ret))
theorem sl244 : slim Try.f244.ntmps ords244 (Try.f244.body.getD .skip) = some cd244 := by kernel_rfl
theorem in244 {args : List Value} {H : AH} {R : Value → AH → Prop} (hl : args.length = 1) (h : ∀ (Q : Exit → Sl → AH → Prop), (∀ e s H, endA Try.prog [ResultVar.tmp 2] R e s H → Q e s H) → wpC Try.prog cd244 Q (enterA args) H) : ACalls Try.prog 244 args H R :=
  ACalls.intro (by kernel_rfl) Try.func244 rfl (by kernel_rfl) sl244 hl (of_decide_eq_true (by kernel_rfl)) (by kernel_rfl) h
def ords203 : List (Nat × List (Nat × Bool)) := []
def cd203 : Cd := (.seq (.reg [⟨⟨some 1, Op.box 38 (Operand.tmp 0), none⟩, []⟩,
  ⟨⟨some 2, Op.assign (Operand.const Value.nilFunc), none⟩, []⟩]) (.seq (.reg [⟨⟨some 3, Op.makeFunc (Fn.func 245) #[] #[(Operand.tmp 1)], none⟩, []⟩,
  ⟨⟨some 2, Op.assign (Operand.tmp 3), none⟩, []⟩]) .ret))
theorem sl203 : slim Try.f203.ntmps ords203 (Try.f203.body.getD .skip) = some cd203 := by kernel_rfl
theorem in203 {args : List Value} {H : AH} {R : Value → AH → Prop} (hl : args.length = 1) (h : ∀ (Q : Exit → Sl → AH → Prop), (∀ e s H, endA Try.prog [ResultVar.tmp 2] R e s H → Q e s H) → wpC Try.prog cd203 Q (enterA args) H) : ACalls Try.prog 203 args H R :=
  ACalls.intro (by kernel_rfl) Try.func203 rfl (by kernel_rfl) sl203 hl (of_decide_eq_true (by kernel_rfl)) (by kernel_rfl) h
def ords202 : List (Nat × List (Nat × Bool)) := []
def cd202 : Cd := (.seq (.reg [⟨⟨some 2, Op.assign (Operand.const (Value.slice none 0 0)), none⟩, []⟩]) (.seq (.reg [⟨⟨some 4, Op.move (Operand.tmp 0), none⟩, []⟩,
  ⟨⟨some 5, Op.call { callee := (Callee.value (Operand.func 244)), args := #[(Operand.tmp 4)], argTypes := #[168] }, none⟩, []⟩,
  ⟨⟨some 3, Op.assign (Operand.tmp 5), none⟩, []⟩]) (.seq (.reg [⟨⟨some 6, Op.move (Operand.tmp 3), none⟩, []⟩,
  ⟨⟨some 7, Op.call { callee := (Callee.value (Operand.func 92)), args := #[(Operand.tmp 6)], argTypes := #[38] }, none⟩, []⟩]) (.seq (.reg [⟨⟨some 8, Op.move (Operand.tmp 3), none⟩, []⟩,
  ⟨⟨some 2, Op.assign (Operand.tmp 8), none⟩, []⟩]) .ret))))
theorem sl202 : slim Try.f202.ntmps ords202 (Try.f202.body.getD .skip) = some cd202 := by kernel_rfl
theorem in202 {args : List Value} {H : AH} {R : Value → AH → Prop} (hl : args.length = 1) (h : ∀ (Q : Exit → Sl → AH → Prop), (∀ e s H, endA Try.prog [ResultVar.tmp 2] R e s H → Q e s H) → wpC Try.prog cd202 Q (enterA args) H) : ACalls Try.prog 202 args H R :=
  ACalls.intro (by kernel_rfl) Try.func202 rfl (by kernel_rfl) sl202 hl (of_decide_eq_true (by kernel_rfl)) (by kernel_rfl) h
end Go.Proofs.Ytlfongfhbkefmaa.Ai
namespace Go.Proofs.Ytlfongfhbkefmaa.Ai
open Go Go.RowKit
set_option linter.unusedVariables false
set_option linter.unusedSimpArgs false
theorem AppendSeq_c (o k : Nat) (v : Value) (xs : List Int) (H : AH) (ho : cellA H o k = some v) (hr : Row 3 H v xs) (hlen : xs.length ≤ 1099511627776) :
    ACalls Try.prog 266 [.slice none 0 0, .func (.func 245) #[] (List.toArray [.pointer (some ⟨o, k, none⟩)])] H fun r H' => Own 3 H H' r xs ∧ H <+: H' := by
  refine ⟨⟨_, Try.func266, rfl, by kernel_rfl⟩, ?_⟩
  intro μ w cargs hH hall
  -- what the arguments are in memory
  obtain ⟨c0, c1, e0⟩ : ∃ c0 c1, cargs = #[c0, c1] := by
    match hcs : cargs.toList, hall with
    | [c0, c1], _ => exact ⟨c0, c1, by rw [← Array.toArray_toList (xs := cargs), hcs]⟩
  subst e0
  obtain ⟨h0, h1, _⟩ := hall
  obtain ⟨_, _, e0⟩ := h0
  subst e0
  obtain ⟨es0, ds, e1, hes0, hds⟩ := h1
  have ees : es0 = #[] := by
    match hcs : es0.toList, hes0 with
    | [], _ => rw [← Array.toArray_toList (xs := es0), hcs]
  subst ees
  subst e1
  obtain ⟨d, ed⟩ : ∃ d, ds = #[d] := by
    match hcs : ds.toList, hds with
    | [d], _ => exact ⟨d, by rw [← Array.toArray_toList (xs := ds), hcs]⟩
  subst ed
  obtain ⟨⟨_, L, hL, e2⟩, _⟩ := hds
  subst e2
  -- the box and what it holds
  unfold cellA at ho
  split at ho
  case h_2 => cases ho
  rename_i vs t ro hobj
  obtain ⟨f1, f2, f3, f4, f5, f6⟩ := hH.cells_ o vs t ro L hobj hL
  obtain ⟨cv, g1, g2⟩ := f5 k v ho
  have hI : SlInts w.heap.size w cv xs := by
    rcases hr with ⟨rfl, rfl⟩ | ⟨o', k', us, ro', rfl, hu, hk, he⟩
    · obtain ⟨_, _, e⟩ := g2
      exact .inl ⟨_, _, e, rfl⟩
    · obtain ⟨_, _, a, m, e, hm, hor⟩ := g2
      by_cases hz : xs.length = 0
      · have : xs = [] := List.eq_nil_of_length_eq_zero hz
        subst this
        exact .inl ⟨_, _, e, rfl⟩
      · rcases hor with hor | ⟨L', hL', ea, hx⟩
        · omega
        · subst ea
          obtain ⟨q1, q2, q3, q4, q5, q6⟩ := hH.cells_ o' us _ ro' L' hu hL'
          refine .inr ⟨L'.blk, L'.base + k', m, e, q1, ?_⟩
          intro j hj
          have hat : us[k' + j]? = some (.int .i64 (xs.getD j 0)) := by
            have := congrArg (·[j]?) he
            simp only [List.getElem?_take, List.getElem?_drop, if_pos hj] at this
            rw [this, ints_at xs hj]
          obtain ⟨cv2, p1, p2⟩ := q5 _ _ hat
          have : cv2 = .int .i64 (xs.getD j 0) := p2
          rw [Nat.add_assoc, p1, this, List.getD_eq_getElem?_getD]
  refine (appendSeq_calls L.blk (L.base + k) cv xs hlen w f1 g1 hI).mono ?_
  rintro e w' ⟨v', rfl, hrow, hnil, hb⟩
  rcases hrow with ⟨_, ⟨hv, hz⟩ | ⟨g, cap, cur, hv, hg, hcell, hn, hcap, hsz, hcur⟩⟩
  · have : xs = [] := List.eq_nil_of_length_eq_zero hz
    subst this
    exact ⟨μ, .slice none 0 0, H, v', rfl, by rw [hv]; exact ⟨rfl, rfl, rfl⟩, hH.below hb, Evo.below' hH hb, .inl ⟨rfl, rfl⟩, List.prefix_refl _⟩
  · have hc1 : Try.prog.cellsOf 3 = 1 := cs3
    have hcs : ∀ (i : Nat) (x : Value), (ints xs)[i]? = some x → ∃ cv, cur[i]? = some cv ∧ CRel μ x cv := by
      intro i x hx
      have hi : i < xs.length := by have := (List.getElem?_eq_some_iff.1 hx).1; rwa [ints_len] at this
      have := congrArg (·[i]?) hcur
      simp only [Nat.mul_one, List.getElem?_take, if_pos hi, Array.getElem?_toList] at this
      have e : (xs.map (Value.int .i64))[i]? = (ints xs)[i]? := rfl
      rw [e, hx] at this
      refine ⟨x, this, ?_⟩
      rw [ints_at xs hi] at hx
      cases hx
      rfl
    have ad := hH.adopt hb (vs := ints xs) (ext := cap) hg hcell (by rw [hc1]; decide) (by rw [ints_len]; exact hn) (by omega) hcs
    refine ⟨_, .slice (some ⟨H.length, 0, none⟩) xs.length xs.length, _, v', rfl, ?_, ad.1, ad.2, .inr ⟨H.length, rfl, Nat.le_refl _, at_new ..⟩, List.prefix_append _ _⟩
    rw [hv]
    exact ⟨rfl, rfl, _, cap, rfl, hn, .inr ⟨_, Mu.put_same _ _ _, rfl, by rw [hc1]; simp⟩⟩
theorem Collect_c (o k : Nat) (v : Value) (xs : List Int) (H : AH) (ho : cellA H o k = some v) (hr : Row 3 H v xs) (hlen : xs.length ≤ 1099511627776) :
    ACalls Try.prog 244 [.func (.func 245) #[] (List.toArray [.pointer (some ⟨o, k, none⟩)])] H fun r H' => Own 3 H H' r xs ∧ H <+: H' := by
  refine in244 rfl ?_
  intro Q hQ
  simp (maxSteps := 1000000) (disch := omega) only [cd244, S, S1, S2, S3, S4, S5, ST, eq_self, reduceIte, reduceCtorEq, Nat.reduceEqDiff, Nat.reduceAdd]
  refine CallH.by (AppendSeq_c o k v xs H ho hr hlen) ?_
  rintro r H1 ⟨hown, hp⟩
  simp (maxSteps := 1000000) (disch := omega) only [hown.row.tup, S, S1, S2, S3, S4, S5, ST, eq_self, reduceIte, reduceCtorEq, Nat.reduceEqDiff, Nat.reduceAdd]
  refine hQ _ _ _ ?_
  simp (maxSteps := 1000000) (disch := omega) only [hown.row.tup, S, S1, S2, S3, S4, S5, ST, eq_self, reduceIte, reduceCtorEq, Nat.reduceEqDiff, Nat.reduceAdd]
  exact ⟨hown, hp⟩
theorem Values_c (v : Value) (xs : List Int) (H : AH) (hr : Row 3 H v xs) :
    ACalls Try.prog 203 [v] H fun r H' => r = .func (.func 245) #[] (List.toArray [.pointer (some ⟨H.length, 0, none⟩)]) ∧ H' = H ++ [.cells [v] 38 false] := by
  refine in203 rfl ?_
  intro Q hQ
  obtain ⟨p, e⟩ := hr.shape
  have hb : boxA Try.prog 38 v H = some (.pointer (some ⟨H.length, 0, none⟩), H ++ [.cells [v] 38 false]) := by
    subst e
    simp only [boxA, cs38]
    rfl
  have hm : ∀ p : Addr, makeFuncA (.func 245) [] [.pointer (some p)] = some (.func (.func 245) #[] (List.toArray [.pointer (some p)])) := fun _ => rfl
  have ht : ∀ f fs cs, isTup (.func f fs cs) = false := fun _ _ _ => rfl
  simp (maxSteps := 1000000) (disch := omega) only [cd203, hb, hm, ht, S, S1, S2, S3, S4, S5, ST, eq_self, reduceIte, reduceCtorEq, Nat.reduceEqDiff, Nat.reduceAdd]
  refine hQ _ _ _ ?_
  simp (maxSteps := 1000000) (disch := omega) only [ht, S, S1, S2, S3, S4, S5, ST, eq_self, reduceIte, reduceCtorEq, Nat.reduceEqDiff, Nat.reduceAdd]
/-- the sorted list of what a slice shows -/
theorem SortedV_c (o : Nat) (v : Value) (xs : List Int) (H : AH) (ho : cellA H o 0 = some v) (hr : Row 3 H v xs) (hlen : xs.length ≤ 12) :
    ACalls Try.prog 202 [.func (.func 245) #[] (List.toArray [.pointer (some ⟨o, 0, none⟩)])] H fun r H' => ∃ ys, Own 3 H H' r ys ∧ ys.Perm xs ∧ Asc ys ∧ H <+: H' := by
  refine in202 rfl ?_
  intro Q hQ
  simp (maxSteps := 1000000) (disch := omega) only [cd202, S, S1, S2, S3, S4, S5, ST, eq_self, reduceIte, reduceCtorEq, Nat.reduceEqDiff, Nat.reduceAdd]
  refine CallH.by (Collect_c o 0 v xs H ho hr (by omega)) ?_
  rintro u H1 ⟨hown, hp⟩
  simp (maxSteps := 1000000) (disch := omega) only [S, S1, S2, S3, S4, S5, ST, eq_self, reduceIte, reduceCtorEq, Nat.reduceEqDiff, Nat.reduceAdd]
  refine CallH.by (Sort_c u xs H H1 hown hlen) ?_
  rintro _ H2 ⟨ys, hown2, hperm, hasc, hel⟩
  simp (maxSteps := 1000000) (disch := omega) only [hown2.row.tup, S, S1, S2, S3, S4, S5, ST, eq_self, reduceIte, reduceCtorEq, Nat.reduceEqDiff, Nat.reduceAdd]
  refine hQ _ _ _ ?_
  simp (maxSteps := 1000000) (disch := omega) only [hown2.row.tup, S, S1, S2, S3, S4, S5, ST, eq_self, reduceIte, reduceCtorEq, Nat.reduceEqDiff, Nat.reduceAdd]
  exact ⟨ys, hown2, hperm, hasc, hown.else_pre hp hel⟩
end Go.Proofs.Ytlfongfhbkefmaa.Ai
namespace Go.Proofs.Ytlfongfhbkefmaa.Ai
open Go
def ords201 : List (Nat × List (Nat × Bool)) := []
def cd201 : Cd := (.seq (.reg [⟨⟨some 4, Op.assign (Operand.const (Value.bool false)), none⟩, []⟩]) (.seq (.seq (.reg [⟨⟨some 7, Op.move (Operand.tmp 0), none⟩, []⟩,
  ⟨⟨some 8, Op.call { callee := (Callee.builtin Builtin.len), args := #[(Operand.tmp 7)], argTypes := #[38] }, none⟩, []⟩,
  ⟨⟨some 9, Op.move (Operand.const (Value.int IntKind.i64 0)), none⟩, []⟩]) (.block 0 (.loop (.seq (.reg [⟨⟨some 10, Op.binOp BinOp.lss 3 (Operand.tmp 9) (Operand.tmp 8) 3, none⟩, []⟩]) (.seq (.cond (Operand.tmp 10) .skip (.exit 0)) (.seq (.block 1 (.seq (.reg [⟨⟨some 11, Op.move (Operand.tmp 9), none⟩, []⟩,
  ⟨⟨some 12, Op.indexAddr 38 (Operand.tmp 7) (Operand.tmp 9), none⟩, []⟩,
  ⟨⟨some 13, Op.load 3 (Operand.tmp 12), none⟩, []⟩,
  ⟨⟨some 5, Op.assign (Operand.tmp 11), none⟩, []⟩,
  ⟨⟨some 6, Op.assign (Operand.tmp 13), none⟩, []⟩]) (.seq (.reg [⟨⟨some 14, Op.move (Operand.tmp 6), none⟩, []⟩,
  ⟨⟨some 15, Op.move (Operand.tmp 1), none⟩, []⟩,
  ⟨⟨some 16, Op.binOp BinOp.sub 3 (Operand.tmp 15) (Operand.const (Value.int IntKind.i64 1)) 3, none⟩, []⟩,
  ⟨⟨some 17, Op.call { callee := (Callee.value (Operand.func 72)), args := #[(Operand.tmp 14), (Operand.const (Value.int IntKind.i64 0)), (Operand.tmp 16)], argTypes := #[3, 3, 3] }, none⟩, []⟩,
  ⟨⟨some 18, Op.unOp UnOp.not 4 (Operand.tmp 17), none⟩, []⟩,
  ⟨⟨some 19, Op.move (Operand.tmp 18), none⟩, []⟩,
  ⟨⟨some 20, Op.move (Operand.tmp 5), some (19, false)⟩, []⟩,
  ⟨⟨some 21, Op.binOp BinOp.gtr 3 (Operand.tmp 20) (Operand.const (Value.int IntKind.i64 0)) 3, some (19, false)⟩, []⟩,
  ⟨⟨some 22, Op.move (Operand.tmp 21), some (19, false)⟩, []⟩,
  ⟨⟨some 23, Op.move (Operand.tmp 6), some (22, true)⟩, []⟩,
  ⟨⟨some 24, Op.move (Operand.tmp 0), some (22, true)⟩, []⟩,
  ⟨⟨some 25, Op.move (Operand.tmp 5), some (22, true)⟩, []⟩,
  ⟨⟨some 26, Op.binOp BinOp.sub 3 (Operand.tmp 25) (Operand.const (Value.int IntKind.i64 1)) 3, some (22, true)⟩, []⟩,
  ⟨⟨some 27, Op.indexAddr 38 (Operand.tmp 24) (Operand.tmp 26), some (22, true)⟩, []⟩,
  ⟨⟨some 28, Op.load 3 (Operand.tmp 27), some (22, true)⟩, []⟩,
  ⟨⟨some 29, Op.binOp BinOp.leq 3 (Operand.tmp 23) (Operand.tmp 28) 3, some (22, true)⟩, []⟩,
  ⟨⟨some 30, Op.pick (Operand.tmp 22) (Operand.tmp 29) (Operand.const (Value.bool false)), some (19, false)⟩, []⟩,
  ⟨⟨some 31, Op.pick (Operand.tmp 19) (Operand.const (Value.bool true)) (Operand.tmp 30), none⟩, []⟩]) (.cond (Operand.tmp 31) (.seq (.reg [⟨⟨some 4, Op.assign (Operand.const (Value.bool false)), none⟩, []⟩]) .ret) .skip)))) (.reg [⟨⟨some 32, Op.binOp BinOp.add 3 (Operand.tmp 9) (Operand.const (Value.int IntKind.i64 1)) 3, none⟩, []⟩,
  ⟨⟨some 9, Op.move (Operand.tmp 32), none⟩, []⟩]))))))) (.seq (.reg [⟨⟨some 4, Op.assign (Operand.const (Value.bool true)), none⟩, []⟩]) .ret)))
theorem sl201 : slim Try.f201.ntmps ords201 (Try.f201.body.getD .skip) = some cd201 := by kernel_rfl
theorem in201 {args : List Value} {H : AH} {R : Value → AH → Prop} (hl : args.length = 2) (h : ∀ (Q : Exit → Sl → AH → Prop), (∀ e s H, endA Try.prog [ResultVar.tmp 4] R e s H → Q e s H) → wpC Try.prog cd201 Q (enterA args) H) : ACalls Try.prog 201 args H R :=
  ACalls.intro (by kernel_rfl) Try.func201 rfl (by kernel_rfl) sl201 hl (of_decide_eq_true (by kernel_rfl)) (by kernel_rfl) h
def ords138 : List (Nat × List (Nat × Bool)) := []
def cd138 : Cd := (.seq (.reg [⟨⟨some 4, Op.assign (Operand.const (Value.bool false)), none⟩, []⟩]) (.seq (.reg [⟨⟨some 5, Op.move (Operand.tmp 0), none⟩, []⟩,
  ⟨⟨some 6, Op.call { callee := (Callee.builtin Builtin.len), args := #[(Operand.tmp 5)], argTypes := #[38] }, none⟩, []⟩,
  ⟨⟨some 7, Op.move (Operand.tmp 1), none⟩, []⟩,
  ⟨⟨some 8, Op.binOp BinOp.eql 3 (Operand.tmp 6) (Operand.tmp 7) 3, none⟩, []⟩,
  ⟨⟨some 9, Op.move (Operand.tmp 8), none⟩, []⟩,
  ⟨⟨some 10, Op.move (Operand.tmp 0), some (9, true)⟩, []⟩,
  ⟨⟨some 11, Op.call { callee := (Callee.value (Operand.func 203)), args := #[(Operand.tmp 10)], argTypes := #[38] }, some (9, true)⟩, []⟩,
  ⟨⟨some 12, Op.call { callee := (Callee.value (Operand.func 202)), args := #[(Operand.tmp 11)], argTypes := #[168] }, some (9, true)⟩, []⟩,
  ⟨⟨some 13, Op.move (Operand.tmp 1), some (9, true)⟩, []⟩,
  ⟨⟨some 14, Op.call { callee := (Callee.value (Operand.func 201)), args := #[(Operand.tmp 12), (Operand.tmp 13)], argTypes := #[38, 3] }, some (9, true)⟩, []⟩,
  ⟨⟨some 15, Op.pick (Operand.tmp 9) (Operand.tmp 14) (Operand.const (Value.bool false)), none⟩, []⟩,
  ⟨⟨some 4, Op.assign (Operand.tmp 15), none⟩, []⟩]) .ret))
theorem sl138 : slim Try.f138.ntmps ords138 (Try.f138.body.getD .skip) = some cd138 := by kernel_rfl
theorem in138 {args : List Value} {H : AH} {R : Value → AH → Prop} (hl : args.length = 2) (h : ∀ (Q : Exit → Sl → AH → Prop), (∀ e s H, endA Try.prog [ResultVar.tmp 4] R e s H → Q e s H) → wpC Try.prog cd138 Q (enterA args) H) : ACalls Try.prog 138 args H R :=
  ACalls.intro (by kernel_rfl) Try.func138 rfl (by kernel_rfl) sl138 hl (of_decide_eq_true (by kernel_rfl)) (by kernel_rfl) h
def ords56 : List (Nat × List (Nat × Bool)) := []
def cd56 : Cd := (.seq (.reg [⟨⟨some 2, Op.assign (Operand.const (Value.bool false)), none⟩, []⟩]) (.seq (.reg [⟨⟨some 3, Op.move (Operand.tmp 0), none⟩, []⟩,
  ⟨⟨some 4, Op.call { callee := (Callee.builtin Builtin.len), args := #[(Operand.tmp 3)], argTypes := #[38] }, none⟩, []⟩,
  ⟨⟨some 5, Op.binOp BinOp.leq 3 (Operand.tmp 4) (Operand.const (Value.int IntKind.i64 8)) 3, none⟩, []⟩,
  ⟨⟨some 6, Op.move (Operand.tmp 5), none⟩, []⟩,
  ⟨⟨some 7, Op.move (Operand.tmp 0), some (6, true)⟩, []⟩,
  ⟨⟨some 8, Op.move (Operand.tmp 0), some (6, true)⟩, []⟩,
  ⟨⟨some 9, Op.call { callee := (Callee.builtin Builtin.len), args := #[(Operand.tmp 8)], argTypes := #[38] }, some (6, true)⟩, []⟩,
  ⟨⟨some 10, Op.call { callee := (Callee.value (Operand.func 138)), args := #[(Operand.tmp 7), (Operand.tmp 9)], argTypes := #[38, 3] }, some (6, true)⟩, []⟩,
  ⟨⟨some 11, Op.pick (Operand.tmp 6) (Operand.tmp 10) (Operand.const (Value.bool false)), none⟩, []⟩,
  ⟨⟨some 2, Op.assign (Operand.tmp 11), none⟩, []⟩]) .ret))
theorem sl56 : slim Try.f56.ntmps ords56 (Try.f56.body.getD .skip) = some cd56 := by kernel_rfl
theorem in56 {args : List Value} {H : AH} {R : Value → AH → Prop} (hl : args.length = 1) (h : ∀ (Q : Exit → Sl → AH → Prop), (∀ e s H, endA Try.prog [ResultVar.tmp 2] R e s H → Q e s H) → wpC Try.prog cd56 Q (enterA args) H) : ACalls Try.prog 56 args H R :=
  ACalls.intro (by kernel_rfl) Try.func56 rfl (by kernel_rfl) sl56 hl (of_decide_eq_true (by kernel_rfl)) (by kernel_rfl) h
def ords127 : List (Nat × List (Nat × Bool)) := []
def cd127 : Cd := (.seq (.reg [⟨⟨some 2, Op.assign (Operand.const (Value.bool false)), none⟩, []⟩]) (.seq (.seq (.reg [⟨⟨some 3, Op.assign (Operand.const (Value.int IntKind.i64 0)), none⟩, []⟩]) (.block 0 (.loop (.seq (.seq (.reg [⟨⟨some 4, Op.move (Operand.tmp 3), none⟩, []⟩,
  ⟨⟨some 5, Op.move (Operand.tmp 0), none⟩, []⟩,
  ⟨⟨some 6, Op.call { callee := (Callee.builtin Builtin.len), args := #[(Operand.tmp 5)], argTypes := #[38] }, none⟩, []⟩,
  ⟨⟨some 7, Op.binOp BinOp.lss 3 (Operand.tmp 4) (Operand.tmp 6) 3, none⟩, []⟩,
  ⟨⟨some 8, Op.move (Operand.tmp 7), none⟩, []⟩,
  ⟨⟨some 9, Op.move (Operand.tmp 0), some (8, true)⟩, []⟩,
  ⟨⟨some 10, Op.call { callee := (Callee.builtin Builtin.len), args := #[(Operand.tmp 9)], argTypes := #[38] }, some (8, true)⟩, []⟩,
  ⟨⟨some 11, Op.binOp BinOp.leq 3 (Operand.tmp 10) (Operand.const (Value.int IntKind.i64 8)) 3, some (8, true)⟩, []⟩,
  ⟨⟨some 12, Op.pick (Operand.tmp 8) (Operand.tmp 11) (Operand.const (Value.bool false)), none⟩, []⟩]) (.cond (Operand.tmp 12) .skip (.exit 0))) (.seq (.block 1 (.seq (.reg [⟨⟨some 15, Op.move (Operand.tmp 0), none⟩, []⟩,
  ⟨⟨some 16, Op.move (Operand.tmp 3), none⟩, []⟩,
  ⟨⟨some 17, Op.call { callee := (Callee.value (Operand.func 144)), args := #[(Operand.tmp 15), (Operand.tmp 16)], argTypes := #[38, 3] }, none⟩, []⟩,
  ⟨⟨some 18, Op.unOp UnOp.not 4 (Operand.tmp 17), none⟩, []⟩]) (.cond (Operand.tmp 18) (.seq (.reg [⟨⟨some 2, Op.assign (Operand.const (Value.bool false)), none⟩, []⟩]) .ret) .skip))) (.reg [⟨⟨some 13, Op.move (Operand.tmp 3), none⟩, []⟩,
  ⟨⟨some 14, Op.binOp BinOp.add 3 (Operand.tmp 13) (Operand.const (Value.int IntKind.i64 1)) 3, none⟩, []⟩,
  ⟨⟨some 3, Op.assign (Operand.tmp 14), none⟩, []⟩])))))) (.seq (.reg [⟨⟨some 19, Op.move (Operand.tmp 0), none⟩, []⟩,
  ⟨⟨some 20, Op.call { callee := (Callee.builtin Builtin.len), args := #[(Operand.tmp 19)], argTypes := #[38] }, none⟩, []⟩,
  ⟨⟨some 21, Op.binOp BinOp.leq 3 (Operand.tmp 20) (Operand.const (Value.int IntKind.i64 8)) 3, none⟩, []⟩,
  ⟨⟨some 2, Op.assign (Operand.tmp 21), none⟩, []⟩]) .ret)))
theorem sl127 : slim Try.f127.ntmps ords127 (Try.f127.body.getD .skip) = some cd127 := by kernel_rfl
theorem in127 {args : List Value} {H : AH} {R : Value → AH → Prop} (hl : args.length = 1) (h : ∀ (Q : Exit → Sl → AH → Prop), (∀ e s H, endA Try.prog [ResultVar.tmp 2] R e s H → Q e s H) → wpC Try.prog cd127 Q (enterA args) H) : ACalls Try.prog 127 args H R :=
  ACalls.intro (by kernel_rfl) Try.func127 rfl (by kernel_rfl) sl127 hl (of_decide_eq_true (by kernel_rfl)) (by kernel_rfl) h
def ords57 : List (Nat × List (Nat × Bool)) := []
def cd57 : Cd := (.seq (.reg [⟨⟨some 2, Op.assign (Operand.const (Value.bool false)), none⟩, []⟩]) (.seq (.reg [⟨⟨some 3, Op.move (Operand.tmp 0), none⟩, []⟩,
  ⟨⟨some 4, Op.call { callee := (Callee.value (Operand.func 127)), args := #[(Operand.tmp 3)], argTypes := #[38] }, none⟩, []⟩,
  ⟨⟨some 2, Op.assign (Operand.tmp 4), none⟩, []⟩]) .ret))
theorem sl57 : slim Try.f57.ntmps ords57 (Try.f57.body.getD .skip) = some cd57 := by kernel_rfl
theorem in57 {args : List Value} {H : AH} {R : Value → AH → Prop} (hl : args.length = 1) (h : ∀ (Q : Exit → Sl → AH → Prop), (∀ e s H, endA Try.prog [ResultVar.tmp 2] R e s H → Q e s H) → wpC Try.prog cd57 Q (enterA args) H) : ACalls Try.prog 57 args H R :=
  ACalls.intro (by kernel_rfl) Try.func57 rfl (by kernel_rfl) sl57 hl (of_decide_eq_true (by kernel_rfl)) (by kernel_rfl) h
end Go.Proofs.Ytlfongfhbkefmaa.Ai
namespace Go.Proofs.Ytlfongfhbkefmaa.Ai
open Go Go.RowKit
set_option linter.unusedVariables false
set_option linter.unusedSimpArgs false
instance (n : Int) (ys : List Int) : Decidable (Rsg n ys) := by unfold Rsg; infer_instance
theorem isRising_c (v : Value) (ys : List Int) (n : Int) (H : AH) (hn : 0 ≤ n ∧ n ≤ 1099511627776) (hr : Row 3 H v ys) (hlen : ys.length ≤ 1099511627776) :
    ACalls Try.prog 201 [v, .int .i64 n] H fun r H' => r = .bool (decide (Rsg n ys)) ∧ H = H' := by
  refine in201 rfl ?_
  intro Q hQ
  simp (maxSteps := 1000000) (disch := omega) only [cd201, hr.len Try.underlying38, S, S1, S2, S3, S4, S5, ST, eq_self, reduceIte, reduceCtorEq, Nat.reduceEqDiff, Nat.reduceAdd]
  refine LoopH.by (fun m s H' => ∃ i, m + i = ys.length ∧ s 0 = v ∧ s 1 = .int .i64 n ∧ s 7 = v ∧ s 8 = .int .i64 (ys.length : Int) ∧ s 9 = .int .i64 ((i : Nat) : Int) ∧ H = H' ∧ ∀ j, j < i → (0 ≤ ys.getD j 0 ∧ ys.getD j 0 ≤ n - 1) ∧ (0 < j → ys.getD (j - 1) 0 < ys.getD j 0)) ys.length ?_ ?_
  · exact ⟨0, by simp, rfl, rfl, rfl, rfl, rfl, rfl, by omega⟩
  · rintro m s H' ⟨i, hm, h0, h1, h7, h8, h9, rfl, hj⟩
    simp (maxSteps := 1000000) (disch := omega) only [h0, h1, h7, h8, h9, S, S1, S2, S3, S4, S5, ST, eq_self, reduceIte, reduceCtorEq, Nat.reduceEqDiff, Nat.reduceAdd]
    refine brD.intro (fun g => ?_) (fun g => ?_)
    · have hi : i < ys.length := by omega
      have hp : ((i : Int) - 1).toNat = i - 1 := by omega
      have bad : ¬ ((0 ≤ ys.getD i 0 ∧ ys.getD i 0 ≤ n - 1) ∧ (0 < i → ys.getD (i - 1) 0 < ys.getD i 0)) → decide (Rsg n ys) = false := fun h => decide_eq_false fun hh => h (hh i hi)
      have nxt : ((0 ≤ ys.getD i 0 ∧ ys.getD i 0 ≤ n - 1) ∧ (0 < i → ys.getD (i - 1) 0 < ys.getD i 0)) → ∀ j, j < i + 1 → (0 ≤ ys.getD j 0 ∧ ys.getD j 0 ≤ n - 1) ∧ (0 < j → ys.getD (j - 1) 0 < ys.getD j 0) := by
        intro h j hjj
        by_cases e : j = i
        · subst e; exact h
        · exact hj j (by omega)
      simp (maxSteps := 1000000) (disch := omega) only [h0, h1, h7, h8, h9, hr.ix Try.underlying38 cs3, hr.cell, Int.toNat_natCast, wrap64, S, S1, S2, S3, S4, S5, ST, eq_self, reduceIte, reduceCtorEq, Nat.reduceEqDiff, Nat.reduceAdd]
      refine CallH.by (between_c ..) ?_
      rintro _ _ ⟨rfl, rfl⟩
      simp (maxSteps := 1000000) (disch := omega) only [S, S1, S2, S3, S4, S5, ST, eq_self, reduceIte, reduceCtorEq, Nat.reduceEqDiff, Nat.reduceAdd]
      refine brD.intro (fun e => ?_) (fun e => ?_) <;> simp (maxSteps := 1000000) (disch := omega) only [e, h0, h1, h7, h8, h9, wrap64, S, S1, S2, S3, S4, S5, ST, eq_self, reduceIte, reduceCtorEq, Nat.reduceEqDiff, Nat.reduceAdd]
      · refine brD.intro (fun q => ?_) (fun q => ?_) <;> simp (maxSteps := 1000000) (disch := omega) only [e, q, h0, h1, h7, h8, h9, hr.ix Try.underlying38 cs3, hr.cell, hp, wrap64, S, S1, S2, S3, S4, S5, ST, eq_self, reduceIte, reduceCtorEq, Nat.reduceEqDiff, Nat.reduceAdd]
        · refine brD.intro (fun z => ?_) (fun z => ?_) <;> simp (maxSteps := 1000000) (disch := omega) only [e, q, z, h0, h1, h7, h8, h9, wrap64, S, S1, S2, S3, S4, S5, ST, eq_self, reduceIte, reduceCtorEq, Nat.reduceEqDiff, Nat.reduceAdd]
          · refine hQ _ _ _ ?_
            simp (maxSteps := 1000000) (disch := omega) only [S, S1, S2, S3, S4, S5, ST, eq_self, reduceIte, reduceCtorEq, Nat.reduceEqDiff, Nat.reduceAdd]
            rw [bad (fun h => by have := h.2 (by omega); omega)]
          · have fx := nxt ⟨e, fun _ => by omega⟩
            refine ⟨m - 1, by omega, i + 1, ?_⟩
            (repeat' apply And.intro) <;> first | exact fx | (simp only [Value.int.injEq, true_and]; omega) | omega | rfl | assumption | (simp; done) | (simp; omega)
        · have fx := nxt ⟨e, fun _ => by omega⟩
          refine ⟨m - 1, by omega, i + 1, ?_⟩
          (repeat' apply And.intro) <;> first | exact fx | (simp only [Value.int.injEq, true_and]; omega) | omega | rfl | assumption | (simp; done) | (simp; omega)
      · refine hQ _ _ _ ?_
        simp (maxSteps := 1000000) (disch := omega) only [S, S1, S2, S3, S4, S5, ST, eq_self, reduceIte, reduceCtorEq, Nat.reduceEqDiff, Nat.reduceAdd]
        rw [bad (fun h => e h.1)]
    · simp (maxSteps := 1000000) (disch := omega) only [h0, h1, h7, h8, h9, S, S1, S2, S3, S4, S5, ST, eq_self, reduceIte, reduceCtorEq, Nat.reduceEqDiff, Nat.reduceAdd]
      refine hQ _ _ _ ?_
      simp (maxSteps := 1000000) (disch := omega) only [S, S1, S2, S3, S4, S5, ST, eq_self, reduceIte, reduceCtorEq, Nat.reduceEqDiff, Nat.reduceAdd]
      have : Rsg n ys := fun j hjj => hj j (by omega)
      simp [this]
theorem isOrder_c (v : Value) (xs : List Int) (H : AH) (hr : Row 3 H v xs) (hlen : xs.length ≤ 12) :
    ACalls Try.prog 138 [v, .int .i64 (xs.length : Int)] H fun r H' => r = .bool (decide (∀ x, x < xs.length → (x : Int) ∈ xs)) ∧ H <+: H' := by
  refine in138 rfl ?_
  intro Q hQ
  simp (maxSteps := 1000000) (disch := omega) only [cd138, hr.len Try.underlying38, S, S1, S2, S3, S4, S5, ST, eq_self, reduceIte, reduceCtorEq, Nat.reduceEqDiff, Nat.reduceAdd]
  refine CallH.by (Values_c v xs H hr) ?_
  rintro _ _ ⟨rfl, rfl⟩
  have hp := List.prefix_append H [AObj.cells [v] 38 false]
  simp (maxSteps := 1000000) (disch := omega) only [S, S1, S2, S3, S4, S5, ST, eq_self, reduceIte, reduceCtorEq, Nat.reduceEqDiff, Nat.reduceAdd]
  have hc : cellA (H ++ [AObj.cells [v] 38 false]) H.length 0 = some v := by rw [cell_of (at_new ..)]; rfl
  refine CallH.by (SortedV_c H.length v xs _ hc (hr.pre hp) hlen) ?_
  rintro u H1 ⟨ys, hown, hperm, hasc, hp1⟩
  simp (maxSteps := 1000000) (disch := omega) only [S, S1, S2, S3, S4, S5, ST, eq_self, reduceIte, reduceCtorEq, Nat.reduceEqDiff, Nat.reduceAdd]
  have hl := hperm.length_eq
  refine CallH.by (isRising_c u ys _ H1 (by omega) hown.row (by omega)) ?_
  rintro _ _ ⟨rfl, rfl⟩
  simp (maxSteps := 1000000) (disch := omega) only [S, S1, S2, S3, S4, S5, ST, eq_self, reduceIte, reduceCtorEq, Nat.reduceEqDiff, Nat.reduceAdd]
  refine hQ _ _ _ ?_
  simp (maxSteps := 1000000) (disch := omega) only [S, S1, S2, S3, S4, S5, ST, eq_self, reduceIte, reduceCtorEq, Nat.reduceEqDiff, Nat.reduceAdd]
  refine ⟨?_, hp.trans hp1⟩
  have := rsg_iff hperm hasc
  simp only [this]
theorem PermI_c (v : Value) (xs : List Int) (H : AH) (hr : Row 3 H v xs) (hlen : xs.length ≤ 1099511627776) (hxs : ∀ y ∈ xs, I64 y) :
    ACalls Try.prog 56 [v] H fun r H' => r = .bool (decide (Prm xs)) ∧ H <+: H' := by
  refine in56 rfl ?_
  intro Q hQ
  simp (maxSteps := 1000000) (disch := omega) only [cd56, hr.len Try.underlying38, S, S1, S2, S3, S4, S5, ST, eq_self, reduceIte, reduceCtorEq, Nat.reduceEqDiff, Nat.reduceAdd]
  refine brD.intro (fun h => ?_) (fun h => ?_) <;> simp (maxSteps := 1000000) (disch := omega) only [h, hr.len Try.underlying38, S, S1, S2, S3, S4, S5, ST, eq_self, reduceIte, reduceCtorEq, Nat.reduceEqDiff, Nat.reduceAdd]
  · refine CallH.by (isOrder_c v xs H hr (by omega)) ?_
    rintro _ H1 ⟨rfl, hp⟩
    simp (maxSteps := 1000000) (disch := omega) only [h, S, S1, S2, S3, S4, S5, ST, eq_self, reduceIte, reduceCtorEq, Nat.reduceEqDiff, Nat.reduceAdd]
    refine hQ _ _ _ ?_
    simp (maxSteps := 1000000) (disch := omega) only [S, S1, S2, S3, S4, S5, ST, eq_self, reduceIte, reduceCtorEq, Nat.reduceEqDiff, Nat.reduceAdd]
    refine ⟨?_, hp⟩
    have h8 : xs.length ≤ 8 := by omega
    unfold Prm
    simp [h8]
  · refine hQ _ _ _ ?_
    simp (maxSteps := 1000000) (disch := omega) only [S, S1, S2, S3, S4, S5, ST, eq_self, reduceIte, reduceCtorEq, Nat.reduceEqDiff, Nat.reduceAdd]
    have h8 : ¬ xs.length ≤ 8 := by omega
    unfold Prm
    simp [h8, List.prefix_refl]
theorem l9Perm_c (v : Value) (xs : List Int) (H : AH) (hr : Row 3 H v xs) (hlen : xs.length ≤ 1099511627776) :
    ACalls Try.prog 127 [v] H fun r H' => r = .bool (decide (Prm xs)) ∧ H = H' := by
  refine in127 rfl ?_
  intro Q hQ
  simp (maxSteps := 1000000) (disch := omega) only [cd127, S, S1, S2, S3, S4, S5, ST, eq_self, reduceIte, reduceCtorEq, Nat.reduceEqDiff, Nat.reduceAdd]
  refine LoopH.by (fun m s H' => ∃ i, m + i = xs.length ∧ s 0 = v ∧ s 3 = .int .i64 ((i : Nat) : Int) ∧ H = H' ∧ ∀ j, j < i → (j : Int) ∈ xs) xs.length ?_ ?_
  · exact ⟨0, by simp, rfl, rfl, rfl, by omega⟩
  · rintro m s H' ⟨i, hm, h0, h3, rfl, hj⟩
    have fin : decide (xs.length ≤ 8) = decide (Prm xs) → True := fun _ => trivial
    simp (maxSteps := 1000000) (disch := omega) only [h0, h3, hr.len Try.underlying38, S, S1, S2, S3, S4, S5, ST, eq_self, reduceIte, reduceCtorEq, Nat.reduceEqDiff, Nat.reduceAdd]
    refine brD.intro (fun g => ?_) (fun g => ?_) <;> simp (maxSteps := 1000000) (disch := omega) only [g, h0, h3, hr.len Try.underlying38, S, S1, S2, S3, S4, S5, ST, eq_self, reduceIte, reduceCtorEq, Nat.reduceEqDiff, Nat.reduceAdd]
    · refine brD.intro (fun q => ?_) (fun q => ?_) <;> simp (maxSteps := 1000000) (disch := omega) only [g, q, h0, h3, hr.len Try.underlying38, S, S1, S2, S3, S4, S5, ST, eq_self, reduceIte, reduceCtorEq, Nat.reduceEqDiff, Nat.reduceAdd]
      · refine CallH.by (l1Has_c v xs _ H hr hlen) ?_
        rintro _ _ ⟨rfl, rfl⟩
        simp (maxSteps := 1000000) (disch := omega) only [S, S1, S2, S3, S4, S5, ST, eq_self, reduceIte, reduceCtorEq, Nat.reduceEqDiff, Nat.reduceAdd]
        refine brD.intro (fun e => ?_) (fun e => ?_) <;> simp (maxSteps := 1000000) (disch := omega) only [g, q, e, h0, h3, wrap64, S, S1, S2, S3, S4, S5, ST, eq_self, reduceIte, reduceCtorEq, Nat.reduceEqDiff, Nat.reduceAdd]
        · have fx : ∀ j, j < i + 1 → (j : Int) ∈ xs := by
            intro j hjj
            by_cases ej : j = i
            · subst ej; exact e
            · exact hj j (by omega)
          refine ⟨m - 1, by omega, i + 1, ?_⟩
          (repeat' apply And.intro) <;> first | exact fx | (simp only [Value.int.injEq, true_and]; omega) | omega | rfl | assumption | (simp; done) | (simp; omega)
        · refine hQ _ _ _ ?_
          simp (maxSteps := 1000000) (disch := omega) only [S, S1, S2, S3, S4, S5, ST, eq_self, reduceIte, reduceCtorEq, Nat.reduceEqDiff, Nat.reduceAdd]
          have : ¬ Prm xs := fun h => e (h.2 i (by omega))
          simp [this]
      · refine hQ _ _ _ ?_
        simp (maxSteps := 1000000) (disch := omega) only [S, S1, S2, S3, S4, S5, ST, eq_self, reduceIte, reduceCtorEq, Nat.reduceEqDiff, Nat.reduceAdd]
        have : ¬ Prm xs := fun h => by have := h.1; omega
        simp [this]
    · refine hQ _ _ _ ?_
      simp (maxSteps := 1000000) (disch := omega) only [S, S1, S2, S3, S4, S5, ST, eq_self, reduceIte, reduceCtorEq, Nat.reduceEqDiff, Nat.reduceAdd]
      have e : ((xs.length : Int) ≤ 8) ↔ Prm xs := ⟨fun h => ⟨by omega, fun x hx => hj x (by omega)⟩, fun h => by have := h.1; omega⟩
      simp only [e]
theorem PermS_c (v : Value) (xs : List Int) (H : AH) (hr : Row 3 H v xs) (hlen : xs.length ≤ 1099511627776) (hxs : ∀ y ∈ xs, I64 y) :
    ACalls Try.prog 57 [v] H fun r H' => r = .bool (decide (Prm xs)) ∧ H <+: H' := by
  refine in57 rfl ?_
  intro Q hQ
  simp (maxSteps := 1000000) (disch := omega) only [cd57, S, S1, S2, S3, S4, S5, ST, eq_self, reduceIte, reduceCtorEq, Nat.reduceEqDiff, Nat.reduceAdd]
  refine CallH.by (l9Perm_c v xs H hr hlen) ?_
  rintro _ _ ⟨rfl, rfl⟩
  simp (maxSteps := 1000000) (disch := omega) only [S, S1, S2, S3, S4, S5, ST, eq_self, reduceIte, reduceCtorEq, Nat.reduceEqDiff, Nat.reduceAdd]
  refine hQ _ _ _ ?_
  simp (maxSteps := 1000000) (disch := omega) only [S, S1, S2, S3, S4, S5, ST, eq_self, reduceIte, reduceCtorEq, Nat.reduceEqDiff, Nat.reduceAdd]
  exact List.prefix_refl _
end Go.Proofs.Ytlfongfhbkefmaa.Ai
namespace Go.Proofs.Ytlfongfhbkefmaa.Ai
open Go
def ords151 : List (Nat × List (Nat × Bool)) := [(5, [(0, false), (1, false), (2, false), (3, false), (4, false), (5, false), (6, false), (7, false), (8, true), (9, false), (10, false), (11, false), (12, false), (13, false), (14, false), (15, false), (16, false), (17, false), (18, false), (19, false), (20, false), (21, false), (22, false), (23, false), (24, false), (25, false)]), (7, [(0, false), (1, false), (2, false), (3, false), (4, false), (5, false), (6, false), (7, false), (8, false), (9, true)]), (10, [(0, false), (1, false), (2, false), (3, false), (5, false), (6, false), (7, false), (4, true), (8, true), (9, true)])]
def cd151 : Cd := (.seq (.reg [⟨⟨some 2, Op.box 31 (Operand.tmp 0), none⟩, []⟩,
  ⟨⟨some 4, Op.assign (Operand.const (Value.bool false)), none⟩, []⟩]) (.seq (.reg [⟨⟨some 8, Op.buildSlice 38 0 #[], none⟩, []⟩,
  ⟨⟨some 5, Op.assign (Operand.tmp 8), none⟩, []⟩]) (.seq (.seq (.reg [⟨⟨some 6, Op.assign (Operand.const (Value.int IntKind.i64 0)), none⟩, []⟩]) (.block 0 (.loop (.seq (.seq (.reg [⟨⟨some 9, Op.move (Operand.tmp 6), none⟩, []⟩,
  ⟨⟨some 10, Op.move (Operand.tmp 1), none⟩, []⟩,
  ⟨⟨some 11, Op.call { callee := (Callee.builtin Builtin.len), args := #[(Operand.tmp 10)], argTypes := #[38] }, none⟩, []⟩,
  ⟨⟨some 12, Op.binOp BinOp.lss 3 (Operand.tmp 9) (Operand.tmp 11) 3, none⟩, []⟩]) (.cond (Operand.tmp 12) .skip (.exit 0))) (.seq (.block 1 (.seq (.seq (.reg [⟨⟨some 15, Op.move (Operand.tmp 1), none⟩, []⟩,
  ⟨⟨some 16, Op.move (Operand.tmp 6), none⟩, []⟩,
  ⟨⟨some 17, Op.indexAddr 38 (Operand.tmp 15) (Operand.tmp 16), none⟩, []⟩,
  ⟨⟨some 18, Op.load 3 (Operand.tmp 17), none⟩, []⟩,
  ⟨⟨some 19, Op.fieldAddr 31 (Operand.tmp 2) 1, none⟩, []⟩,
  ⟨⟨some 20, Op.load 22 (Operand.tmp 19), none⟩, []⟩,
  ⟨⟨some 21, Op.call { callee := (Callee.builtin Builtin.len), args := #[(Operand.tmp 20)], argTypes := #[22] }, none⟩, []⟩,
  ⟨⟨some 22, Op.binOp BinOp.sub 3 (Operand.tmp 21) (Operand.const (Value.int IntKind.i64 1)) 3, none⟩, []⟩,
  ⟨⟨some 23, Op.call { callee := (Callee.value (Operand.func 67)), args := #[(Operand.tmp 18), (Operand.const (Value.int IntKind.i64 0)), (Operand.tmp 22)], argTypes := #[3, 3, 3] }, none⟩, []⟩,
  ⟨⟨some 24, Op.unOp UnOp.not 4 (Operand.tmp 23), none⟩, []⟩,
  ⟨⟨some 25, Op.move (Operand.tmp 24), none⟩, []⟩,
  ⟨⟨some 26, Op.move (Operand.tmp 6), some (25, false)⟩, []⟩,
  ⟨⟨some 27, Op.binOp BinOp.gtr 3 (Operand.tmp 26) (Operand.const (Value.int IntKind.i64 0)) 3, some (25, false)⟩, []⟩,
  ⟨⟨some 28, Op.move (Operand.tmp 27), some (25, false)⟩, []⟩,
  ⟨⟨some 29, Op.move (Operand.tmp 1), some (28, true)⟩, []⟩,
  ⟨⟨some 30, Op.move (Operand.tmp 6), some (28, true)⟩, []⟩,
  ⟨⟨some 31, Op.binOp BinOp.sub 3 (Operand.tmp 30) (Operand.const (Value.int IntKind.i64 1)) 3, some (28, true)⟩, []⟩,
  ⟨⟨some 32, Op.indexAddr 38 (Operand.tmp 29) (Operand.tmp 31), some (28, true)⟩, []⟩,
  ⟨⟨some 33, Op.load 3 (Operand.tmp 32), some (28, true)⟩, []⟩,
  ⟨⟨some 34, Op.move (Operand.tmp 1), some (28, true)⟩, []⟩,
  ⟨⟨some 35, Op.move (Operand.tmp 6), some (28, true)⟩, []⟩,
  ⟨⟨some 36, Op.indexAddr 38 (Operand.tmp 34) (Operand.tmp 35), some (28, true)⟩, []⟩,
  ⟨⟨some 37, Op.load 3 (Operand.tmp 36), some (28, true)⟩, []⟩,
  ⟨⟨some 38, Op.binOp BinOp.geq 3 (Operand.tmp 33) (Operand.tmp 37) 3, some (28, true)⟩, []⟩,
  ⟨⟨some 39, Op.pick (Operand.tmp 28) (Operand.tmp 38) (Operand.const (Value.bool false)), some (25, false)⟩, []⟩,
  ⟨⟨some 40, Op.pick (Operand.tmp 25) (Operand.const (Value.bool true)) (Operand.tmp 39), none⟩, []⟩]) (.cond (Operand.tmp 40) (.seq (.reg [⟨⟨some 4, Op.assign (Operand.const (Value.bool false)), none⟩, []⟩]) .ret) .skip)) (.seq (.reg [⟨⟨some 41, Op.fieldAddr 31 (Operand.tmp 2) 1, none⟩, []⟩,
  ⟨⟨some 42, Op.load 22 (Operand.tmp 41), none⟩, []⟩,
  ⟨⟨some 43, Op.move (Operand.tmp 1), none⟩, []⟩,
  ⟨⟨some 44, Op.move (Operand.tmp 6), none⟩, []⟩,
  ⟨⟨some 45, Op.indexAddr 38 (Operand.tmp 43) (Operand.tmp 44), none⟩, []⟩,
  ⟨⟨some 46, Op.load 3 (Operand.tmp 45), none⟩, []⟩,
  ⟨⟨some 47, Op.indexAddr 22 (Operand.tmp 42) (Operand.tmp 46), none⟩, []⟩,
  ⟨⟨some 48, Op.load 81 (Operand.tmp 47), none⟩, []⟩,
  ⟨⟨some 7, Op.alloc 81, none⟩, []⟩,
  ⟨⟨none, Op.store 81 (Operand.tmp 7) (Operand.tmp 48), none⟩, []⟩]) (.seq (.seq (.reg [⟨⟨some 49, Op.move (Operand.tmp 5), none⟩, []⟩,
  ⟨⟨some 50, Op.indexAddr 81 (Operand.tmp 7) (Operand.const (Value.int IntKind.i64 0)), none⟩, []⟩,
  ⟨⟨some 51, Op.load 3 (Operand.tmp 50), none⟩, []⟩,
  ⟨⟨some 52, Op.call { callee := (Callee.value (Operand.func 144)), args := #[(Operand.tmp 49), (Operand.tmp 51)], argTypes := #[38, 3] }, none⟩, []⟩,
  ⟨⟨some 53, Op.move (Operand.tmp 52), none⟩, []⟩,
  ⟨⟨some 54, Op.move (Operand.tmp 5), some (53, false)⟩, []⟩,
  ⟨⟨some 55, Op.indexAddr 81 (Operand.tmp 7) (Operand.const (Value.int IntKind.i64 1)), some (53, false)⟩, []⟩,
  ⟨⟨some 56, Op.load 3 (Operand.tmp 55), some (53, false)⟩, []⟩,
  ⟨⟨some 57, Op.call { callee := (Callee.value (Operand.func 144)), args := #[(Operand.tmp 54), (Operand.tmp 56)], argTypes := #[38, 3] }, some (53, false)⟩, []⟩,
  ⟨⟨some 58, Op.pick (Operand.tmp 53) (Operand.const (Value.bool true)) (Operand.tmp 57), none⟩, []⟩]) (.cond (Operand.tmp 58) (.seq (.reg [⟨⟨some 4, Op.assign (Operand.const (Value.bool false)), none⟩, []⟩]) .ret) .skip)) (.reg [⟨⟨some 59, Op.move (Operand.tmp 5), none⟩, []⟩,
  ⟨⟨some 60, Op.indexAddr 81 (Operand.tmp 7) (Operand.const (Value.int IntKind.i64 0)), none⟩, []⟩,
  ⟨⟨some 61, Op.load 3 (Operand.tmp 60), none⟩, []⟩,
  ⟨⟨some 62, Op.buildSlice 38 1 #[(0, (Operand.tmp 61))], none⟩, []⟩,
  ⟨⟨some 64, Op.indexAddr 81 (Operand.tmp 7) (Operand.const (Value.int IntKind.i64 1)), none⟩, []⟩,
  ⟨⟨some 65, Op.load 3 (Operand.tmp 64), none⟩, []⟩,
  ⟨⟨some 66, Op.buildSlice 38 1 #[(0, (Operand.tmp 65))], none⟩, []⟩,
  ⟨⟨some 63, Op.call { callee := (Callee.builtin Builtin.append), args := #[(Operand.tmp 59), (Operand.tmp 62)], argTypes := #[38, 38] }, none⟩, [⟨some 66, Op.buildSlice 38 1 #[(0, (Operand.tmp 65))], none⟩, ⟨some 65, Op.load 3 (Operand.tmp 64), none⟩]⟩,
  ⟨⟨some 67, Op.call { callee := (Callee.builtin Builtin.append), args := #[(Operand.tmp 63), (Operand.tmp 66)], argTypes := #[38, 38] }, none⟩, []⟩,
  ⟨⟨some 5, Op.assign (Operand.tmp 67), none⟩, []⟩]))))) (.reg [⟨⟨some 13, Op.move (Operand.tmp 6), none⟩, []⟩,
  ⟨⟨some 14, Op.binOp BinOp.add 3 (Operand.tmp 13) (Operand.const (Value.int IntKind.i64 1)) 3, none⟩, []⟩,
  ⟨⟨some 6, Op.assign (Operand.tmp 14), none⟩, []⟩])))))) (.seq (.reg [⟨⟨some 4, Op.assign (Operand.const (Value.bool true)), none⟩, []⟩]) .ret))))
theorem sl151 : slim Try.f151.ntmps ords151 (Try.f151.body.getD .skip) = some cd151 := by kernel_rfl
theorem in151 {args : List Value} {H : AH} {R : Value → AH → Prop} (hl : args.length = 2) (h : ∀ (Q : Exit → Sl → AH → Prop), (∀ e s H, endA Try.prog [ResultVar.tmp 4] R e s H → Q e s H) → wpC Try.prog cd151 Q (enterA args) H) : ACalls Try.prog 151 args H R :=
  ACalls.intro (by kernel_rfl) Try.func151 rfl (by kernel_rfl) sl151 hl (of_decide_eq_true (by kernel_rfl)) (by kernel_rfl) h
end Go.Proofs.Ytlfongfhbkefmaa.Ai
namespace Go.Proofs.Ytlfongfhbkefmaa.Ai
open Go Go.RowKit
set_option linter.unusedVariables false
set_option linter.unusedSimpArgs false
/-- two numbers, appended one after the other -/
theorem Own.app2 {P : Program} {t e : TypeId} (hu : P.underlying t = some (.slice e)) (hc : P.cellsOf e = 1) (hby : P.bytesOf e ≤ 64) (hz : zeroOk P e = true) {H0 B : AH} {v : Value} {ys : List Int} (h : Own e H0 B v ys) (hp : H0 <+: B) (hb : ys.length ≤ 1099511627774) (a b : Int) :
    ∃ v1 H1, appendA P t t v (.slice (some ⟨B.length, 0, none⟩) 1 1) (B ++ [.cells [.int .i64 a] e false] ++ [.cells [.int .i64 b] e false]) = some (v1, H1) ∧ isTup v1 = false ∧ H1[(B ++ [AObj.cells [.int .i64 a] e false]).length]? = some (.cells [.int .i64 b] e false) ∧ Kept v B H1 ∧
      ∃ v2 H2, appendA P t t v1 (.slice (some ⟨(B ++ [AObj.cells [.int .i64 a] e false]).length, 0, none⟩) 1 1) H1 = some (v2, H2) ∧ Own e H0 H2 v2 (ys ++ [a, b]) ∧ H0 <+: H2 ∧ Kept v B H2 ∧ isTup v2 = false := by
  have hx : Row e (B ++ [.cells [.int .i64 a] e false] ++ [.cells [.int .i64 b] e false]) (.slice (some ⟨B.length, 0, none⟩) 1 1) [a] := .inr ⟨B.length, 0, [.int .i64 a], false, rfl, at_app (at_new ..) _, by simp, rfl⟩
  have p2 : B <+: B ++ [AObj.cells [.int .i64 a] e false] ++ [.cells [.int .i64 b] e false] := pre_app (List.prefix_append _ _) _
  obtain ⟨v1, H1, h1, h2, h3, h4, h5⟩ := (h.pre p2).app hu hc hby hz hx (hp.trans p2) (by simp; omega)
  have hY : H1[(B ++ [AObj.cells [.int .i64 a] e false]).length]? = some (.cells [.int .i64 b] e false) := by
    refine h4 _ _ ?_ (at_new ..)
    rcases h.row.nil with g | g
    · exact .inl g.1
    · right; simp; omega
  have hy : Row e H1 (.slice (some ⟨(B ++ [AObj.cells [.int .i64 a] e false]).length, 0, none⟩) 1 1) [b] :=
    .inr ⟨_, 0, [.int .i64 b], false, rfl, hY, by simp, rfl⟩
  obtain ⟨v2, H2, k1, k2, k3, k4, k5⟩ := h2.app hu hc hby hz hy h3 (by simp; omega)
  refine ⟨v1, H1, h1, h2.row.tup, hY, fun o y ho hoy => h4 o y ho (pre_at p2 hoy), v2, H2, k1, by simpa using k2, k3, fun o y ho hoy => k4 o y ?_ (h4 o y ho (pre_at p2 hoy)), k2.row.tup⟩
  rcases h5 with h5 | ⟨h5, h6⟩
  · right
    have := at_lt hoy
    simp only [List.length_append, List.length_cons, List.length_nil] at h5; omega
  · subst h5; exact ho
set_option maxRecDepth 20000 in
set_option maxHeartbeats 4000000 in
theorem l8Matches_c (n : Int) (v w : Value) (es : List (Int × Int)) (xs : List Int) (H : AH) (hr : RowP 81 H v es) (hx : Row 3 H w xs) (hlen : es.length ≤ 1099511627776) (hlx : xs.length ≤ 1048576) :
    ACalls Try.prog 151 [.agg (List.toArray [.int .i64 n, v]), w] H fun r H' => r = .bool (decide (Mtc es xs)) ∧ H <+: H' := by
  refine in151 rfl ?_
  intro Q hQ
  simp (maxSteps := 1000000) (disch := omega) only [cd151, hr.boxG, S, S1, S2, S3, S4, S5, ST, eq_self, reduceIte, reduceCtorEq, Nat.reduceEqDiff, Nat.reduceAdd]
  generalize hA : H ++ [AObj.cells [.int .i64 n, v] 31 false] = A
  have pA : H <+: A := by rw [← hA]; exact List.prefix_append _ _
  have cA : A[H.length]? = some (.cells [.int .i64 n, v] 31 false) := by rw [← hA]; exact at_new ..
  have rA := hr.pre pA
  try simp (maxSteps := 1000000) (disch := omega) only [S, S1, S2, S3, S4, S5, ST, eq_self, reduceIte, reduceCtorEq, Nat.reduceEqDiff, Nat.reduceAdd]
  have xA := hx.pre pA
  refine LoopH.by (fun m s H' => ∃ i, m + i = xs.length ∧ s 1 = w ∧ s 2 = .pointer (some ⟨H.length, 0, none⟩) ∧ s 6 = .int .i64 ((i : Nat) : Int) ∧ MtU es xs i ∧ Own 3 A H' (s 5) (seenL es (xs.take i)) ∧ A <+: H') xs.length ?_ ?_
  · refine ⟨0, by simp, rfl, rfl, rfl, MtU.zero _ _, .inr ⟨A.length, rfl, Nat.le_refl _, at_new ..⟩, List.prefix_append _ _⟩
  · rintro m s H' ⟨i, hm, h1, h2, h6, hu, ho, hp⟩
    have hr' := rA.pre hp
    have hx' := xA.pre hp
    have cH := pre_at hp cA
    generalize hw : s 5 = u at *
    simp (maxSteps := 1000000) (disch := omega) only [h1, h2, h6, hw, hx'.len Try.underlying38, S, S1, S2, S3, S4, S5, ST, eq_self, reduceIte, reduceCtorEq, Nat.reduceEqDiff, Nat.reduceAdd]
    refine brD.intro (fun g => ?_) (fun g => ?_)
    · have hi : i < xs.length := by omega
      have e0 : ((i : Int) - 1).toNat = i - 1 := by omega
      have hsl : (seenL es (xs.take i)).length ≤ 2097152 := by rw [seenL_len, List.length_take]; omega
      have hst := seenL_take es xs i hi
      have bad : ¬ (rsOk es.length xs i ∧ frOk es xs i) → decide (Mtc es xs) = false := fun h => decide_eq_false (MtU.no hi h)
      have nxt : rsOk es.length xs i → frOk es xs i → MtU es xs (i + 1) := hu.succ
      have hpp := pA.trans hp
      simp (maxSteps := 1000000) (disch := omega) only [h1, h2, h6, hw, cell_of cH, hr'.len Try.underlying22, hx'.ix Try.underlying38 cs3, hx'.cell, Int.toNat_natCast, wrap64, S, S1, S2, S3, S4, S5, ST, eq_self, reduceIte, reduceCtorEq, Nat.reduceEqDiff, Nat.reduceAdd]
      refine CallH.by (l1In_c _ _ _ H') ?_
      rintro _ _ ⟨rfl, rfl⟩
      simp (maxSteps := 1000000) (disch := omega) only [h1, h2, h6, hw, S, S1, S2, S3, S4, S5, ST, eq_self, reduceIte, reduceCtorEq, Nat.reduceEqDiff, Nat.reduceAdd]
      refine brD.intro (fun e1 => ?_) (fun e1 => ?_) <;> simp (maxSteps := 1000000) (disch := omega) only [e1, h1, h2, h6, hw, S, S1, S2, S3, S4, S5, ST, eq_self, reduceIte, reduceCtorEq, Nat.reduceEqDiff, Nat.reduceAdd]
      · have hei : (xs.getD i 0).toNat < es.length := by omega
        refine brD.intro (fun e2 => ?_) (fun e2 => ?_) <;> simp (maxSteps := 1000000) (disch := omega) only [e1, e2, e0, h1, h2, h6, hw, hx'.ix Try.underlying38 cs3, hx'.cell, cell_of cH, Int.toNat_natCast, wrap64, S, S1, S2, S3, S4, S5, ST, eq_self, reduceIte, reduceCtorEq, Nat.reduceEqDiff, Nat.reduceAdd]
        · refine brD.intro (fun e3 => ?_) (fun e3 => ?_) <;> simp (maxSteps := 1000000) (disch := omega) only [e1, e2, e3, h1, h2, h6, hw, S, S1, S2, S3, S4, S5, ST, eq_self, reduceIte, reduceCtorEq, Nat.reduceEqDiff, Nat.reduceAdd]
          · refine hQ _ _ _ ?_
            simp (maxSteps := 1000000) (disch := omega) only [S, S1, S2, S3, S4, S5, ST, eq_self, reduceIte, reduceCtorEq, Nat.reduceEqDiff, Nat.reduceAdd]
            exact ⟨by rw [bad (fun h => by have := h.1.2 (by omega); omega)], hpp⟩
          · have hrs : rsOk es.length xs i := ⟨e1, fun h => by omega⟩
            have hst0 := store_a2 H' [.int .i64 0, .int .i64 0] rfl
            have hld := hr'.ld ag81 cs81 hei
            have hfr : frOk es xs i ↔ ((es.getD (xs.getD i 0).toNat (0, 0)).1 ∉ seenL es (xs.take i) ∧ (es.getD (xs.getD i 0).toNat (0, 0)).2 ∉ seenL es (xs.take i)) := Iff.rfl
            have hst' : seenL es (xs.take (i + 1)) = seenL es (xs.take i) ++ [(es.getD (xs.getD i 0).toNat (0, 0)).1, (es.getD (xs.getD i 0).toNat (0, 0)).2] := hst
            simp (maxSteps := 1000000) (disch := omega) only [e1, e2, e3, h1, h2, h6, hw, cell_of cH, hx'.ix Try.underlying38 cs3, hx'.cell, hr'.ix Try.underlying22 cs81, Int.toNat_natCast, hld, alloc_a2, hst0, cell_new, wrap64, S, S1, S2, S3, S4, S5, ST, eq_self, reduceIte, reduceCtorEq, Nat.reduceEqDiff, Nat.reduceAdd]
            generalize hy : es.getD (xs.getD i 0).toNat (0, 0) = y at *
            generalize hB : H' ++ [AObj.cells [.int .i64 y.1, .int .i64 y.2] 81 false] = B
            have pB : H' <+: B := by rw [← hB]; exact List.prefix_append _ _
            have b0 : B[H'.length]? = some (.cells [.int .i64 y.1, .int .i64 y.2] 81 false) := by rw [← hB]; exact at_new ..
            have hoB := ho.pre pB
            have hpB := hp.trans pB
            refine CallH.by (l1Has_c u (seenL es (xs.take i)) y.1 B hoB.row (by omega)) ?_
            rintro _ _ ⟨rfl, rfl⟩
            simp (maxSteps := 1000000) (disch := omega) only [e1, e2, e3, cell_of b0, S, S1, S2, S3, S4, S5, ST, eq_self, reduceIte, reduceCtorEq, Nat.reduceEqDiff, Nat.reduceAdd]
            refine brD.intro (fun e4 => ?_) (fun e4 => ?_) <;> simp (maxSteps := 1000000) (disch := omega) only [e1, e2, e3, e4, h1, h2, h6, hw, cell_of b0, S, S1, S2, S3, S4, S5, ST, eq_self, reduceIte, reduceCtorEq, Nat.reduceEqDiff, Nat.reduceAdd]
            · refine hQ _ _ _ ?_
              simp (maxSteps := 1000000) (disch := omega) only [S, S1, S2, S3, S4, S5, ST, eq_self, reduceIte, reduceCtorEq, Nat.reduceEqDiff, Nat.reduceAdd]
              exact ⟨by rw [bad (fun h => (hfr.1 h.2).1 e4)], hpp.trans pB⟩
            · refine CallH.by (l1Has_c u (seenL es (xs.take i)) y.2 B hoB.row (by omega)) ?_
              rintro _ _ ⟨rfl, rfl⟩
              simp (maxSteps := 1000000) (disch := omega) only [e1, e2, e3, e4, cell_of b0, S, S1, S2, S3, S4, S5, ST, eq_self, reduceIte, reduceCtorEq, Nat.reduceEqDiff, Nat.reduceAdd]
              refine brD.intro (fun e5 => ?_) (fun e5 => ?_) <;> simp (maxSteps := 1000000) (disch := omega) only [e1, e2, e3, e4, e5, h1, h2, h6, hw, cell_of b0, wrap64, S, S1, S2, S3, S4, S5, ST, eq_self, reduceIte, reduceCtorEq, Nat.reduceEqDiff, Nat.reduceAdd]
              · refine hQ _ _ _ ?_
                simp (maxSteps := 1000000) (disch := omega) only [S, S1, S2, S3, S4, S5, ST, eq_self, reduceIte, reduceCtorEq, Nat.reduceEqDiff, Nat.reduceAdd]
                exact ⟨by rw [bad (fun h => (hfr.1 h.2).2 e5)], hpp.trans pB⟩
              · obtain ⟨v1, H1, k1, k2, kY, kB, v2, H2, k3, k4, k5, k6, k7⟩ := hoB.app2 (P := Try.prog) Try.underlying38 cs3 (by rw [by3]; decide) zk3 hpB (by omega) y.1 y.2
                have b1 : H1[H'.length]? = some (.cells [.int .i64 y.1, .int .i64 y.2] 81 false) := kB _ _ (by
                  rcases ho.row.nil with q | q
                  · exact .inl q.1
                  · right; omega) b0
                simp (maxSteps := 1000000) (disch := omega) only [h1, h2, h6, hw, cell_of (at_app b0 _), k1, k3, kY, at_new, cell_of b1, wrap64, S, S1, S2, S3, S4, S5, ST, eq_self, reduceIte, reduceCtorEq, Nat.reduceEqDiff, Nat.reduceAdd]
                rw [← hst'] at k4
                have f1 := nxt hrs (hfr.2 ⟨e4, e5⟩)
                refine ⟨m - 1, by omega, i + 1, ?_⟩
                (repeat' first | exact f1 | exact k4 | exact k5 | apply And.intro) <;> first | (simp only [Value.int.injEq, true_and]; omega) | omega | rfl | assumption | (simp; done) | (simp; omega)
        · have hrs : rsOk es.length xs i := ⟨e1, fun h => by omega⟩
          have hst0 := store_a2 H' [.int .i64 0, .int .i64 0] rfl
          have hld := hr'.ld ag81 cs81 hei
          have hfr : frOk es xs i ↔ ((es.getD (xs.getD i 0).toNat (0, 0)).1 ∉ seenL es (xs.take i) ∧ (es.getD (xs.getD i 0).toNat (0, 0)).2 ∉ seenL es (xs.take i)) := Iff.rfl
          have hst' : seenL es (xs.take (i + 1)) = seenL es (xs.take i) ++ [(es.getD (xs.getD i 0).toNat (0, 0)).1, (es.getD (xs.getD i 0).toNat (0, 0)).2] := hst
          simp (maxSteps := 1000000) (disch := omega) only [e1, e2, h1, h2, h6, hw, cell_of cH, hx'.ix Try.underlying38 cs3, hx'.cell, hr'.ix Try.underlying22 cs81, Int.toNat_natCast, hld, alloc_a2, hst0, cell_new, wrap64, S, S1, S2, S3, S4, S5, ST, eq_self, reduceIte, reduceCtorEq, Nat.reduceEqDiff, Nat.reduceAdd]
          generalize hy : es.getD (xs.getD i 0).toNat (0, 0) = y at *
          generalize hB : H' ++ [AObj.cells [.int .i64 y.1, .int .i64 y.2] 81 false] = B
          have pB : H' <+: B := by rw [← hB]; exact List.prefix_append _ _
          have b0 : B[H'.length]? = some (.cells [.int .i64 y.1, .int .i64 y.2] 81 false) := by rw [← hB]; exact at_new ..
          have hoB := ho.pre pB
          have hpB := hp.trans pB
          refine CallH.by (l1Has_c u (seenL es (xs.take i)) y.1 B hoB.row (by omega)) ?_
          rintro _ _ ⟨rfl, rfl⟩
          simp (maxSteps := 1000000) (disch := omega) only [e1, e2, cell_of b0, S, S1, S2, S3, S4, S5, ST, eq_self, reduceIte, reduceCtorEq, Nat.reduceEqDiff, Nat.reduceAdd]
          refine brD.intro (fun e4 => ?_) (fun e4 => ?_) <;> simp (maxSteps := 1000000) (disch := omega) only [e1, e2, e4, h1, h2, h6, hw, cell_of b0, S, S1, S2, S3, S4, S5, ST, eq_self, reduceIte, reduceCtorEq, Nat.reduceEqDiff, Nat.reduceAdd]
          · refine hQ _ _ _ ?_
            simp (maxSteps := 1000000) (disch := omega) only [S, S1, S2, S3, S4, S5, ST, eq_self, reduceIte, reduceCtorEq, Nat.reduceEqDiff, Nat.reduceAdd]
            exact ⟨by rw [bad (fun h => (hfr.1 h.2).1 e4)], hpp.trans pB⟩
          · refine CallH.by (l1Has_c u (seenL es (xs.take i)) y.2 B hoB.row (by omega)) ?_
            rintro _ _ ⟨rfl, rfl⟩
            simp (maxSteps := 1000000) (disch := omega) only [e1, e2, e4, cell_of b0, S, S1, S2, S3, S4, S5, ST, eq_self, reduceIte, reduceCtorEq, Nat.reduceEqDiff, Nat.reduceAdd]
            refine brD.intro (fun e5 => ?_) (fun e5 => ?_) <;> simp (maxSteps := 1000000) (disch := omega) only [e1, e2, e4, e5, h1, h2, h6, hw, cell_of b0, wrap64, S, S1, S2, S3, S4, S5, ST, eq_self, reduceIte, reduceCtorEq, Nat.reduceEqDiff, Nat.reduceAdd]
            · refine hQ _ _ _ ?_
              simp (maxSteps := 1000000) (disch := omega) only [S, S1, S2, S3, S4, S5, ST, eq_self, reduceIte, reduceCtorEq, Nat.reduceEqDiff, Nat.reduceAdd]
              exact ⟨by rw [bad (fun h => (hfr.1 h.2).2 e5)], hpp.trans pB⟩
            · obtain ⟨v1, H1, k1, k2, kY, kB, v2, H2, k3, k4, k5, k6, k7⟩ := hoB.app2 (P := Try.prog) Try.underlying38 cs3 (by rw [by3]; decide) zk3 hpB (by omega) y.1 y.2
              have b1 : H1[H'.length]? = some (.cells [.int .i64 y.1, .int .i64 y.2] 81 false) := kB _ _ (by
                rcases ho.row.nil with q | q
                · exact .inl q.1
                · right; omega) b0
              simp (maxSteps := 1000000) (disch := omega) only [h1, h2, h6, hw, cell_of (at_app b0 _), k1, k3, kY, at_new, cell_of b1, wrap64, S, S1, S2, S3, S4, S5, ST, eq_self, reduceIte, reduceCtorEq, Nat.reduceEqDiff, Nat.reduceAdd]
              rw [← hst'] at k4
              have f1 := nxt hrs (hfr.2 ⟨e4, e5⟩)
              refine ⟨m - 1, by omega, i + 1, ?_⟩
              (repeat' first | exact f1 | exact k4 | exact k5 | apply And.intro) <;> first | (simp only [Value.int.injEq, true_and]; omega) | omega | rfl | assumption | (simp; done) | (simp; omega)
      · refine hQ _ _ _ ?_
        simp (maxSteps := 1000000) (disch := omega) only [S, S1, S2, S3, S4, S5, ST, eq_self, reduceIte, reduceCtorEq, Nat.reduceEqDiff, Nat.reduceAdd]
        exact ⟨by rw [bad (fun h => e1 h.1.1)], hpp⟩
    · simp (maxSteps := 1000000) (disch := omega) only [h1, h2, h6, hw, S, S1, S2, S3, S4, S5, ST, eq_self, reduceIte, reduceCtorEq, Nat.reduceEqDiff, Nat.reduceAdd]
      refine hQ _ _ _ ?_
      simp (maxSteps := 1000000) (disch := omega) only [S, S1, S2, S3, S4, S5, ST, eq_self, reduceIte, reduceCtorEq, Nat.reduceEqDiff, Nat.reduceAdd]
      have : i = xs.length := by omega
      subst this
      simp [hu, pA.trans hp]
theorem grd_ed {n : Int} {es : List (Int × Int)} (h : Grd n es) {k : Nat} (hk : k < es.length) : ∃ x y : Nat, (es.getD k (0, 0)).1 = x ∧ (es.getD k (0, 0)).2 = y ∧ x < y ∧ (y : Int) < n ∧ y < 8 := by
  obtain ⟨h1, h2⟩ := h
  obtain ⟨a1, a2, a3, _⟩ := h2 k hk
  exact ⟨(es.getD k (0, 0)).1.toNat, (es.getD k (0, 0)).2.toNat, by omega, by omega, by omega, by omega, by omega⟩
end Go.Proofs.Ytlfongfhbkefmaa.Ai
namespace Go.Proofs.Ytlfongfhbkefmaa.Ai
open Go
def ords213 : List (Nat × List (Nat × Bool)) := []
def cd213 : Cd := (.seq (.reg [⟨⟨some 2, Op.assign (Operand.const (Value.int IntKind.u64 0)), none⟩, []⟩]) (.seq (.reg [⟨⟨some 3, Op.assign (Operand.const (Value.int IntKind.u64 0)), none⟩, []⟩]) (.seq (.seq (.reg [⟨⟨some 6, Op.move (Operand.tmp 0), none⟩, []⟩,
  ⟨⟨some 7, Op.call { callee := (Callee.builtin Builtin.len), args := #[(Operand.tmp 6)], argTypes := #[38] }, none⟩, []⟩,
  ⟨⟨some 8, Op.move (Operand.const (Value.int IntKind.i64 0)), none⟩, []⟩]) (.block 0 (.loop (.seq (.reg [⟨⟨some 9, Op.binOp BinOp.lss 3 (Operand.tmp 8) (Operand.tmp 7) 3, none⟩, []⟩]) (.seq (.cond (Operand.tmp 9) .skip (.exit 0)) (.seq (.block 1 (.seq (.reg [⟨⟨some 10, Op.indexAddr 38 (Operand.tmp 6) (Operand.tmp 8), none⟩, []⟩,
  ⟨⟨some 11, Op.load 3 (Operand.tmp 10), none⟩, []⟩,
  ⟨⟨some 5, Op.assign (Operand.tmp 11), none⟩, []⟩]) (.reg [⟨⟨some 12, Op.move (Operand.tmp 3), none⟩, []⟩,
  ⟨⟨some 13, Op.move (Operand.tmp 5), none⟩, []⟩,
  ⟨⟨some 14, Op.binOp BinOp.shl 98 (Operand.const (Value.int IntKind.u64 1)) (Operand.tmp 13) 3, none⟩, []⟩,
  ⟨⟨some 15, Op.binOp BinOp.or 98 (Operand.tmp 12) (Operand.tmp 14) 98, none⟩, []⟩,
  ⟨⟨some 3, Op.assign (Operand.tmp 15), none⟩, []⟩]))) (.reg [⟨⟨some 16, Op.binOp BinOp.add 3 (Operand.tmp 8) (Operand.const (Value.int IntKind.i64 1)) 3, none⟩, []⟩,
  ⟨⟨some 8, Op.move (Operand.tmp 16), none⟩, []⟩]))))))) (.seq (.reg [⟨⟨some 17, Op.move (Operand.tmp 3), none⟩, []⟩,
  ⟨⟨some 2, Op.assign (Operand.tmp 17), none⟩, []⟩]) .ret))))
theorem sl213 : slim Try.f213.ntmps ords213 (Try.f213.body.getD .skip) = some cd213 := by kernel_rfl
theorem in213 {args : List Value} {H : AH} {R : Value → AH → Prop} (hl : args.length = 1) (h : ∀ (Q : Exit → Sl → AH → Prop), (∀ e s H, endA Try.prog [ResultVar.tmp 2] R e s H → Q e s H) → wpC Try.prog cd213 Q (enterA args) H) : ACalls Try.prog 213 args H R :=
  ACalls.intro (by kernel_rfl) Try.func213 rfl (by kernel_rfl) sl213 hl (of_decide_eq_true (by kernel_rfl)) (by kernel_rfl) h
def ords158 : List (Nat × List (Nat × Bool)) := []
def cd158 : Cd := (.seq (.reg [⟨⟨some 4, Op.assign (Operand.const (Value.int IntKind.u64 0)), none⟩, []⟩,
  ⟨⟨some 5, Op.assign (Operand.const (Value.int IntKind.u64 0)), none⟩, []⟩]) (.seq (.reg [⟨⟨some 8, Op.move (Operand.tmp 0), none⟩, []⟩,
  ⟨⟨some 9, Op.call { callee := (Callee.value (Operand.func 213)), args := #[(Operand.tmp 8)], argTypes := #[38] }, none⟩, []⟩,
  ⟨⟨some 10, Op.move (Operand.tmp 1), none⟩, []⟩,
  ⟨⟨some 11, Op.call { callee := (Callee.value (Operand.func 213)), args := #[(Operand.tmp 10)], argTypes := #[38] }, none⟩, []⟩,
  ⟨⟨some 6, Op.assign (Operand.tmp 9), none⟩, []⟩,
  ⟨⟨some 7, Op.assign (Operand.tmp 11), none⟩, []⟩]) (.seq (.reg [⟨⟨some 12, Op.move (Operand.tmp 6), none⟩, []⟩,
  ⟨⟨some 13, Op.move (Operand.tmp 7), none⟩, []⟩,
  ⟨⟨some 14, Op.binOp BinOp.andNot 98 (Operand.tmp 12) (Operand.tmp 13) 98, none⟩, []⟩,
  ⟨⟨some 15, Op.move (Operand.tmp 7), none⟩, []⟩,
  ⟨⟨some 16, Op.move (Operand.tmp 6), none⟩, []⟩,
  ⟨⟨some 17, Op.binOp BinOp.andNot 98 (Operand.tmp 15) (Operand.tmp 16) 98, none⟩, []⟩,
  ⟨⟨some 4, Op.assign (Operand.tmp 14), none⟩, []⟩,
  ⟨⟨some 5, Op.assign (Operand.tmp 17), none⟩, []⟩]) .ret)))
theorem sl158 : slim Try.f158.ntmps ords158 (Try.f158.body.getD .skip) = some cd158 := by kernel_rfl
theorem in158 {args : List Value} {H : AH} {R : Value → AH → Prop} (hl : args.length = 2) (h : ∀ (Q : Exit → Sl → AH → Prop), (∀ e s H, endA Try.prog [ResultVar.tmp 4, ResultVar.tmp 5] R e s H → Q e s H) → wpC Try.prog cd158 Q (enterA args) H) : ACalls Try.prog 158 args H R :=
  ACalls.intro (by kernel_rfl) Try.func158 rfl (by kernel_rfl) sl158 hl (of_decide_eq_true (by kernel_rfl)) (by kernel_rfl) h
def ords100 : List (Nat × List (Nat × Bool)) := []
def cd100 : Cd := (.seq (.reg [⟨⟨some 4, Op.assign (Operand.const (Value.slice none 0 0)), none⟩, []⟩]) (.seq (.reg [⟨⟨some 10, Op.move (Operand.tmp 0), none⟩, []⟩,
  ⟨⟨some 11, Op.move (Operand.tmp 1), none⟩, []⟩,
  ⟨⟨some 12, Op.call { callee := (Callee.value (Operand.func 158)), args := #[(Operand.tmp 10), (Operand.tmp 11)], argTypes := #[38, 38] }, none⟩, []⟩,
  ⟨⟨some 9, Op.move (Operand.tmp 12), none⟩, []⟩,
  ⟨⟨some 13, Op.extract (Operand.tmp 9) 0, none⟩, []⟩,
  ⟨⟨some 14, Op.extract (Operand.tmp 9) 1, none⟩, []⟩,
  ⟨⟨some 5, Op.assign (Operand.tmp 13), none⟩, []⟩,
  ⟨⟨some 6, Op.assign (Operand.tmp 14), none⟩, []⟩]) (.seq (.reg [⟨⟨some 15, Op.buildSlice 38 0 #[], none⟩, []⟩,
  ⟨⟨some 7, Op.assign (Operand.tmp 15), none⟩, []⟩]) (.seq (.seq (.reg [⟨⟨some 16, Op.move (Operand.const (Value.int IntKind.i64 0)), none⟩, []⟩]) (.block 0 (.loop (.seq (.reg [⟨⟨some 17, Op.binOp BinOp.lss 3 (Operand.tmp 16) (Operand.const (Value.int IntKind.i64 32)) 3, none⟩, []⟩]) (.seq (.cond (Operand.tmp 17) .skip (.exit 0)) (.seq (.block 1 (.seq (.reg [⟨⟨some 18, Op.move (Operand.tmp 16), none⟩, []⟩,
  ⟨⟨some 8, Op.assign (Operand.tmp 18), none⟩, []⟩]) (.seq (.reg [⟨⟨some 19, Op.move (Operand.tmp 5), none⟩, []⟩,
  ⟨⟨some 20, Op.move (Operand.tmp 6), none⟩, []⟩,
  ⟨⟨some 21, Op.binOp BinOp.or 98 (Operand.tmp 19) (Operand.tmp 20) 98, none⟩, []⟩,
  ⟨⟨some 22, Op.move (Operand.tmp 8), none⟩, []⟩,
  ⟨⟨some 23, Op.call { callee := (Callee.value (Operand.func 171)), args := #[(Operand.tmp 21), (Operand.tmp 22)], argTypes := #[98, 3] }, none⟩, []⟩]) (.cond (Operand.tmp 23) (.reg [⟨⟨some 24, Op.move (Operand.tmp 7), none⟩, []⟩,
  ⟨⟨some 25, Op.move (Operand.tmp 8), none⟩, []⟩,
  ⟨⟨some 26, Op.buildSlice 38 1 #[(0, (Operand.tmp 25))], none⟩, []⟩,
  ⟨⟨some 27, Op.call { callee := (Callee.builtin Builtin.append), args := #[(Operand.tmp 24), (Operand.tmp 26)], argTypes := #[38, 38] }, none⟩, []⟩,
  ⟨⟨some 7, Op.assign (Operand.tmp 27), none⟩, []⟩]) .skip)))) (.reg [⟨⟨some 28, Op.binOp BinOp.add 3 (Operand.tmp 16) (Operand.const (Value.int IntKind.i64 1)) 3, none⟩, []⟩,
  ⟨⟨some 16, Op.move (Operand.tmp 28), none⟩, []⟩]))))))) (.seq (.reg [⟨⟨some 29, Op.move (Operand.tmp 7), none⟩, []⟩,
  ⟨⟨some 4, Op.assign (Operand.tmp 29), none⟩, []⟩]) .ret)))))
theorem sl100 : slim Try.f100.ntmps ords100 (Try.f100.body.getD .skip) = some cd100 := by kernel_rfl
theorem in100 {args : List Value} {H : AH} {R : Value → AH → Prop} (hl : args.length = 2) (h : ∀ (Q : Exit → Sl → AH → Prop), (∀ e s H, endA Try.prog [ResultVar.tmp 4] R e s H → Q e s H) → wpC Try.prog cd100 Q (enterA args) H) : ACalls Try.prog 100 args H R :=
  ACalls.intro (by kernel_rfl) Try.func100 rfl (by kernel_rfl) sl100 hl (of_decide_eq_true (by kernel_rfl)) (by kernel_rfl) h
def ords101 : List (Nat × List (Nat × Bool)) := [(5, [(0, false), (1, false), (2, false), (3, false), (4, false), (5, false), (6, false), (7, false), (8, false), (9, false), (10, false), (11, false), (12, false), (13, false), (14, false), (15, false), (16, false), (17, true)])]
def cd101 : Cd := (.seq (.reg [⟨⟨some 2, Op.box 31 (Operand.tmp 0), none⟩, []⟩,
  ⟨⟨some 4, Op.assign (Operand.const (Value.int IntKind.u64 0)), none⟩, []⟩]) (.seq (.reg [⟨⟨some 5, Op.assign (Operand.const (Value.int IntKind.u64 0)), none⟩, []⟩]) (.seq (.seq (.reg [⟨⟨some 8, Op.move (Operand.tmp 1), none⟩, []⟩,
  ⟨⟨some 9, Op.call { callee := (Callee.builtin Builtin.len), args := #[(Operand.tmp 8)], argTypes := #[38] }, none⟩, []⟩,
  ⟨⟨some 10, Op.move (Operand.const (Value.int IntKind.i64 0)), none⟩, []⟩]) (.block 0 (.loop (.seq (.reg [⟨⟨some 11, Op.binOp BinOp.lss 3 (Operand.tmp 10) (Operand.tmp 9) 3, none⟩, []⟩]) (.seq (.cond (Operand.tmp 11) .skip (.exit 0)) (.seq (.block 1 (.seq (.reg [⟨⟨some 12, Op.indexAddr 38 (Operand.tmp 8) (Operand.tmp 10), none⟩, []⟩,
  ⟨⟨some 13, Op.load 3 (Operand.tmp 12), none⟩, []⟩,
  ⟨⟨some 7, Op.assign (Operand.tmp 13), none⟩, []⟩]) (.reg [⟨⟨some 14, Op.move (Operand.tmp 5), none⟩, []⟩,
  ⟨⟨some 15, Op.fieldAddr 31 (Operand.tmp 2) 1, none⟩, []⟩,
  ⟨⟨some 16, Op.load 22 (Operand.tmp 15), none⟩, []⟩,
  ⟨⟨some 17, Op.move (Operand.tmp 7), none⟩, []⟩,
  ⟨⟨some 18, Op.indexAddr 22 (Operand.tmp 16) (Operand.tmp 17), none⟩, []⟩,
  ⟨⟨some 19, Op.indexAddr 81 (Operand.tmp 18) (Operand.const (Value.int IntKind.i64 0)), none⟩, []⟩,
  ⟨⟨some 20, Op.load 3 (Operand.tmp 19), none⟩, []⟩,
  ⟨⟨some 21, Op.binOp BinOp.shl 98 (Operand.const (Value.int IntKind.u64 1)) (Operand.tmp 20) 3, none⟩, []⟩,
  ⟨⟨some 22, Op.fieldAddr 31 (Operand.tmp 2) 1, none⟩, []⟩,
  ⟨⟨some 23, Op.load 22 (Operand.tmp 22), none⟩, []⟩,
  ⟨⟨some 24, Op.move (Operand.tmp 7), none⟩, []⟩,
  ⟨⟨some 25, Op.indexAddr 22 (Operand.tmp 23) (Operand.tmp 24), none⟩, []⟩,
  ⟨⟨some 26, Op.indexAddr 81 (Operand.tmp 25) (Operand.const (Value.int IntKind.i64 1)), none⟩, []⟩,
  ⟨⟨some 27, Op.load 3 (Operand.tmp 26), none⟩, []⟩,
  ⟨⟨some 28, Op.binOp BinOp.shl 98 (Operand.const (Value.int IntKind.u64 1)) (Operand.tmp 27) 3, none⟩, []⟩,
  ⟨⟨some 29, Op.binOp BinOp.or 98 (Operand.tmp 21) (Operand.tmp 28) 98, none⟩, []⟩,
  ⟨⟨some 30, Op.binOp BinOp.or 98 (Operand.tmp 14) (Operand.tmp 29) 98, none⟩, []⟩,
  ⟨⟨some 5, Op.assign (Operand.tmp 30), none⟩, []⟩]))) (.reg [⟨⟨some 31, Op.binOp BinOp.add 3 (Operand.tmp 10) (Operand.const (Value.int IntKind.i64 1)) 3, none⟩, []⟩,
  ⟨⟨some 10, Op.move (Operand.tmp 31), none⟩, []⟩]))))))) (.seq (.reg [⟨⟨some 32, Op.move (Operand.tmp 5), none⟩, []⟩,
  ⟨⟨some 4, Op.assign (Operand.tmp 32), none⟩, []⟩]) .ret))))
theorem sl101 : slim Try.f101.ntmps ords101 (Try.f101.body.getD .skip) = some cd101 := by kernel_rfl
theorem in101 {args : List Value} {H : AH} {R : Value → AH → Prop} (hl : args.length = 2) (h : ∀ (Q : Exit → Sl → AH → Prop), (∀ e s H, endA Try.prog [ResultVar.tmp 4] R e s H → Q e s H) → wpC Try.prog cd101 Q (enterA args) H) : ACalls Try.prog 101 args H R :=
  ACalls.intro (by kernel_rfl) Try.func101 rfl (by kernel_rfl) sl101 hl (of_decide_eq_true (by kernel_rfl)) (by kernel_rfl) h
end Go.Proofs.Ytlfongfhbkefmaa.Ai
namespace Go.Proofs.Ytlfongfhbkefmaa.Ai
open Go Go.RowKit
set_option linter.unusedVariables false
set_option linter.unusedSimpArgs false
/-- one without another -/
def anN (a b : Nat) : Nat := (BitVec.ofNat 64 a &&& ~~~ BitVec.ofNat 64 b).toNat
theorem anN_bit (a b z : Nat) (hz : z < 64) : (anN a b).testBit z = (a.testBit z && !b.testBit z) := by
  unfold anN
  rw [BitVec.testBit_toNat, BitVec.getLsbD_and, BitVec.getLsbD_not, BitVec.getLsbD_ofNat, BitVec.getLsbD_ofNat]
  simp [hz]
theorem anN_le (a b : Nat) : anN a b ≤ a := by
  unfold anN
  rw [BitVec.toNat_and]
  refine Nat.le_trans Nat.and_le_left ?_
  rw [BitVec.toNat_ofNat]
  exact Nat.mod_le _ _
theorem bin_andNot (P : Program) (t : TypeId) (a b : Nat) (ha : a < 2 ^ 64) : binA P .andNot t (.int .u64 (a : Int)) (.int .u64 (b : Int)) = some (.int .u64 ((anN a b : Nat) : Int)) := by
  have e : bitsA .andNot .u64 (a : Int) (b : Int) = ((anN a b : Nat) : Int) := by
    show IntKind.u64.wrap (((BitVec.ofInt 64 (a : Int) &&& ~~~ BitVec.ofInt 64 (b : Int)).toNat : Nat) : Int) = _
    rw [BitVec.ofInt_natCast, BitVec.ofInt_natCast]
    show IntKind.u64.wrap ((anN a b : Nat) : Int) = _
    have := anN_le a b
    rw [IntKind.wrap_u64]; omega
  simp only [binA, intA, e]
  simp
set_option maxHeartbeats 1000000 in
theorem bagOf_c (w : Value) (xs : List Int) (H : AH) (hr : Row 3 H w xs) (hlen : xs.length ≤ 1048576) (hx : ∀ x ∈ xs, 0 ≤ x ∧ x < 32) :
    ACalls Try.prog 213 [w] H fun r H' => ∃ b : Nat, r = .int .u64 (b : Int) ∧ BagI b xs ∧ H = H' := by
  refine in213 rfl ?_
  intro Q hQ
  simp (maxSteps := 1000000) (disch := omega) only [cd213, hr.len Try.underlying38, S, S1, S2, S3, S4, S5, ST, eq_self, reduceIte, reduceCtorEq, Nat.reduceEqDiff, Nat.reduceAdd]
  refine LoopH.by (fun m s H' => ∃ (i b : Nat), m + i = xs.length ∧ s 3 = .int .u64 (b : Int) ∧ s 6 = w ∧ s 7 = .int .i64 (xs.length : Int) ∧ s 8 = .int .i64 ((i : Nat) : Int) ∧ BagI b (xs.take i) ∧ H' = H) xs.length ?_ ?_
  · exact ⟨0, 0, by simp, rfl, rfl, rfl, rfl, by simpa using BagI.zero, rfl⟩
  rintro m s H' ⟨i, b, hm, h3, h6, h7, h8, hb, rfl⟩
  simp (maxSteps := 1000000) (disch := omega) only [h3, h6, h7, h8, S, S1, S2, S3, S4, S5, ST, eq_self, reduceIte, reduceCtorEq, Nat.reduceEqDiff, Nat.reduceAdd]
  refine brD.intro (fun g => ?_) (fun g => ?_)
  · have hi : i < xs.length := by omega
    have hxm : xs.getD i 0 ∈ xs := by simp [hi]
    have hxr := hx _ hxm
    obtain ⟨x, hxe⟩ : ∃ x : Nat, xs.getD i 0 = x := ⟨(xs.getD i 0).toNat, by omega⟩
    have hc := hr.cell hi
    rw [hxe] at hc
    have hb64 : b < 2 ^ 64 := Nat.lt_of_lt_of_le hb.1 (by decide)
    have hx64 : 2 ^ x < 2 ^ 64 := Nat.pow_lt_pow_right (by decide) (by omega)
    have k1 := bin_shl Try.prog 98 x (by omega)
    have k2 := bin_or Try.prog 98 b (2 ^ x) hb64 hx64
    have f1 : BagI (b ||| 2 ^ x) (xs.take (i + 1)) := by
      have e : xs.take (i + 1) = xs.take i ++ [(x : Int)] := by
        rw [List.take_add_one, List.getElem?_eq_getElem hi, ← hxe]
        simp [hi]
      rw [e]; exact hb.or (by omega)
    simp (maxSteps := 1000000) (disch := omega) only [h3, h6, h7, h8, hr.ix Try.underlying38 cs3, Int.toNat_natCast, hc, k1, k2, wrap64, S, S1, S2, S3, S4, S5, ST, eq_self, reduceIte, reduceCtorEq, Nat.reduceEqDiff, Nat.reduceAdd]
    refine ⟨m - 1, by omega, i + 1, b ||| 2 ^ x, ?_⟩
    (repeat' first | exact f1 | apply And.intro) <;> first | (simp only [Value.int.injEq, true_and]; omega) | omega | rfl | assumption | (simp; done) | (simp; omega)
  · simp (maxSteps := 1000000) (disch := omega) only [h3, S, S1, S2, S3, S4, S5, ST, eq_self, reduceIte, reduceCtorEq, Nat.reduceEqDiff, Nat.reduceAdd]
    refine hQ _ _ _ ?_
    simp (maxSteps := 1000000) (disch := omega) only [S, S1, S2, S3, S4, S5, ST, eq_self, reduceIte, reduceCtorEq, Nat.reduceEqDiff, Nat.reduceAdd]
    rw [List.take_of_length_le (by omega)] at hb
    exact ⟨b, rfl, hb⟩
theorem moves_c (v w : Value) (xs ys : List Int) (H : AH) (hr : Row 3 H v xs) (hs : Row 3 H w ys) (hlx : xs.length ≤ 1048576) (hly : ys.length ≤ 1048576) (hx : ∀ x ∈ xs, 0 ≤ x ∧ x < 32) (hy : ∀ x ∈ ys, 0 ≤ x ∧ x < 32) :
    ACalls Try.prog 158 [v, w] H fun r H' => ∃ a b : Nat, r = .tuple (List.toArray [.int .u64 (a : Int), .int .u64 (b : Int)]) ∧ BagI a (xs.filter fun x => !decide (x ∈ ys)) ∧ BagI b (ys.filter fun x => !decide (x ∈ xs)) ∧ H = H' := by
  refine in158 rfl ?_
  intro Q hQ
  simp (maxSteps := 1000000) (disch := omega) only [cd158, S, S1, S2, S3, S4, S5, ST, eq_self, reduceIte, reduceCtorEq, Nat.reduceEqDiff, Nat.reduceAdd]
  refine CallH.by (bagOf_c v xs H hr hlx hx) ?_
  rintro _ _ ⟨a, rfl, ha, rfl⟩
  simp (maxSteps := 1000000) (disch := omega) only [S, S1, S2, S3, S4, S5, ST, eq_self, reduceIte, reduceCtorEq, Nat.reduceEqDiff, Nat.reduceAdd]
  refine CallH.by (bagOf_c w ys H hs hly hy) ?_
  rintro _ _ ⟨b, rfl, hb, rfl⟩
  have ha64 : a < 2 ^ 64 := Nat.lt_of_lt_of_le ha.1 (by decide)
  have hb64 : b < 2 ^ 64 := Nat.lt_of_lt_of_le hb.1 (by decide)
  have k1 := bin_andNot Try.prog 98 a b ha64
  have k2 := bin_andNot Try.prog 98 b a hb64
  simp (maxSteps := 1000000) (disch := omega) only [k1, k2, S, S1, S2, S3, S4, S5, ST, eq_self, reduceIte, reduceCtorEq, Nat.reduceEqDiff, Nat.reduceAdd]
  refine hQ _ _ _ ?_
  simp (maxSteps := 1000000) (disch := omega) only [S, S1, S2, S3, S4, S5, ST, eq_self, reduceIte, reduceCtorEq, Nat.reduceEqDiff, Nat.reduceAdd]
  refine ⟨_, _, rfl, ⟨Nat.lt_of_le_of_lt (anN_le a b) ha.1, fun z hz => ?_⟩, ⟨Nat.lt_of_le_of_lt (anN_le b a) hb.1, fun z hz => ?_⟩⟩
  · rw [anN_bit a b z hz, ha.2 z hz, hb.2 z hz]
    by_cases h1 : (z : Int) ∈ xs <;> by_cases h2 : (z : Int) ∈ ys <;> simp [h1, h2]
  · rw [anN_bit b a z hz, ha.2 z hz, hb.2 z hz]
    by_cases h1 : (z : Int) ∈ xs <;> by_cases h2 : (z : Int) ∈ ys <;> simp [h1, h2]
set_option maxHeartbeats 1000000 in
theorem difference_c (v w : Value) (xs ys : List Int) (H : AH) (hr : Row 3 H v xs) (hs : Row 3 H w ys) (hlx : xs.length ≤ 1048576) (hly : ys.length ≤ 1048576) (hx : ∀ x ∈ xs, 0 ≤ x ∧ x < 32) (hy : ∀ x ∈ ys, 0 ≤ x ∧ x < 32) :
    ACalls Try.prog 100 [v, w] H fun r H' => Own 3 H H' r (dix xs ys 32) ∧ H <+: H' := by
  refine in100 rfl ?_
  intro Q hQ
  simp (maxSteps := 1000000) (disch := omega) only [cd100, S, S1, S2, S3, S4, S5, ST, eq_self, reduceIte, reduceCtorEq, Nat.reduceEqDiff, Nat.reduceAdd]
  refine CallH.by (moves_c v w xs ys H hr hs hlx hly hx hy) ?_
  rintro _ _ ⟨a, b, rfl, ha, hb, rfl⟩
  simp (maxSteps := 1000000) (disch := omega) only [S, S1, S2, S3, S4, S5, ST, eq_self, reduceIte, reduceCtorEq, Nat.reduceEqDiff, Nat.reduceAdd]
  generalize hA : H ++ [AObj.cells [] 3 false] = A
  have pA : H <+: A := by rw [← hA]; exact List.prefix_append _ _
  have cA : A[H.length]? = some (.cells (ints []) 3 false) := by rw [← hA]; exact at_new ..
  have own0 : Own 3 H A (.slice (some ⟨H.length, 0, none⟩) 0 0) (dix xs ys 0) := .inr ⟨H.length, rfl, Nat.le_refl _, cA⟩
  have ha64 : a < 2 ^ 64 := Nat.lt_of_lt_of_le ha.1 (by decide)
  have hb64 : b < 2 ^ 64 := Nat.lt_of_lt_of_le hb.1 (by decide)
  have k1 := bin_or Try.prog 98 a b ha64 hb64
  refine LoopH.by (fun m s H' => ∃ (i : Nat), m + i = 32 ∧ s 5 = .int .u64 (a : Int) ∧ s 6 = .int .u64 (b : Int) ∧ s 16 = .int .i64 ((i : Nat) : Int) ∧ Own 3 H H' (s 7) (dix xs ys i) ∧ H <+: H') 32 ?_ ?_
  · refine ⟨0, ?_⟩
    simp (maxSteps := 1000000) (disch := omega) only [S, S1, S2, S3, S4, S5, ST, eq_self, reduceIte, reduceCtorEq, Nat.reduceEqDiff, Nat.reduceAdd]
    (repeat' first | exact own0 | exact pA | apply And.intro) <;> first | (simp only [Value.int.injEq, true_and]; omega) | omega | rfl | assumption | (simp; done) | (simp; omega)
  rintro m s H' ⟨i, hm, h5, h6, h16, ho, hp⟩
  generalize hU : s 7 = U at *
  simp (maxSteps := 1000000) (disch := omega) only [h5, h6, h16, hU, S, S1, S2, S3, S4, S5, ST, eq_self, reduceIte, reduceCtorEq, Nat.reduceEqDiff, Nat.reduceAdd]
  refine brD.intro (fun g => ?_) (fun g => ?_)
  · have hi : i < 32 := by omega
    simp (maxSteps := 1000000) (disch := omega) only [h5, h6, h16, hU, k1, S, S1, S2, S3, S4, S5, ST, eq_self, reduceIte, reduceCtorEq, Nat.reduceEqDiff, Nat.reduceAdd]
    refine CallH.by (has_c (a ||| b) i H' (Nat.or_lt_two_pow ha64 hb64) (by omega)) ?_
    rintro _ _ ⟨rfl, rfl⟩
    have hbit : (a ||| b).testBit i = (decide ((i : Int) ∈ xs) != decide ((i : Int) ∈ ys)) := by
      rw [Nat.testBit_or, ha.2 i (by omega), hb.2 i (by omega)]
      by_cases h1 : (i : Int) ∈ xs <;> by_cases h2 : (i : Int) ∈ ys <;> simp [h1, h2]
    rw [hbit]
    cases hh : (decide ((i : Int) ∈ xs) != decide ((i : Int) ∈ ys)) with
    | true =>
      have hd : dix xs ys (i + 1) = dix xs ys i ++ [(i : Int)] := by rw [dix, if_pos hh]
      obtain ⟨U', H2, j1, j2, j3, j4, j5, j6⟩ := own1_38 ho hp (by have := dix_len xs ys i; omega) (i : Int)
      rw [← hd] at j2
      simp (maxSteps := 1000000) (disch := omega) only [h5, h6, h16, hU, j1, wrap64, S, S1, S2, S3, S4, S5, ST, eq_self, reduceIte, reduceCtorEq, Nat.reduceEqDiff, Nat.reduceAdd]
      refine ⟨m - 1, by omega, i + 1, ?_⟩
      (repeat' first | exact j2 | exact j3 | apply And.intro) <;> first | (simp only [Value.int.injEq, true_and]; omega) | omega | rfl | assumption | (simp; done) | (simp; omega)
    | false =>
      have hd : dix xs ys (i + 1) = dix xs ys i := by rw [dix, if_neg (by rw [hh]; decide), List.append_nil]
      rw [← hd] at ho
      simp (maxSteps := 1000000) (disch := omega) only [h5, h6, h16, hU, wrap64, S, S1, S2, S3, S4, S5, ST, eq_self, reduceIte, reduceCtorEq, Nat.reduceEqDiff, Nat.reduceAdd]
      refine ⟨m - 1, by omega, i + 1, ?_⟩
      (repeat' first | exact ho | exact hp | apply And.intro) <;> first | (simp only [Value.int.injEq, true_and]; omega) | omega | rfl | assumption | (simp; done) | (simp; omega)
  · simp (maxSteps := 1000000) (disch := omega) only [hU, S, S1, S2, S3, S4, S5, ST, eq_self, reduceIte, reduceCtorEq, Nat.reduceEqDiff, Nat.reduceAdd]
    refine hQ _ _ _ ?_
    simp (maxSteps := 1000000) (disch := omega) only [hU, ho.row.tup, S, S1, S2, S3, S4, S5, ST, eq_self, reduceIte, reduceCtorEq, Nat.reduceEqDiff, Nat.reduceAdd]
    have hi : i = 32 := by omega
    subst hi
    exact ⟨ho, hp⟩
set_option maxHeartbeats 2000000 in
theorem ends_c (n : Int) (v w : Value) (es : List (Int × Int)) (ds : List Int) (H : AH) (hr : RowP 81 H v es) (hlen : es.length ≤ 1099511627776) (hg : Grd n es) (hs : Row 3 H w ds) (hld : ds.length ≤ 1048576) (hd : ∀ x ∈ ds, 0 ≤ x ∧ x < es.length) :
    ACalls Try.prog 101 [.agg (List.toArray [.int .i64 n, v]), w] H fun r H' => ∃ b : Nat, r = .int .u64 (b : Int) ∧ BagI b (seenL es ds) ∧ H <+: H' := by
  refine in101 rfl ?_
  intro Q hQ
  simp (maxSteps := 1000000) (disch := omega) only [cd101, hr.boxG, S, S1, S2, S3, S4, S5, ST, eq_self, reduceIte, reduceCtorEq, Nat.reduceEqDiff, Nat.reduceAdd]
  generalize hA : H ++ [AObj.cells [.int .i64 n, v] 31 false] = A
  have pA : H <+: A := by rw [← hA]; exact List.prefix_append _ _
  have cA : A[H.length]? = some (.cells [.int .i64 n, v] 31 false) := by rw [← hA]; exact at_new ..
  have rA := hr.pre pA
  have xA := hs.pre pA
  simp (maxSteps := 1000000) (disch := omega) only [xA.len Try.underlying38, S, S1, S2, S3, S4, S5, ST, eq_self, reduceIte, reduceCtorEq, Nat.reduceEqDiff, Nat.reduceAdd]
  refine LoopH.by (fun m s H' => ∃ (i b : Nat), m + i = ds.length ∧ s 2 = .pointer (some ⟨H.length, 0, none⟩) ∧ s 5 = .int .u64 (b : Int) ∧ s 8 = w ∧ s 9 = .int .i64 (ds.length : Int) ∧ s 10 = .int .i64 ((i : Nat) : Int) ∧ BagI b (seenL es (ds.take i)) ∧ H' = A) ds.length ?_ ?_
  · exact ⟨0, 0, by simp, rfl, rfl, rfl, rfl, rfl, by simpa [seenL] using BagI.zero, rfl⟩
  rintro m s H' ⟨i, b, hm, h2, h5, h8, h9, h10, hb, rfl⟩
  simp (maxSteps := 1000000) (disch := omega) only [h2, h5, h8, h9, h10, S, S1, S2, S3, S4, S5, ST, eq_self, reduceIte, reduceCtorEq, Nat.reduceEqDiff, Nat.reduceAdd]
  refine brD.intro (fun g => ?_) (fun g => ?_)
  · have hi : i < ds.length := by omega
    have hdm : ds.getD i 0 ∈ ds := by simp [hi]
    have hdr := hd _ hdm
    have hei : (ds.getD i 0).toNat < es.length := by omega
    have hst := seenL_take es ds i hi
    obtain ⟨x, y, ex, ey, hxy, hyn, hy8⟩ := grd_ed hg hei
    unfold ed1 ed2 at hst
    rw [ex, ey] at hst
    have hb64 : b < 2 ^ 64 := Nat.lt_of_lt_of_le hb.1 (by decide)
    have hx64 : 2 ^ x < 2 ^ 64 := Nat.pow_lt_pow_right (by decide) (by omega)
    have hy64 : 2 ^ y < 2 ^ 64 := Nat.pow_lt_pow_right (by decide) (by omega)
    have k1 := bin_shl Try.prog 98 x (by omega)
    have k2 := bin_shl Try.prog 98 y (by omega)
    have k3 := bin_or Try.prog 98 (2 ^ x) (2 ^ y) hx64 hy64
    have k5 := bin_or Try.prog 98 b (2 ^ x ||| 2 ^ y) hb64 (Nat.or_lt_two_pow hx64 hy64)
    have l0 := rA.cell0 hei
    have l1 := rA.cell1 hei
    rw [ex] at l0
    rw [ey] at l1
    have f1 : BagI (b ||| (2 ^ x ||| 2 ^ y)) (seenL es (ds.take (i + 1))) := by
      rw [hst, ← Nat.or_assoc]
      have := (hb.or (y := x) (by omega)).or (y := y) (by omega)
      rw [List.append_assoc] at this
      exact this
    simp (maxSteps := 1000000) (disch := omega) only [h2, h5, h8, h9, h10, cell_of cA, xA.ix Try.underlying38 cs3, xA.cell, rA.ix Try.underlying22 cs81, Int.toNat_natCast, l0, l1, k1, k2, k3, k5, wrap64, S, S1, S2, S3, S4, S5, ST, eq_self, reduceIte, reduceCtorEq, Nat.reduceEqDiff, Nat.reduceAdd]
    refine ⟨m - 1, by omega, i + 1, b ||| (2 ^ x ||| 2 ^ y), ?_⟩
    (repeat' first | exact f1 | apply And.intro) <;> first | (simp only [Value.int.injEq, true_and]; omega) | omega | rfl | assumption | (simp; done) | (simp; omega)
  · simp (maxSteps := 1000000) (disch := omega) only [h5, S, S1, S2, S3, S4, S5, ST, eq_self, reduceIte, reduceCtorEq, Nat.reduceEqDiff, Nat.reduceAdd]
    refine hQ _ _ _ ?_
    simp (maxSteps := 1000000) (disch := omega) only [S, S1, S2, S3, S4, S5, ST, eq_self, reduceIte, reduceCtorEq, Nat.reduceEqDiff, Nat.reduceAdd]
    rw [List.take_of_length_le (by omega)] at hb
    exact ⟨b, rfl, hb, pA⟩
end Go.Proofs.Ytlfongfhbkefmaa.Ai
namespace Go.Proofs.Ytlfongfhbkefmaa.Ai
open Go
def ords76 : List (Nat × List (Nat × Bool)) := []
def cd76 : Cd := (.seq (.reg [⟨⟨some 4, Op.assign (Operand.const (Value.bool false)), none⟩, []⟩]) (.seq (.reg [⟨⟨some 8, Op.move (Operand.tmp 0), none⟩, []⟩,
  ⟨⟨some 9, Op.move (Operand.tmp 1), none⟩, []⟩,
  ⟨⟨some 10, Op.call { callee := (Callee.value (Operand.func 158)), args := #[(Operand.tmp 8), (Operand.tmp 9)], argTypes := #[38, 38] }, none⟩, []⟩,
  ⟨⟨some 7, Op.move (Operand.tmp 10), none⟩, []⟩,
  ⟨⟨some 11, Op.extract (Operand.tmp 7) 0, none⟩, []⟩,
  ⟨⟨some 12, Op.extract (Operand.tmp 7) 1, none⟩, []⟩,
  ⟨⟨some 5, Op.assign (Operand.tmp 11), none⟩, []⟩,
  ⟨⟨some 6, Op.assign (Operand.tmp 12), none⟩, []⟩]) (.seq (.reg [⟨⟨some 13, Op.move (Operand.tmp 5), none⟩, []⟩,
  ⟨⟨some 14, Op.call { callee := (Callee.value (Operand.func 102)), args := #[(Operand.tmp 13)], argTypes := #[98] }, none⟩, []⟩,
  ⟨⟨some 15, Op.binOp BinOp.eql 3 (Operand.tmp 14) (Operand.const (Value.int IntKind.i64 1)) 3, none⟩, []⟩,
  ⟨⟨some 16, Op.move (Operand.tmp 15), none⟩, []⟩,
  ⟨⟨some 17, Op.move (Operand.tmp 6), some (16, true)⟩, []⟩,
  ⟨⟨some 18, Op.call { callee := (Callee.value (Operand.func 102)), args := #[(Operand.tmp 17)], argTypes := #[98] }, some (16, true)⟩, []⟩,
  ⟨⟨some 19, Op.binOp BinOp.eql 3 (Operand.tmp 18) (Operand.const (Value.int IntKind.i64 1)) 3, some (16, true)⟩, []⟩,
  ⟨⟨some 20, Op.pick (Operand.tmp 16) (Operand.tmp 19) (Operand.const (Value.bool false)), none⟩, []⟩,
  ⟨⟨some 4, Op.assign (Operand.tmp 20), none⟩, []⟩]) .ret)))
theorem sl76 : slim Try.f76.ntmps ords76 (Try.f76.body.getD .skip) = some cd76 := by kernel_rfl
theorem in76 {args : List Value} {H : AH} {R : Value → AH → Prop} (hl : args.length = 2) (h : ∀ (Q : Exit → Sl → AH → Prop), (∀ e s H, endA Try.prog [ResultVar.tmp 4] R e s H → Q e s H) → wpC Try.prog cd76 Q (enterA args) H) : ACalls Try.prog 76 args H R :=
  ACalls.intro (by kernel_rfl) Try.func76 rfl (by kernel_rfl) sl76 hl (of_decide_eq_true (by kernel_rfl)) (by kernel_rfl) h
end Go.Proofs.Ytlfongfhbkefmaa.Ai
namespace Go.Proofs.Ytlfongfhbkefmaa.Ai
open Go Go.RowKit
set_option linter.unusedVariables false
set_option linter.unusedSimpArgs false
/-- all rising lists of k numbers from m on, below 28 -/
def comb : Nat → Nat → List (List Nat)
  | 0, _ => [[]]
  | k + 1, m => (List.range (28 - m)).flatMap fun d => (comb k (m + d + 1)).map fun r => (m + d) :: r
def bagN : List Nat → Nat
  | [] => 0
  | y :: r => bagN r ||| 2 ^ y
def combOk (k : Nat) : Bool := (comb k 0).all fun s => Nat.beq (popc (bagN s)) k
set_option maxRecDepth 100000 in
theorem comb0 : combOk 0 = true := by decide +kernel
set_option maxRecDepth 100000 in
theorem comb1 : combOk 1 = true := by decide +kernel
set_option maxRecDepth 100000 in
theorem comb2 : combOk 2 = true := by decide +kernel
set_option maxRecDepth 100000 in
theorem comb3 : combOk 3 = true := by decide +kernel
set_option maxRecDepth 100000 in
theorem comb4 : combOk 4 = true := by decide +kernel
theorem comb_mem : ∀ (s : List Nat) (m : Nat), s.Pairwise (· < ·) → (∀ x ∈ s, m ≤ x ∧ x < 28) → s ∈ comb s.length m
  | [], m, _, _ => by simp [comb]
  | x :: r, m, hp, h => by
    have hx := h x (by simp)
    have hp' := List.pairwise_cons.1 hp
    have ih := comb_mem r (x + 1) hp'.2 (fun y hy => ⟨hp'.1 y hy, (h y (by simp [hy])).2⟩)
    show x :: r ∈ comb (r.length + 1) m
    simp only [comb, List.mem_flatMap, List.mem_map, List.mem_range]
    refine ⟨x - m, by omega, r, ?_, ?_⟩
    · rw [show m + (x - m) + 1 = x + 1 by omega]; exact ih
    · rw [show m + (x - m) = x by omega]
theorem bagN_bit : ∀ (s : List Nat) (z : Nat), (bagN s).testBit z = decide (z ∈ s)
  | [], z => by simp [bagN]
  | y :: r, z => by
    rw [bagN, Nat.testBit_or, bagN_bit r z, Nat.testBit_two_pow]
    by_cases e : y = z
    · subst e; simp
    · have : ¬ z = y := fun h => e h.symm
      simp [e, this]
theorem popc_len {b : Nat} {s : List Int} (hb : BagI b s) (hs : s.Pairwise (· < ·)) (hr : ∀ x ∈ s, 0 ≤ x ∧ x < 28) (hl : s.length ≤ 4) : popc b = s.length := by
  have hnat : ∃ t : List Nat, s = t.map fun z : Nat => (z : Int) := by
    refine ⟨s.map Int.toNat, ?_⟩
    rw [List.map_map]
    have : s = s.map id := by simp
    conv => lhs; rw [this]
    refine List.map_congr_left fun x hx => ?_
    have := hr x hx
    show x = ((x.toNat : Nat) : Int)
    omega
  obtain ⟨t, rfl⟩ := hnat
  have hmem : ∀ z : Nat, (z : Int) ∈ t.map (fun z : Nat => (z : Int)) ↔ z ∈ t := fun z => by
    rw [List.mem_map]
    exact ⟨fun ⟨y, hy, e⟩ => by have : y = z := by omega
                                rw [← this]; exact hy, fun h => ⟨z, h, rfl⟩⟩
  have eb : b = bagN t := by
    refine Nat.eq_of_testBit_eq fun z => ?_
    rw [bagN_bit]
    by_cases hz : z < 64
    · rw [hb.2 z hz]
      exact decide_eq_decide.2 (hmem z)
    · rw [Nat.testBit_lt_two_pow (Nat.lt_of_lt_of_le hb.1 (Nat.pow_le_pow_right (by decide) (by omega)))]
      symm
      rw [decide_eq_false_iff_not]
      intro h
      have := hr (z : Int) ((hmem z).2 h)
      omega
  have hp : t.Pairwise (· < ·) := by
    rw [List.pairwise_map] at hs
    exact hs.imp fun h => by omega
  have hm := comb_mem t 0 hp (fun x hx => by have := hr (x : Int) ((hmem x).2 hx); omega)
  rw [List.length_map] at hl ⊢
  have hk : combOk t.length = true := by
    have : t.length = 0 ∨ t.length = 1 ∨ t.length = 2 ∨ t.length = 3 ∨ t.length = 4 := by omega
    rcases this with h | h | h | h | h <;> rw [h]
    · exact comb0
    · exact comb1
    · exact comb2
    · exact comb3
    · exact comb4
  have := List.all_eq_true.1 hk t hm
  rw [eb]
  exact Nat.eq_of_beq_eq_true this
/-- one edge of each is not in the other -/
def jmpB (x y : List Int) : Bool := decide ((x.filter fun e => !decide (e ∈ y)).length = 1) && decide ((y.filter fun e => !decide (e ∈ x)).length = 1)
theorem isJump_c (v w : Value) (xs ys : List Int) (H : AH) (hr : Row 3 H v xs) (hs : Row 3 H w ys) (hlx : xs.length ≤ 4) (hly : ys.length ≤ 4) (hx : ∀ x ∈ xs, 0 ≤ x ∧ x < 28) (hy : ∀ x ∈ ys, 0 ≤ x ∧ x < 28) (hpx : xs.Pairwise (· < ·)) (hpy : ys.Pairwise (· < ·)) :
    ACalls Try.prog 76 [v, w] H fun r H' => r = .bool (jmpB xs ys) ∧ H = H' := by
  refine in76 rfl ?_
  intro Q hQ
  simp (maxSteps := 1000000) (disch := omega) only [cd76, S, S1, S2, S3, S4, S5, ST, eq_self, reduceIte, reduceCtorEq, Nat.reduceEqDiff, Nat.reduceAdd]
  refine CallH.by (moves_c v w xs ys H hr hs (by omega) (by omega) (fun x h => by have := hx x h; omega) (fun x h => by have := hy x h; omega)) ?_
  rintro _ _ ⟨a, b, rfl, ha, hb, rfl⟩
  have la := List.length_filter_le (fun e => !decide (e ∈ ys)) xs
  have lb := List.length_filter_le (fun e => !decide (e ∈ xs)) ys
  have ea := popc_len ha (hpx.filter _) (fun x h => hx x (List.mem_filter.1 h).1) (by omega)
  have eb := popc_len hb (hpy.filter _) (fun x h => hy x (List.mem_filter.1 h).1) (by omega)
  simp (maxSteps := 1000000) (disch := omega) only [S, S1, S2, S3, S4, S5, ST, eq_self, reduceIte, reduceCtorEq, Nat.reduceEqDiff, Nat.reduceAdd]
  refine CallH.by (size_c a H (Nat.lt_of_lt_of_le ha.1 (by decide))) ?_
  rintro _ _ ⟨rfl, rfl⟩
  rw [ea]
  by_cases h1 : (xs.filter fun e => !decide (e ∈ ys)).length = 1
  · have h1' : (((xs.filter fun e => !decide (e ∈ ys)).length : Nat) : Int) = 1 := by omega
    simp (maxSteps := 1000000) (disch := omega) only [decide_eq_true h1', S, S1, S2, S3, S4, S5, ST, eq_self, reduceIte, reduceCtorEq, Nat.reduceEqDiff, Nat.reduceAdd]
    refine CallH.by (size_c b H (Nat.lt_of_lt_of_le hb.1 (by decide))) ?_
    rintro _ _ ⟨rfl, rfl⟩
    rw [eb]
    simp (maxSteps := 1000000) (disch := omega) only [S, S1, S2, S3, S4, S5, ST, eq_self, reduceIte, reduceCtorEq, Nat.reduceEqDiff, Nat.reduceAdd]
    refine hQ _ _ _ ?_
    simp (maxSteps := 1000000) (disch := omega) only [S, S1, S2, S3, S4, S5, ST, eq_self, reduceIte, reduceCtorEq, Nat.reduceEqDiff, Nat.reduceAdd]
    unfold jmpB
    rw [decide_eq_true h1, Bool.true_and]
    by_cases h2 : (ys.filter fun e => !decide (e ∈ xs)).length = 1
    · rw [decide_eq_true h2, decide_eq_true (show (((ys.filter fun e => !decide (e ∈ xs)).length : Nat) : Int) = 1 by omega)]
    · rw [decide_eq_false h2, decide_eq_false (show ¬ (((ys.filter fun e => !decide (e ∈ xs)).length : Nat) : Int) = 1 by omega)]
  · have h1' : ¬ (((xs.filter fun e => !decide (e ∈ ys)).length : Nat) : Int) = 1 := by omega
    simp (maxSteps := 1000000) (disch := omega) only [decide_eq_false h1', S, S1, S2, S3, S4, S5, ST, eq_self, reduceIte, reduceCtorEq, Nat.reduceEqDiff, Nat.reduceAdd]
    refine hQ _ _ _ ?_
    simp (maxSteps := 1000000) (disch := omega) only [S, S1, S2, S3, S4, S5, ST, eq_self, reduceIte, reduceCtorEq, Nat.reduceEqDiff, Nat.reduceAdd]
    unfold jmpB
    rw [decide_eq_false h1, Bool.false_and]
end Go.Proofs.Ytlfongfhbkefmaa.Ai
namespace Go.Proofs.Ytlfongfhbkefmaa.Ai
open Go
set_option linter.unusedVariables false
/-- an edge that meets none of some -/
def frE (es : List (Int × Int)) (ed : List Int) (e : Int) : Prop := ed1 es e ∉ seenL es ed ∧ ed2 es e ∉ seenL es ed
instance (es : List (Int × Int)) (ed : List Int) (e : Int) : Decidable (frE es ed e) := by unfold frE; infer_instance
/-- all matchings that begin with some edges and have more, of the last k edges; in order -/
def mall (es : List (Int × Int)) : Nat → List Int → List (List Int)
  | 0, _ => []
  | k + 1, ed => (if frE es ed ((es.length - (k + 1) : Nat) : Int) then (ed ++ [((es.length - (k + 1) : Nat) : Int)]) :: mall es k (ed ++ [((es.length - (k + 1) : Nat) : Int)]) else []) ++ mall es k ed
/-- a fold that may stop -/
def sfold {σ : Type} (cb : σ → List Int → σ × Bool) : List (List Int) → σ → σ × Bool
  | [], s => (s, true)
  | x :: xs, s => if (cb s x).2 = true then sfold cb xs (cb s x).1 else ((cb s x).1, false)
theorem sfold_append {σ : Type} (cb : σ → List Int → σ × Bool) (xs ys : List (List Int)) (s : σ) : sfold cb (xs ++ ys) s = if (sfold cb xs s).2 = true then sfold cb ys (sfold cb xs s).1 else sfold cb xs s := by
  induction xs generalizing s with
  | nil => simp [sfold]
  | cons x xs ih =>
    by_cases h : (cb s x).2 = true
    · have e1 : sfold cb (x :: xs) s = sfold cb xs (cb s x).1 := by rw [sfold, if_pos h]
      have e2 : sfold cb ((x :: xs) ++ ys) s = sfold cb (xs ++ ys) (cb s x).1 := by rw [List.cons_append, sfold, if_pos h]
      rw [e1, e2, ih]
    · have e1 : sfold cb (x :: xs) s = ((cb s x).1, false) := by rw [sfold, if_neg h]
      have e2 : sfold cb ((x :: xs) ++ ys) s = ((cb s x).1, false) := by rw [List.cons_append, sfold, if_neg h]
      rw [e1, e2]; simp
theorem mall_longer (es : List (Int × Int)) : ∀ (k : Nat) (ed : List Int), ∀ x ∈ mall es k ed, ed.length < x.length
  | 0, ed, x, hx => by simp [mall] at hx
  | k + 1, ed, x, hx => by
    simp only [mall, List.mem_append] at hx
    rcases hx with hx | hx
    · split at hx
      · simp only [List.mem_cons] at hx
        rcases hx with rfl | hx
        · simp
        · have := mall_longer es k _ x hx
          simp at this; omega
      · simp at hx
    · exact mall_longer es k ed x hx
/-- those with j edges -/
def mext (es : List (Int × Int)) (k : Nat) (ed : List Int) (j : Nat) : List (List Int) := (ed :: mall es k ed).filter fun x => decide (x.length = j)
theorem mext_done (es : List (Int × Int)) (k : Nat) (ed : List Int) : mext es k ed ed.length = [ed] := by
  unfold mext
  rw [List.filter_cons, if_pos (by simp)]
  have : (mall es k ed).filter (fun x => decide (x.length = ed.length)) = [] := by
    rw [List.filter_eq_nil_iff]
    intro x hx
    have := mall_longer es k ed x hx
    simp; omega
  rw [this]
/-- the loop of the reference: those that go on with one of the last k edges -/
def mlpE (es : List (Int × Int)) (k : Nat) (ed : List Int) (j : Nat) : List (List Int) := (mall es k ed).filter fun x => decide (x.length = j)
theorem mext_loop (es : List (Int × Int)) (k : Nat) (ed : List Int) (j : Nat) (h : ed.length ≠ j) : mext es k ed j = mlpE es k ed j := by
  unfold mext mlpE
  rw [List.filter_cons, if_neg (by simpa using h)]
theorem mlpE_step (es : List (Int × Int)) (k : Nat) (ed : List Int) (j : Nat) : mlpE es (k + 1) ed j = (if frE es ed ((es.length - (k + 1) : Nat) : Int) then mext es k (ed ++ [((es.length - (k + 1) : Nat) : Int)]) j else []) ++ mlpE es k ed j := by
  unfold mlpE mext
  rw [mall, List.filter_append]
  split <;> rfl
/-- the longest, the first of several -/
def bestOf (b : List Int) (x : List Int) : List Int := if b.length < x.length then x else b
theorem foldBest : ∀ (l : List (List Int)) (b r : List Int), l.foldl bestOf b = r → b.length ≤ r.length ∧ (∀ x ∈ l, x.length ≤ r.length) ∧
    (r = b ∨ (b.length < r.length ∧ (l.filter fun x => decide (x.length = r.length)).head? = some r))
  | [], b, r, h => by
    have : b = r := h
    subst this
    exact ⟨Nat.le_refl _, fun x hx => absurd hx (by simp), .inl rfl⟩
  | x :: l, b, r, h => by
    obtain ⟨h1, h2, h3⟩ := foldBest l (bestOf b x) r h
    have hb : b.length ≤ (bestOf b x).length ∧ x.length ≤ (bestOf b x).length := by unfold bestOf; split <;> omega
    refine ⟨by omega, ?_, ?_⟩
    · intro y hy
      rcases List.mem_cons.1 hy with rfl | hy
      · omega
      · exact h2 y hy
    · rcases h3 with h3 | ⟨h3, h4⟩
      · by_cases hx : b.length < x.length
        · right
          have e : bestOf b x = x := by unfold bestOf; rw [if_pos hx]
          rw [e] at h3
          subst h3
          refine ⟨hx, ?_⟩
          rw [List.filter_cons, if_pos (by simp)]; rfl
        · left
          have e : bestOf b x = b := by unfold bestOf; rw [if_neg hx]
          rw [h3, e]
      · right
        refine ⟨by omega, ?_⟩
        rw [List.filter_cons, if_neg (by simp; omega)]
        exact h4
theorem sfold_best (l : List (List Int)) (b : List Int) : sfold (fun b x => (bestOf b x, true)) l b = (l.foldl bestOf b, true) := by
  induction l generalizing b with
  | nil => rfl
  | cons x l ih => simp only [sfold, List.foldl_cons, if_true]; exact ih _
/-- the first of the greatest -/
def mbest (es : List (Int × Int)) : List Int := ([] :: mall es es.length []).foldl bestOf []
theorem mbest_most (es : List (Int × Int)) (j : Nat) (h : (mbest es).length < j) : mext es es.length [] j = [] := by
  unfold mext
  rw [List.filter_eq_nil_iff]
  intro x hx
  have := (foldBest ([] :: mall es es.length []) [] (mbest es) rfl).2.1 x hx
  simp; omega
theorem mbest_at (es : List (Int × Int)) : (mext es es.length [] (mbest es).length).head? = some (mbest es) := by
  unfold mext
  rcases (foldBest ([] :: mall es es.length []) [] (mbest es) rfl).2.2 with h | ⟨_, h⟩
  · have e : mbest es = [] := h
    rw [e]
    rfl
  · exact h
/-- numbers of a range, each once -/
theorem nodupM_le : ∀ (n : Nat) (l : List Int), l.Nodup → (∀ x ∈ l, 0 ≤ x ∧ x < n) → l.length ≤ n
  | 0, l, _, h => by
    cases l with
    | nil => simp
    | cons x l => have := h x (by simp); omega
  | n + 1, l, hd, h => by
    have h1 := nodupM_le n (l.erase (n : Int)) (hd.erase _) (fun x hx => by
      have := (hd.mem_erase_iff).1 hx
      have h2 := h x this.2
      have : x ≠ (n : Int) := this.1
      omega)
    have : l.length ≤ (l.erase (n : Int)).length + 1 := by
      rw [List.length_erase]
      split <;> omega
    omega
/-- nodes of different edges, each once -/
def Mgo (n : Int) (es : List (Int × Int)) (ed : List Int) : Prop := (seenL es ed).Nodup ∧ ∀ z ∈ seenL es ed, 0 ≤ z ∧ z < n
theorem Mgo.nil (n : Int) (es : List (Int × Int)) : Mgo n es [] := ⟨by simp [seenL], fun z hz => by simp [seenL] at hz⟩
theorem Mgo.snoc {n : Int} {es : List (Int × Int)} {ed : List Int} {e : Int} (hg : Grd n es) (h : Mgo n es ed) (he : e.toNat < es.length) (hf : frE es ed e) : Mgo n es (ed ++ [e]) := by
  obtain ⟨a1, a2, a3, _⟩ := hg.2 e.toNat he
  have b1 : ed1 es e < ed2 es e := a2
  have b2 : 0 ≤ ed1 es e := a1
  have b3 : ed2 es e < n := a3
  refine ⟨?_, ?_⟩
  · rw [seenL_snoc, List.nodup_append]
    refine ⟨h.1, ?_, ?_⟩
    · simp; omega
    · intro x hx y hy hxy
      subst hxy
      simp only [List.mem_cons, List.not_mem_nil, or_false] at hy
      rcases hy with rfl | rfl
      · exact hf.1 hx
      · exact hf.2 hx
  · intro z hz
    rw [seenL_snoc, List.mem_append] at hz
    rcases hz with hz | hz
    · exact h.2 z hz
    · simp only [List.mem_cons, List.not_mem_nil, or_false] at hz
      omega
theorem Mgo.all {n : Int} {es : List (Int × Int)} (hg : Grd n es) : ∀ (k : Nat) (ed : List Int), k ≤ es.length → Mgo n es ed → ∀ x ∈ mall es k ed, Mgo n es x
  | 0, ed, _, h, x, hx => by simp [mall] at hx
  | k + 1, ed, hk, h, x, hx => by
    simp only [mall, List.mem_append] at hx
    rcases hx with hx | hx
    · split at hx
      · rename_i hf
        have h2 := h.snoc hg (by rw [Int.toNat_natCast]; omega) hf
        simp only [List.mem_cons] at hx
        rcases hx with rfl | hx
        · exact h2
        · exact Mgo.all hg k _ (by omega) h2 x hx
      · simp at hx
    · exact Mgo.all hg k ed (by omega) h x hx
theorem Mgo.len {n : Int} {es : List (Int × Int)} {ed : List Int} (hn : 0 ≤ n) (h : Mgo n es ed) : 2 * ed.length ≤ n.toNat := by
  have := nodupM_le n.toNat (seenL es ed) h.1 (fun z hz => by have := h.2 z hz; omega)
  rw [seenL_len] at this
  exact this
theorem mbest_len {n : Int} {es : List (Int × Int)} (hg : Grd n es) : 2 * (mbest es).length ≤ n.toNat := by
  have h := mbest_at es
  have hm : mbest es ∈ mext es es.length [] (mbest es).length := List.mem_of_head? h
  unfold mext at hm
  have hm2 := (List.mem_filter.1 hm).1
  simp only [List.mem_cons] at hm2
  rcases hm2 with h0 | h0
  · rw [h0]; simp
  · exact (Mgo.all hg es.length [] (Nat.le_refl _) (Mgo.nil n es) _ h0).len hg.1.1
/-- a graph has at most 28 edges -/
def rnkE (a b : Nat) : Nat := a * (15 - a) / 2 + (b - a - 1)
theorem rnkE_lt : ∀ a b c d : Fin 8, a.1 < b.1 → c.1 < d.1 → (a.1 < c.1 ∨ a.1 = c.1 ∧ b.1 < d.1) → rnkE a.1 b.1 + 1 ≤ rnkE c.1 d.1 := by decide +kernel
theorem rnkE_le : ∀ a b : Fin 8, a.1 < b.1 → rnkE a.1 b.1 ≤ 27 := by decide +kernel
theorem grd_nat {n : Int} {es : List (Int × Int)} (hg : Grd n es) {i : Nat} (hi : i < es.length) : ∃ a b : Fin 8, a.1 < b.1 ∧ es.getD i (0, 0) = ((a.1 : Int), (b.1 : Int)) := by
  obtain ⟨h1, h2, h3, _⟩ := hg.2 i hi
  have := hg.1
  refine ⟨⟨(es.getD i (0, 0)).1.toNat, by omega⟩, ⟨(es.getD i (0, 0)).2.toNat, by omega⟩, by show (es.getD i (0, 0)).1.toNat < (es.getD i (0, 0)).2.toNat; omega, ?_⟩
  apply Prod.ext
  · show _ = (((es.getD i (0, 0)).1.toNat : Nat) : Int); omega
  · show _ = (((es.getD i (0, 0)).2.toNat : Nat) : Int); omega
theorem grd_len {n : Int} {es : List (Int × Int)} (hg : Grd n es) : es.length ≤ 28 := by
  have key : ∀ i, i < es.length → ∃ a b : Fin 8, a.1 < b.1 ∧ es.getD i (0, 0) = ((a.1 : Int), (b.1 : Int)) ∧ i ≤ rnkE a.1 b.1 := by
    intro i
    induction i with
    | zero => intro hi; obtain ⟨a, b, h1, h2⟩ := grd_nat hg hi; exact ⟨a, b, h1, h2, Nat.zero_le _⟩
    | succ i ih =>
      intro hi
      obtain ⟨a, b, h1, h2, h3⟩ := ih (by omega)
      obtain ⟨c, d, k1, k2⟩ := grd_nat hg hi
      have hlt := (hg.2 (i + 1) hi).2.2.2 (by omega)
      rw [Nat.add_sub_cancel, h2, k2] at hlt
      unfold pairLt at hlt
      simp only at hlt
      have := rnkE_lt a b c d h1 k1 (by omega)
      exact ⟨c, d, k1, k2, by omega⟩
  apply Decidable.byContradiction
  intro hc
  obtain ⟨a, b, h1, _, h3⟩ := key 28 (by omega)
  have := rnkE_le a b h1
  omega
end Go.Proofs.Ytlfongfhbkefmaa.Ai
namespace Go.Proofs.Ytlfongfhbkefmaa.Ai
open Go
set_option linter.unusedVariables false
def dblF : Nat → Nat
  | 0 => 1
  | j + 1 => (2 * j + 1) * dblF j
/-- free nodes behind x whose edge with x is not before an edge -/
def freeP (es : List (Int × Int)) (ed : List Int) (x : Int) (k : Nat) (b : Nat) : Bool :=
  decide ((b : Int) ∉ seenL es ed ∧ x < b ∧ 0 < k ∧ ¬ pairLt (x, (b : Int)) (es.getD (es.length - k) (0, 0)))
def freeB (n : Nat) (es : List (Int × Int)) (ed : List Int) (x : Int) (k : Nat) : Nat := (List.range n).countP (freeP es ed x k)
theorem countP_less {α : Type} (p q : α → Bool) : ∀ (l : List α), (∀ x ∈ l, p x = true → q x = true) → l.countP p ≤ l.countP q
  | [], _ => by simp
  | x :: l, h => by
    have ih := countP_less p q l (fun y hy => h y (by simp [hy]))
    have h0 := h x (by simp)
    rw [List.countP_cons, List.countP_cons]
    by_cases hp : p x = true
    · rw [if_pos hp, if_pos (h0 hp)]; omega
    · rw [if_neg hp]; omega
theorem countP_more {α : Type} (p q : α → Bool) : ∀ (l : List α), (∀ x ∈ l, p x = true → q x = true) → (∃ x ∈ l, q x = true ∧ ¬ p x = true) → l.countP p + 1 ≤ l.countP q
  | [], _, h => by obtain ⟨x, hx, _⟩ := h; simp at hx
  | x :: l, h, hx => by
    rw [List.countP_cons, List.countP_cons]
    by_cases hq : q x = true ∧ ¬ p x = true
    · have := countP_less p q l (fun y hy => h y (by simp [hy]))
      rw [if_neg hq.2, if_pos hq.1]; omega
    · have ih := countP_more p q l (fun y hy => h y (by simp [hy])) (by
        obtain ⟨y, hy, h1⟩ := hx
        rcases List.mem_cons.1 hy with rfl | hy
        · exact absurd h1 hq
        · exact ⟨y, hy, h1⟩)
      have h0 := h x (by simp)
      by_cases hp : p x = true
      · rw [if_pos hp, if_pos (h0 hp)]; omega
      · rw [if_neg hp]; omega
theorem perm_cover {n : Int} {es : List (Int × Int)} {M : List Int} (hn : 0 ≤ n) (hM : Mgo n es M) (hl : 2 * M.length = n.toNat) {z : Int} (hz : 0 ≤ z ∧ z < n) : z ∈ seenL es M := by
  apply Decidable.byContradiction
  intro hc
  have hnd : (z :: seenL es M).Nodup := List.nodup_cons.2 ⟨hc, hM.1⟩
  have := nodupM_le n.toNat (z :: seenL es M) hnd (fun y hy => by
    rcases List.mem_cons.1 hy with rfl | hy
    · omega
    · have := hM.2 y hy; omega)
  rw [List.length_cons, seenL_len] at this
  omega
/-- what is added comes from the last k edges -/
theorem mall_new (es : List (Int × Int)) : ∀ (k : Nat) (ed : List Int), k ≤ es.length → ∀ M ∈ mall es k ed, ∃ r, M = ed ++ r ∧ ∀ e ∈ r, ((es.length - k : Nat) : Int) ≤ e ∧ e < es.length
  | 0, ed, _, M, h => by simp [mall] at h
  | k + 1, ed, hk, M, h => by
    simp only [mall, List.mem_append] at h
    rcases h with h | h
    · split at h
      · simp only [List.mem_cons] at h
        rcases h with rfl | h
        · refine ⟨_, rfl, fun e he => ?_⟩
          simp only [List.mem_cons, List.not_mem_nil, or_false] at he
          subst he; omega
        · obtain ⟨r, h1, h2⟩ := mall_new es k _ (by omega) M h
          refine ⟨((es.length - (k + 1) : Nat) : Int) :: r, by rw [h1, List.append_assoc]; rfl, fun e he => ?_⟩
          rcases List.mem_cons.1 he with rfl | he
          · omega
          · have := h2 e he; omega
      · simp at h
    · obtain ⟨r, h1, h2⟩ := mall_new es k ed (by omega) M h
      exact ⟨r, h1, fun e he => by have := h2 e he; omega⟩
theorem seenL_append (es : List (Int × Int)) (xs ys : List Int) : seenL es (xs ++ ys) = seenL es xs ++ seenL es ys := by simp [seenL]
theorem seenL_mem (es : List (Int × Int)) (xs : List Int) (z : Int) : z ∈ seenL es xs ↔ ∃ e ∈ xs, z = ed1 es e ∨ z = ed2 es e := by
  unfold seenL
  simp only [List.mem_flatMap, List.mem_cons, List.not_mem_nil, or_false]
/-- edges ascend -/
theorem grd_asc {n : Int} {es : List (Int × Int)} (hg : Grd n es) {i j : Nat} (hij : i < j) (hj : j < es.length) : pairLt (es.getD i (0, 0)) (es.getD j (0, 0)) := by
  induction j with
  | zero => omega
  | succ j ih =>
    have h1 := (hg.2 (j + 1) hj).2.2.2 (by omega)
    rw [Nat.add_sub_cancel] at h1
    by_cases h : i = j
    · subst h; exact h1
    · have h2 := ih (by omega) (by omega)
      unfold pairLt at h1 h2 ⊢
      omega
theorem grd_asc1 {n : Int} {es : List (Int × Int)} (hg : Grd n es) {i j : Nat} (hij : i ≤ j) (hj : j < es.length) : (es.getD i (0, 0)).1 ≤ (es.getD j (0, 0)).1 := by
  by_cases h : i = j
  · subst h; exact Int.le_refl _
  · have := grd_asc hg (show i < j by omega) hj
    unfold pairLt at this
    omega
theorem mlpE_le {n : Int} {es : List (Int × Int)} (hg : Grd n es) {h D : Nat} (hn : n.toNat = 2 * h) {ed : List Int} (hm : Mgo n es ed) {x : Int} (hx : (0 ≤ x ∧ x < n) ∧ x ∉ seenL es ed) (hmin : ∀ z, 0 ≤ z → z < x → z ∈ seenL es ed)
    (hrec : ∀ k e, k ≤ es.length → e.toNat < es.length → frE es ed e → Mgo n es (ed ++ [e]) → (mext es k (ed ++ [e]) h).length ≤ D) :
    ∀ k, k ≤ es.length → (mlpE es k ed h).length ≤ freeB n.toNat es ed x k * D
  | 0, _ => by simp [mlpE, mall]
  | k + 1, hk => by
    have ih := mlpE_le hg hn hm hx hmin hrec k (by omega)
    have hstep := mlpE_step es k ed h
    generalize he : es.length - (k + 1) = e at hstep
    have hel : e < es.length := by omega
    obtain ⟨a1, a2, a3, _⟩ := hg.2 e hel
    have b1 : ed1 es (e : Int) = (es.getD e (0, 0)).1 := by unfold ed1; rw [Int.toNat_natCast]
    have b2 : ed2 es (e : Int) = (es.getD e (0, 0)).2 := by unfold ed2; rw [Int.toNat_natCast]
    have sub : ∀ b ∈ List.range n.toNat, freeP es ed x k b = true → freeP es ed x (k + 1) b = true := by
      intro b _ hb
      unfold freeP at hb ⊢
      rw [decide_eq_true_iff] at hb ⊢
      refine ⟨hb.1, hb.2.1, by omega, ?_⟩
      rw [he]
      have h1 := hb.2.2.2
      have hk0 := hb.2.2.1
      have h2 := grd_asc hg (show e < es.length - k by omega) (by omega)
      unfold pairLt at h1 h2 ⊢
      simp only at h1 ⊢
      omega
    have mono := countP_less _ _ _ sub
    have skip : ¬ frE es ed (e : Int) → (mlpE es (k + 1) ed h).length ≤ freeB n.toNat es ed x (k + 1) * D := by
      intro hf
      rw [if_neg hf, List.nil_append] at hstep
      rw [hstep]
      exact Nat.le_trans ih (Nat.mul_le_mul_right _ mono)
    rcases Int.lt_trichotomy (es.getD e (0, 0)).1 x with hc | hc | hc
    · refine skip (fun hf => hf.1 ?_)
      rw [b1]
      exact hmin _ a1 hc
    · by_cases hf : frE es ed (e : Int)
      · rw [if_pos hf] at hstep
        rw [hstep, List.length_append]
        have h1 := hrec k (e : Int) (by omega) (by rw [Int.toNat_natCast]; exact hel) hf (hm.snoc hg (by rw [Int.toNat_natCast]; exact hel) hf)
        have more := countP_more _ _ _ sub ⟨(es.getD e (0, 0)).2.toNat, List.mem_range.2 (by omega), by
          unfold freeP
          rw [decide_eq_true_iff]
          have e2 : (((es.getD e (0, 0)).2.toNat : Nat) : Int) = (es.getD e (0, 0)).2 := by omega
          rw [e2]
          refine ⟨?_, by omega, by omega, ?_⟩
          · have := hf.2
            rwa [b2] at this
          · rw [he]
            unfold pairLt
            simp only
            omega, by
          unfold freeP
          rw [decide_eq_true_iff]
          have e2 : (((es.getD e (0, 0)).2.toNat : Nat) : Int) = (es.getD e (0, 0)).2 := by omega
          rw [e2]
          rintro ⟨_, _, h3, h4⟩
          apply h4
          have h2 := grd_asc hg (show e < es.length - k by omega) (by omega)
          unfold pairLt at h2 ⊢
          simp only
          omega⟩
        have : (freeB n.toNat es ed x k + 1) * D ≤ freeB n.toNat es ed x (k + 1) * D := Nat.mul_le_mul_right _ more
        rw [Nat.add_mul, Nat.one_mul] at this
        omega
      · exact skip hf
    · have hnil : mlpE es (k + 1) ed h = [] := by
        unfold mlpE
        rw [List.filter_eq_nil_iff]
        intro M hM hl
        have hl' : M.length = h := of_decide_eq_true hl
        have hMg := Mgo.all hg (k + 1) ed hk hm M hM
        have hin := perm_cover hg.1.1 hMg (by omega) hx.1
        obtain ⟨r, hr, hre⟩ := mall_new es (k + 1) ed hk M hM
        rw [hr, seenL_append, List.mem_append] at hin
        rcases hin with hin | hin
        · exact hx.2 hin
        · rw [seenL_mem] at hin
          obtain ⟨e', he', hz⟩ := hin
          have hrg := hre e' he'
          rw [he] at hrg
          have hle := grd_asc1 hg (show e ≤ e'.toNat by omega) (by omega)
          obtain ⟨_, c2, _, _⟩ := hg.2 e'.toNat (by omega)
          unfold ed1 ed2 at hz
          omega
      rw [hnil]; simp
theorem all_in : ∀ (m : Nat) (l : List Int), (∀ z : Nat, z < m → (z : Int) ∈ l) → m ≤ l.length
  | 0, _, _ => Nat.zero_le _
  | m + 1, l, h => by
    have hm := h m (by omega)
    have := all_in m (l.erase (m : Int)) (fun z hz => (List.mem_erase_of_ne (by omega)).2 (h z (by omega)))
    rw [List.length_erase_of_mem hm] at this
    have : 0 < l.length := List.length_pos_of_mem hm
    omega
theorem least_free (l : List Int) : ∀ m : Nat, (∀ z : Nat, z < m → (z : Int) ∈ l) ∨ ∃ x : Nat, x < m ∧ (x : Int) ∉ l ∧ ∀ z : Nat, z < x → (z : Int) ∈ l
  | 0 => .inl fun z hz => absurd hz (Nat.not_lt_zero z)
  | m + 1 => by
    rcases least_free l m with h | ⟨x, h1, h2, h3⟩
    · by_cases hm : (m : Int) ∈ l
      · left
        intro z hz
        rcases Nat.lt_succ_iff_lt_or_eq.1 hz with g | g
        · exact h z g
        · rw [g]; exact hm
      · exact .inr ⟨m, by omega, hm, h⟩
    · exact .inr ⟨x, by omega, h2, h3⟩
theorem perf_le {n : Int} {es : List (Int × Int)} (hg : Grd n es) {h : Nat} (hn : n.toNat = 2 * h) : ∀ (j : Nat) (ed : List Int), ed.length + j = h → Mgo n es ed → ∀ k, k ≤ es.length → (mext es k ed h).length ≤ dblF j
  | 0, ed, hl, _, k, _ => by
    have : h = ed.length := by omega
    rw [this, mext_done]; simp [dblF]
  | j + 1, ed, hl, hm, k, hk => by
    rw [mext_loop es k ed h (by omega)]
    have hnn := hg.1
    rcases least_free (seenL es ed) n.toNat with hall | ⟨x, h1, h2, h3⟩
    · have := all_in _ _ hall
      rw [seenL_len] at this
      omega
    · have main := mlpE_le hg hn hm (x := (x : Int)) (D := dblF j) ⟨by omega, h2⟩ (fun z hz0 hzx => by
        obtain ⟨y, rfl⟩ : ∃ y : Nat, z = y := ⟨z.toNat, by omega⟩
        exact h3 y (by omega)) (fun k' e hk' he hf hmg => perf_le hg hn j (ed ++ [e]) (by simp; omega) hmg k' hk') k hk
      refine Nat.le_trans main (Nat.mul_le_mul_right _ ?_)
      unfold freeB
      rw [List.countP_eq_length_filter]
      have hnd : ((x : Int) :: (((List.range n.toNat).filter (freeP es ed (x : Int) k)).map fun b : Nat => (b : Int)) ++ seenL es ed).Nodup := by
        have q1 : (((List.range n.toNat).filter (freeP es ed (x : Int) k)).map fun b : Nat => (b : Int)).Nodup := by
          refine List.Pairwise.map _ ?_ (List.nodup_range.filter _)
          intro a b hab e
          exact hab (by omega)
        have q2 : ∀ b ∈ (((List.range n.toNat).filter (freeP es ed (x : Int) k)).map fun b : Nat => (b : Int)), b ∉ seenL es ed ∧ (x : Int) < b := by
          intro b hb
          obtain ⟨c, hc, rfl⟩ := List.mem_map.1 hb
          have := (List.mem_filter.1 hc).2
          unfold freeP at this
          have := of_decide_eq_true this
          exact ⟨this.1, this.2.1⟩
        rw [List.cons_append, List.nodup_cons, List.nodup_append]
        refine ⟨?_, q1, hm.1, ?_⟩
        · rw [List.mem_append, not_or]
          exact ⟨fun hx => by have := (q2 _ hx).2; omega, h2⟩
        · intro a ha b hb hab
          subst hab
          exact (q2 _ ha).1 hb
      have := nodupM_le n.toNat _ hnd (fun z hz => by
        rw [List.cons_append] at hz
        rcases List.mem_cons.1 hz with rfl | hz
        · omega
        · rcases List.mem_append.1 hz with hz | hz
          · obtain ⟨c, hc, rfl⟩ := List.mem_map.1 hz
            have := List.mem_range.1 (List.mem_filter.1 hc).1
            omega
          · have := hm.2 z hz; omega)
      simp only [List.cons_append, List.length_cons, List.length_append, List.length_map, seenL_len] at this
      omega
theorem perfect_le {n : Int} {es : List (Int × Int)} (hg : Grd n es) {h : Nat} (hn : n.toNat = 2 * h) : (mext es es.length [] h).length ≤ 105 := by
  have h1 := perf_le hg hn h [] (by simp) (Mgo.nil n es) es.length (Nat.le_refl _)
  have hnn := hg.1
  have : h = 0 ∨ h = 1 ∨ h = 2 ∨ h = 3 ∨ h = 4 := by omega
  rcases this with rfl | rfl | rfl | rfl | rfl <;> exact Nat.le_trans h1 (by decide)
end Go.Proofs.Ytlfongfhbkefmaa.Ai
