/- Texts of this claim, joined: SrtL, SrtF, JmpS, GrA, AppL, Spc, Adj, MarkL, MarkS, SpR, StpP, Dix, Has, Seq, Perm, DfB, Jmp, TrbE, Clone, Lst, Kps, Joi. -/
import Derived.Test.YtjnefjchconebabProg
import Derived.KernelRfl
import Derived.RangeFuncBox
import Derived.RangeFuncLeaves
import Derived.Shelf.Abstract
import Derived.WalkKit
import Derived.OwnWalkIn
import Derived.TacticsInMore
import Derived.LoopNIn
import Derived.LoopIn
import Derived.Maps.AppendAt
import Derived.Test.YtjnefjchconebabMgLawTst4
namespace Go.Proofs.Ytjnefjchconebab.Ai
open Go
def ords48 : List (Nat × List (Nat × Bool)) := []
def cd48 : Cd := (.seq (.reg [⟨⟨some 4, Op.assign (Operand.const (Value.int IntKind.i64 0)), none⟩, []⟩]) (.seq (.seq (.reg [⟨⟨some 9, Op.move (Operand.tmp 0), none⟩, []⟩,
  ⟨⟨some 10, Op.call { callee := (Callee.builtin Builtin.len), args := #[(Operand.tmp 9)], argTypes := #[38] }, none⟩, []⟩,
  ⟨⟨some 11, Op.move (Operand.const (Value.int IntKind.i64 0)), none⟩, []⟩]) (.block 0 (.loop (.seq (.reg [⟨⟨some 12, Op.binOp BinOp.lss 3 (Operand.tmp 11) (Operand.tmp 10) 3, none⟩, []⟩]) (.seq (.cond (Operand.tmp 12) .skip (.exit 0)) (.seq (.block 1 (.seq (.reg [⟨⟨some 13, Op.move (Operand.tmp 11), none⟩, []⟩,
  ⟨⟨some 14, Op.indexAddr 38 (Operand.tmp 9) (Operand.tmp 11), none⟩, []⟩,
  ⟨⟨some 15, Op.load 3 (Operand.tmp 14), none⟩, []⟩,
  ⟨⟨some 5, Op.assign (Operand.tmp 13), none⟩, []⟩,
  ⟨⟨some 6, Op.assign (Operand.tmp 15), none⟩, []⟩]) (.seq (.seq (.reg [⟨⟨some 16, Op.move (Operand.tmp 5), none⟩, []⟩,
  ⟨⟨some 17, Op.move (Operand.tmp 1), none⟩, []⟩,
  ⟨⟨some 18, Op.call { callee := (Callee.builtin Builtin.len), args := #[(Operand.tmp 17)], argTypes := #[38] }, none⟩, []⟩,
  ⟨⟨some 19, Op.binOp BinOp.geq 3 (Operand.tmp 16) (Operand.tmp 18) 3, none⟩, []⟩]) (.cond (Operand.tmp 19) (.seq (.reg [⟨⟨some 4, Op.assign (Operand.const (Value.int IntKind.i64 1)), none⟩, []⟩]) .ret) .skip)) (.seq (.reg [⟨⟨some 20, Op.move (Operand.tmp 1), none⟩, []⟩,
  ⟨⟨some 21, Op.move (Operand.tmp 5), none⟩, []⟩,
  ⟨⟨some 22, Op.indexAddr 38 (Operand.tmp 20) (Operand.tmp 21), none⟩, []⟩,
  ⟨⟨some 23, Op.load 3 (Operand.tmp 22), none⟩, []⟩,
  ⟨⟨some 7, Op.assign (Operand.tmp 23), none⟩, []⟩]) (.seq (.reg [⟨⟨some 24, Op.move (Operand.tmp 6), none⟩, []⟩,
  ⟨⟨some 25, Op.move (Operand.tmp 7), none⟩, []⟩,
  ⟨⟨some 26, Op.call { callee := (Callee.value (Operand.func 71)), args := #[(Operand.tmp 24), (Operand.tmp 25)], argTypes := #[3, 3] }, none⟩, []⟩,
  ⟨⟨some 8, Op.assign (Operand.tmp 26), none⟩, []⟩]) (.seq (.reg [⟨⟨some 27, Op.move (Operand.tmp 8), none⟩, []⟩,
  ⟨⟨some 28, Op.binOp BinOp.neq 3 (Operand.tmp 27) (Operand.const (Value.int IntKind.i64 0)) 3, none⟩, []⟩]) (.cond (Operand.tmp 28) (.seq (.reg [⟨⟨some 29, Op.move (Operand.tmp 8), none⟩, []⟩,
  ⟨⟨some 4, Op.assign (Operand.tmp 29), none⟩, []⟩]) .ret) .skip))))))) (.reg [⟨⟨some 30, Op.binOp BinOp.add 3 (Operand.tmp 11) (Operand.const (Value.int IntKind.i64 1)) 3, none⟩, []⟩,
  ⟨⟨some 11, Op.move (Operand.tmp 30), none⟩, []⟩]))))))) (.seq (.seq (.reg [⟨⟨some 31, Op.move (Operand.tmp 0), none⟩, []⟩,
  ⟨⟨some 32, Op.call { callee := (Callee.builtin Builtin.len), args := #[(Operand.tmp 31)], argTypes := #[38] }, none⟩, []⟩,
  ⟨⟨some 33, Op.move (Operand.tmp 1), none⟩, []⟩,
  ⟨⟨some 34, Op.call { callee := (Callee.builtin Builtin.len), args := #[(Operand.tmp 33)], argTypes := #[38] }, none⟩, []⟩,
  ⟨⟨some 35, Op.binOp BinOp.lss 3 (Operand.tmp 32) (Operand.tmp 34) 3, none⟩, []⟩]) (.cond (Operand.tmp 35) (.seq (.reg [⟨⟨some 4, Op.assign (Operand.const (Value.int IntKind.i64 (-1))), none⟩, []⟩]) .ret) .skip)) (.seq (.reg [⟨⟨some 4, Op.assign (Operand.const (Value.int IntKind.i64 0)), none⟩, []⟩]) .ret))))
theorem sl48 : slim Try.f48.ntmps ords48 (Try.f48.body.getD .skip) = some cd48 := by kernel_rfl
theorem in48 {args : List Value} {H : AH} {R : Value → AH → Prop} (hl : args.length = 2) (h : ∀ (Q : Exit → Sl → AH → Prop), (∀ e s H, endA Try.prog [ResultVar.tmp 4] R e s H → Q e s H) → wpC Try.prog cd48 Q (enterA args) H) : ACalls Try.prog 48 args H R :=
  ACalls.intro (by kernel_rfl) Try.func48 rfl (by kernel_rfl) sl48 hl (of_decide_eq_true (by kernel_rfl)) (by kernel_rfl) h
def ords104 : List (Nat × List (Nat × Bool)) := [(1, [(0, false), (1, false), (2, false), (3, false), (4, false), (5, false), (6, false), (7, false), (8, false), (9, true), (10, false)])]
def cd104 : Cd := (.seq (.reg [⟨⟨some 10, Op.assign (Operand.const (Value.int IntKind.i64 0)), none⟩, []⟩,
  ⟨⟨some 11, Op.assign (Operand.const (Value.int IntKind.i64 0)), none⟩, []⟩]) (.seq (.seq (.reg [⟨⟨some 12, Op.move (Operand.tmp 4), none⟩, []⟩,
  ⟨⟨some 13, Op.move (Operand.tmp 0), none⟩, []⟩,
  ⟨⟨some 14, Op.move (Operand.tmp 2), none⟩, []⟩,
  ⟨⟨some 15, Op.indexAddr 26 (Operand.tmp 13) (Operand.tmp 14), none⟩, []⟩,
  ⟨⟨some 16, Op.load 38 (Operand.tmp 15), none⟩, []⟩,
  ⟨⟨some 17, Op.move (Operand.tmp 0), none⟩, []⟩,
  ⟨⟨some 18, Op.move (Operand.tmp 1), none⟩, []⟩,
  ⟨⟨some 19, Op.indexAddr 26 (Operand.tmp 17) (Operand.tmp 18), none⟩, []⟩,
  ⟨⟨some 20, Op.load 38 (Operand.tmp 19), none⟩, []⟩,
  ⟨⟨some 21, Op.call { callee := (Callee.value (Operand.tmp 12)), args := #[(Operand.tmp 16), (Operand.tmp 20)], argTypes := #[38, 38] }, none⟩, []⟩,
  ⟨⟨some 22, Op.binOp BinOp.lss 3 (Operand.tmp 21) (Operand.const (Value.int IntKind.i64 0)) 3, none⟩, []⟩]) (.cond (Operand.tmp 22) (.seq (.reg [⟨⟨some 23, Op.move (Operand.tmp 3), none⟩, []⟩,
  ⟨⟨some 24, Op.nilCheck (Operand.tmp 23), none⟩, []⟩,
  ⟨⟨some 25, Op.load 3 (Operand.tmp 24), none⟩, []⟩,
  ⟨⟨some 26, Op.binOp BinOp.add 3 (Operand.tmp 25) (Operand.const (Value.int IntKind.i64 1)) 3, none⟩, []⟩,
  ⟨⟨some 27, Op.nilCheck (Operand.tmp 23), none⟩, []⟩,
  ⟨⟨none, Op.store 3 (Operand.tmp 27) (Operand.tmp 26), none⟩, []⟩]) (.seq (.reg [⟨⟨some 28, Op.move (Operand.tmp 2), none⟩, []⟩,
  ⟨⟨some 29, Op.move (Operand.tmp 1), none⟩, []⟩,
  ⟨⟨some 10, Op.assign (Operand.tmp 28), none⟩, []⟩,
  ⟨⟨some 11, Op.assign (Operand.tmp 29), none⟩, []⟩]) .ret)) .skip)) (.seq (.reg [⟨⟨some 30, Op.move (Operand.tmp 1), none⟩, []⟩,
  ⟨⟨some 31, Op.move (Operand.tmp 2), none⟩, []⟩,
  ⟨⟨some 10, Op.assign (Operand.tmp 30), none⟩, []⟩,
  ⟨⟨some 11, Op.assign (Operand.tmp 31), none⟩, []⟩]) .ret)))
theorem sl104 : slim Try.f104.ntmps ords104 (Try.f104.body.getD .skip) = some cd104 := by kernel_rfl
theorem in104 {args : List Value} {H : AH} {R : Value → AH → Prop} (hl : args.length = 5) (h : ∀ (Q : Exit → Sl → AH → Prop), (∀ e s H, endA Try.prog [ResultVar.tmp 10, ResultVar.tmp 11] R e s H → Q e s H) → wpC Try.prog cd104 Q (enterA args) H) : ACalls Try.prog 104 args H R :=
  ACalls.intro (by kernel_rfl) Try.func104 rfl (by kernel_rfl) sl104 hl (of_decide_eq_true (by kernel_rfl)) (by kernel_rfl) h
def ords103 : List (Nat × List (Nat × Bool)) := []
def cd103 : Cd := (.seq (.reg [⟨⟨some 12, Op.assign (Operand.const (Value.int IntKind.i64 0)), none⟩, []⟩]) (.seq (.reg [⟨⟨some 14, Op.move (Operand.tmp 0), none⟩, []⟩,
  ⟨⟨some 15, Op.move (Operand.tmp 1), none⟩, []⟩,
  ⟨⟨some 16, Op.move (Operand.tmp 2), none⟩, []⟩,
  ⟨⟨some 17, Op.move (Operand.tmp 4), none⟩, []⟩,
  ⟨⟨some 18, Op.move (Operand.tmp 5), none⟩, []⟩,
  ⟨⟨some 19, Op.call { callee := (Callee.value (Operand.func 104)), args := #[(Operand.tmp 14), (Operand.tmp 15), (Operand.tmp 16), (Operand.tmp 17), (Operand.tmp 18)], argTypes := #[26, 3, 3, 116, 57] }, none⟩, []⟩,
  ⟨⟨some 13, Op.move (Operand.tmp 19), none⟩, []⟩,
  ⟨⟨some 20, Op.extract (Operand.tmp 13) 0, none⟩, []⟩,
  ⟨⟨some 21, Op.extract (Operand.tmp 13) 1, none⟩, []⟩,
  ⟨⟨some 1, Op.assign (Operand.tmp 20), none⟩, []⟩,
  ⟨⟨some 2, Op.assign (Operand.tmp 21), none⟩, []⟩]) (.seq (.reg [⟨⟨some 23, Op.move (Operand.tmp 0), none⟩, []⟩,
  ⟨⟨some 24, Op.move (Operand.tmp 2), none⟩, []⟩,
  ⟨⟨some 25, Op.move (Operand.tmp 3), none⟩, []⟩,
  ⟨⟨some 26, Op.move (Operand.tmp 4), none⟩, []⟩,
  ⟨⟨some 27, Op.move (Operand.tmp 5), none⟩, []⟩,
  ⟨⟨some 28, Op.call { callee := (Callee.value (Operand.func 104)), args := #[(Operand.tmp 23), (Operand.tmp 24), (Operand.tmp 25), (Operand.tmp 26), (Operand.tmp 27)], argTypes := #[26, 3, 3, 116, 57] }, none⟩, []⟩,
  ⟨⟨some 22, Op.move (Operand.tmp 28), none⟩, []⟩,
  ⟨⟨some 29, Op.extract (Operand.tmp 22) 0, none⟩, []⟩,
  ⟨⟨some 30, Op.extract (Operand.tmp 22) 1, none⟩, []⟩,
  ⟨⟨some 2, Op.assign (Operand.tmp 29), none⟩, []⟩,
  ⟨⟨some 3, Op.assign (Operand.tmp 30), none⟩, []⟩]) (.seq (.reg [⟨⟨some 32, Op.move (Operand.tmp 0), none⟩, []⟩,
  ⟨⟨some 33, Op.move (Operand.tmp 1), none⟩, []⟩,
  ⟨⟨some 34, Op.move (Operand.tmp 2), none⟩, []⟩,
  ⟨⟨some 35, Op.move (Operand.tmp 4), none⟩, []⟩,
  ⟨⟨some 36, Op.move (Operand.tmp 5), none⟩, []⟩,
  ⟨⟨some 37, Op.call { callee := (Callee.value (Operand.func 104)), args := #[(Operand.tmp 32), (Operand.tmp 33), (Operand.tmp 34), (Operand.tmp 35), (Operand.tmp 36)], argTypes := #[26, 3, 3, 116, 57] }, none⟩, []⟩,
  ⟨⟨some 31, Op.move (Operand.tmp 37), none⟩, []⟩,
  ⟨⟨some 38, Op.extract (Operand.tmp 31) 0, none⟩, []⟩,
  ⟨⟨some 39, Op.extract (Operand.tmp 31) 1, none⟩, []⟩,
  ⟨⟨some 1, Op.assign (Operand.tmp 38), none⟩, []⟩,
  ⟨⟨some 2, Op.assign (Operand.tmp 39), none⟩, []⟩]) (.seq (.reg [⟨⟨some 40, Op.move (Operand.tmp 2), none⟩, []⟩,
  ⟨⟨some 12, Op.assign (Operand.tmp 40), none⟩, []⟩]) .ret)))))
theorem sl103 : slim Try.f103.ntmps ords103 (Try.f103.body.getD .skip) = some cd103 := by kernel_rfl
theorem in103 {args : List Value} {H : AH} {R : Value → AH → Prop} (hl : args.length = 6) (h : ∀ (Q : Exit → Sl → AH → Prop), (∀ e s H, endA Try.prog [ResultVar.tmp 12] R e s H → Q e s H) → wpC Try.prog cd103 Q (enterA args) H) : ACalls Try.prog 103 args H R :=
  ACalls.intro (by kernel_rfl) Try.func103 rfl (by kernel_rfl) sl103 hl (of_decide_eq_true (by kernel_rfl)) (by kernel_rfl) h
def ords102 : List (Nat × List (Nat × Bool)) := []
def cd102 : Cd := (.seq (.reg [⟨⟨some 8, Op.assign (Operand.const (Value.int IntKind.i64 0)), none⟩, []⟩]) (.seq (.reg [⟨⟨some 9, Op.move (Operand.tmp 0), none⟩, []⟩,
  ⟨⟨some 10, Op.move (Operand.tmp 1), none⟩, []⟩,
  ⟨⟨some 11, Op.binOp BinOp.sub 3 (Operand.tmp 10) (Operand.const (Value.int IntKind.i64 1)) 3, none⟩, []⟩,
  ⟨⟨some 12, Op.move (Operand.tmp 1), none⟩, []⟩,
  ⟨⟨some 13, Op.move (Operand.tmp 1), none⟩, []⟩,
  ⟨⟨some 14, Op.binOp BinOp.add 3 (Operand.tmp 13) (Operand.const (Value.int IntKind.i64 1)) 3, none⟩, []⟩,
  ⟨⟨some 15, Op.move (Operand.tmp 2), none⟩, []⟩,
  ⟨⟨some 16, Op.move (Operand.tmp 3), none⟩, []⟩,
  ⟨⟨some 17, Op.call { callee := (Callee.value (Operand.func 103)), args := #[(Operand.tmp 9), (Operand.tmp 11), (Operand.tmp 12), (Operand.tmp 14), (Operand.tmp 15), (Operand.tmp 16)], argTypes := #[26, 3, 3, 3, 116, 57] }, none⟩, []⟩,
  ⟨⟨some 8, Op.assign (Operand.tmp 17), none⟩, []⟩]) .ret))
theorem sl102 : slim Try.f102.ntmps ords102 (Try.f102.body.getD .skip) = some cd102 := by kernel_rfl
theorem in102 {args : List Value} {H : AH} {R : Value → AH → Prop} (hl : args.length = 4) (h : ∀ (Q : Exit → Sl → AH → Prop), (∀ e s H, endA Try.prog [ResultVar.tmp 8] R e s H → Q e s H) → wpC Try.prog cd102 Q (enterA args) H) : ACalls Try.prog 102 args H R :=
  ACalls.intro (by kernel_rfl) Try.func102 rfl (by kernel_rfl) sl102 hl (of_decide_eq_true (by kernel_rfl)) (by kernel_rfl) h
def ords87 : List (Nat × List (Nat × Bool)) := [(5, [(0, false), (1, false), (2, false), (3, false), (4, false), (5, false), (6, false), (7, false), (8, false), (9, false), (10, false), (11, false), (12, false), (13, false), (14, true), (15, false), (16, false), (17, false)]), (11, [(0, false), (1, false), (2, false), (3, false), (4, false), (5, false), (6, false), (7, false), (8, false), (9, false), (10, false), (11, false), (12, false), (13, false), (14, false), (15, true), (16, false), (17, true)]), (16, [(0, false), (1, false), (2, false), (3, false), (4, false), (5, false), (6, false), (7, false), (8, false), (9, false), (10, true), (11, false), (12, false)]), (17, [(0, false), (1, false), (2, false), (3, false), (4, false), (5, false), (6, false), (7, false), (8, false), (9, false), (10, false), (11, false), (12, false), (13, false), (14, false), (15, true), (16, false), (17, true)]), (22, [(0, false), (1, false), (2, false), (3, false), (4, false), (5, false), (6, false), (7, false), (8, false), (9, false), (10, true), (11, false), (12, false)]), (23, [(0, false), (1, false), (2, false), (3, false), (4, false), (5, false), (6, false), (7, false), (8, false), (9, false), (10, false), (11, false), (12, false), (13, false), (14, false), (15, true), (16, false), (17, true)])]
def cd87 : Cd := (.seq (.reg [⟨⟨some 8, Op.assign (Operand.const (Value.bool false)), none⟩, []⟩]) (.seq (.reg [⟨⟨some 13, Op.move (Operand.tmp 1), none⟩, []⟩,
  ⟨⟨some 14, Op.binOp BinOp.add 3 (Operand.tmp 13) (Operand.const (Value.int IntKind.i64 1)) 3, none⟩, []⟩,
  ⟨⟨some 9, Op.assign (Operand.tmp 14), none⟩, []⟩]) (.seq (.seq (.reg [⟨⟨some 10, Op.assign (Operand.const (Value.int IntKind.i64 0)), none⟩, []⟩]) (.block 0 (.loop (.seq (.seq (.reg [⟨⟨some 15, Op.move (Operand.tmp 10), none⟩, []⟩,
  ⟨⟨some 16, Op.binOp BinOp.lss 3 (Operand.tmp 15) (Operand.const (Value.int IntKind.i64 5)) 3, none⟩, []⟩]) (.cond (Operand.tmp 16) .skip (.exit 0))) (.seq (.block 1 (.seq (.block 2 (.loop (.seq (.seq (.reg [⟨⟨some 19, Op.move (Operand.tmp 9), none⟩, []⟩,
  ⟨⟨some 20, Op.move (Operand.tmp 2), none⟩, []⟩,
  ⟨⟨some 21, Op.binOp BinOp.lss 3 (Operand.tmp 19) (Operand.tmp 20) 3, none⟩, []⟩,
  ⟨⟨some 22, Op.move (Operand.tmp 21), none⟩, []⟩,
  ⟨⟨some 23, Op.move (Operand.tmp 3), some (22, true)⟩, []⟩,
  ⟨⟨some 24, Op.move (Operand.tmp 0), some (22, true)⟩, []⟩,
  ⟨⟨some 25, Op.move (Operand.tmp 9), some (22, true)⟩, []⟩,
  ⟨⟨some 26, Op.indexAddr 26 (Operand.tmp 24) (Operand.tmp 25), some (22, true)⟩, []⟩,
  ⟨⟨some 27, Op.load 38 (Operand.tmp 26), some (22, true)⟩, []⟩,
  ⟨⟨some 28, Op.move (Operand.tmp 0), some (22, true)⟩, []⟩,
  ⟨⟨some 29, Op.move (Operand.tmp 9), some (22, true)⟩, []⟩,
  ⟨⟨some 30, Op.binOp BinOp.sub 3 (Operand.tmp 29) (Operand.const (Value.int IntKind.i64 1)) 3, some (22, true)⟩, []⟩,
  ⟨⟨some 31, Op.indexAddr 26 (Operand.tmp 28) (Operand.tmp 30), some (22, true)⟩, []⟩,
  ⟨⟨some 32, Op.load 38 (Operand.tmp 31), some (22, true)⟩, []⟩,
  ⟨⟨some 33, Op.call { callee := (Callee.value (Operand.tmp 23)), args := #[(Operand.tmp 27), (Operand.tmp 32)], argTypes := #[38, 38] }, some (22, true)⟩, []⟩,
  ⟨⟨some 34, Op.binOp BinOp.lss 3 (Operand.tmp 33) (Operand.const (Value.int IntKind.i64 0)) 3, some (22, true)⟩, []⟩,
  ⟨⟨some 35, Op.unOp UnOp.not 4 (Operand.tmp 34), some (22, true)⟩, []⟩,
  ⟨⟨some 36, Op.pick (Operand.tmp 22) (Operand.tmp 35) (Operand.const (Value.bool false)), none⟩, []⟩]) (.cond (Operand.tmp 36) .skip (.exit 2))) (.block 3 (.reg [⟨⟨some 37, Op.move (Operand.tmp 9), none⟩, []⟩,
  ⟨⟨some 38, Op.binOp BinOp.add 3 (Operand.tmp 37) (Operand.const (Value.int IntKind.i64 1)) 3, none⟩, []⟩,
  ⟨⟨some 9, Op.assign (Operand.tmp 38), none⟩, []⟩]))))) (.seq (.seq (.reg [⟨⟨some 39, Op.move (Operand.tmp 9), none⟩, []⟩,
  ⟨⟨some 40, Op.move (Operand.tmp 2), none⟩, []⟩,
  ⟨⟨some 41, Op.binOp BinOp.eql 3 (Operand.tmp 39) (Operand.tmp 40) 3, none⟩, []⟩]) (.cond (Operand.tmp 41) (.seq (.reg [⟨⟨some 8, Op.assign (Operand.const (Value.bool true)), none⟩, []⟩]) .ret) .skip)) (.seq (.seq (.reg [⟨⟨some 42, Op.move (Operand.tmp 2), none⟩, []⟩,
  ⟨⟨some 43, Op.move (Operand.tmp 1), none⟩, []⟩,
  ⟨⟨some 44, Op.binOp BinOp.sub 3 (Operand.tmp 42) (Operand.tmp 43) 3, none⟩, []⟩,
  ⟨⟨some 45, Op.binOp BinOp.lss 3 (Operand.tmp 44) (Operand.const (Value.int IntKind.i64 50)) 3, none⟩, []⟩]) (.cond (Operand.tmp 45) (.seq (.reg [⟨⟨some 8, Op.assign (Operand.const (Value.bool false)), none⟩, []⟩]) .ret) .skip)) (.seq (.reg [⟨⟨some 46, Op.move (Operand.tmp 0), none⟩, []⟩,
  ⟨⟨some 47, Op.move (Operand.tmp 9), none⟩, []⟩,
  ⟨⟨some 48, Op.move (Operand.tmp 0), none⟩, []⟩,
  ⟨⟨some 49, Op.move (Operand.tmp 9), none⟩, []⟩,
  ⟨⟨some 50, Op.binOp BinOp.sub 3 (Operand.tmp 49) (Operand.const (Value.int IntKind.i64 1)) 3, none⟩, []⟩,
  ⟨⟨some 51, Op.move (Operand.tmp 0), none⟩, []⟩,
  ⟨⟨some 52, Op.move (Operand.tmp 9), none⟩, []⟩,
  ⟨⟨some 53, Op.binOp BinOp.sub 3 (Operand.tmp 52) (Operand.const (Value.int IntKind.i64 1)) 3, none⟩, []⟩,
  ⟨⟨some 54, Op.indexAddr 26 (Operand.tmp 51) (Operand.tmp 53), none⟩, []⟩,
  ⟨⟨some 55, Op.load 38 (Operand.tmp 54), none⟩, []⟩,
  ⟨⟨some 56, Op.move (Operand.tmp 0), none⟩, []⟩,
  ⟨⟨some 57, Op.move (Operand.tmp 9), none⟩, []⟩,
  ⟨⟨some 58, Op.indexAddr 26 (Operand.tmp 56) (Operand.tmp 57), none⟩, []⟩,
  ⟨⟨some 59, Op.load 38 (Operand.tmp 58), none⟩, []⟩,
  ⟨⟨some 60, Op.indexAddr 26 (Operand.tmp 46) (Operand.tmp 47), none⟩, []⟩,
  ⟨⟨none, Op.store 38 (Operand.tmp 60) (Operand.tmp 55), none⟩, []⟩,
  ⟨⟨some 61, Op.indexAddr 26 (Operand.tmp 48) (Operand.tmp 50), none⟩, []⟩,
  ⟨⟨none, Op.store 38 (Operand.tmp 61) (Operand.tmp 59), none⟩, []⟩]) (.seq (.seq (.reg [⟨⟨some 62, Op.move (Operand.tmp 9), none⟩, []⟩,
  ⟨⟨some 63, Op.move (Operand.tmp 1), none⟩, []⟩,
  ⟨⟨some 64, Op.binOp BinOp.sub 3 (Operand.tmp 62) (Operand.tmp 63) 3, none⟩, []⟩,
  ⟨⟨some 65, Op.binOp BinOp.geq 3 (Operand.tmp 64) (Operand.const (Value.int IntKind.i64 2)) 3, none⟩, []⟩]) (.cond (Operand.tmp 65) (.seq (.reg [⟨⟨some 66, Op.move (Operand.tmp 9), none⟩, []⟩,
  ⟨⟨some 67, Op.binOp BinOp.sub 3 (Operand.tmp 66) (Operand.const (Value.int IntKind.i64 1)) 3, none⟩, []⟩,
  ⟨⟨some 11, Op.assign (Operand.tmp 67), none⟩, []⟩]) (.block 4 (.loop (.seq (.seq (.reg [⟨⟨some 68, Op.move (Operand.tmp 11), none⟩, []⟩,
  ⟨⟨some 69, Op.binOp BinOp.geq 3 (Operand.tmp 68) (Operand.const (Value.int IntKind.i64 1)) 3, none⟩, []⟩]) (.cond (Operand.tmp 69) .skip (.exit 4))) (.seq (.block 5 (.seq (.seq (.reg [⟨⟨some 72, Op.move (Operand.tmp 3), none⟩, []⟩,
  ⟨⟨some 73, Op.move (Operand.tmp 0), none⟩, []⟩,
  ⟨⟨some 74, Op.move (Operand.tmp 11), none⟩, []⟩,
  ⟨⟨some 75, Op.indexAddr 26 (Operand.tmp 73) (Operand.tmp 74), none⟩, []⟩,
  ⟨⟨some 76, Op.load 38 (Operand.tmp 75), none⟩, []⟩,
  ⟨⟨some 77, Op.move (Operand.tmp 0), none⟩, []⟩,
  ⟨⟨some 78, Op.move (Operand.tmp 11), none⟩, []⟩,
  ⟨⟨some 79, Op.binOp BinOp.sub 3 (Operand.tmp 78) (Operand.const (Value.int IntKind.i64 1)) 3, none⟩, []⟩,
  ⟨⟨some 80, Op.indexAddr 26 (Operand.tmp 77) (Operand.tmp 79), none⟩, []⟩,
  ⟨⟨some 81, Op.load 38 (Operand.tmp 80), none⟩, []⟩,
  ⟨⟨some 82, Op.call { callee := (Callee.value (Operand.tmp 72)), args := #[(Operand.tmp 76), (Operand.tmp 81)], argTypes := #[38, 38] }, none⟩, []⟩,
  ⟨⟨some 83, Op.binOp BinOp.lss 3 (Operand.tmp 82) (Operand.const (Value.int IntKind.i64 0)) 3, none⟩, []⟩,
  ⟨⟨some 84, Op.unOp UnOp.not 4 (Operand.tmp 83), none⟩, []⟩]) (.cond (Operand.tmp 84) (.exit 4) .skip)) (.reg [⟨⟨some 85, Op.move (Operand.tmp 0), none⟩, []⟩,
  ⟨⟨some 86, Op.move (Operand.tmp 11), none⟩, []⟩,
  ⟨⟨some 87, Op.move (Operand.tmp 0), none⟩, []⟩,
  ⟨⟨some 88, Op.move (Operand.tmp 11), none⟩, []⟩,
  ⟨⟨some 89, Op.binOp BinOp.sub 3 (Operand.tmp 88) (Operand.const (Value.int IntKind.i64 1)) 3, none⟩, []⟩,
  ⟨⟨some 90, Op.move (Operand.tmp 0), none⟩, []⟩,
  ⟨⟨some 91, Op.move (Operand.tmp 11), none⟩, []⟩,
  ⟨⟨some 92, Op.binOp BinOp.sub 3 (Operand.tmp 91) (Operand.const (Value.int IntKind.i64 1)) 3, none⟩, []⟩,
  ⟨⟨some 93, Op.indexAddr 26 (Operand.tmp 90) (Operand.tmp 92), none⟩, []⟩,
  ⟨⟨some 94, Op.load 38 (Operand.tmp 93), none⟩, []⟩,
  ⟨⟨some 95, Op.move (Operand.tmp 0), none⟩, []⟩,
  ⟨⟨some 96, Op.move (Operand.tmp 11), none⟩, []⟩,
  ⟨⟨some 97, Op.indexAddr 26 (Operand.tmp 95) (Operand.tmp 96), none⟩, []⟩,
  ⟨⟨some 98, Op.load 38 (Operand.tmp 97), none⟩, []⟩,
  ⟨⟨some 99, Op.indexAddr 26 (Operand.tmp 85) (Operand.tmp 86), none⟩, []⟩,
  ⟨⟨none, Op.store 38 (Operand.tmp 99) (Operand.tmp 94), none⟩, []⟩,
  ⟨⟨some 100, Op.indexAddr 26 (Operand.tmp 87) (Operand.tmp 89), none⟩, []⟩,
  ⟨⟨none, Op.store 38 (Operand.tmp 100) (Operand.tmp 98), none⟩, []⟩]))) (.reg [⟨⟨some 70, Op.move (Operand.tmp 11), none⟩, []⟩,
  ⟨⟨some 71, Op.binOp BinOp.sub 3 (Operand.tmp 70) (Operand.const (Value.int IntKind.i64 1)) 3, none⟩, []⟩,
  ⟨⟨some 11, Op.assign (Operand.tmp 71), none⟩, []⟩])))))) .skip)) (.seq (.reg [⟨⟨some 101, Op.move (Operand.tmp 2), none⟩, []⟩,
  ⟨⟨some 102, Op.move (Operand.tmp 9), none⟩, []⟩,
  ⟨⟨some 103, Op.binOp BinOp.sub 3 (Operand.tmp 101) (Operand.tmp 102) 3, none⟩, []⟩,
  ⟨⟨some 104, Op.binOp BinOp.geq 3 (Operand.tmp 103) (Operand.const (Value.int IntKind.i64 2)) 3, none⟩, []⟩]) (.cond (Operand.tmp 104) (.seq (.reg [⟨⟨some 105, Op.move (Operand.tmp 9), none⟩, []⟩,
  ⟨⟨some 106, Op.binOp BinOp.add 3 (Operand.tmp 105) (Operand.const (Value.int IntKind.i64 1)) 3, none⟩, []⟩,
  ⟨⟨some 12, Op.assign (Operand.tmp 106), none⟩, []⟩]) (.block 6 (.loop (.seq (.seq (.reg [⟨⟨some 107, Op.move (Operand.tmp 12), none⟩, []⟩,
  ⟨⟨some 108, Op.move (Operand.tmp 2), none⟩, []⟩,
  ⟨⟨some 109, Op.binOp BinOp.lss 3 (Operand.tmp 107) (Operand.tmp 108) 3, none⟩, []⟩]) (.cond (Operand.tmp 109) .skip (.exit 6))) (.seq (.block 7 (.seq (.seq (.reg [⟨⟨some 112, Op.move (Operand.tmp 3), none⟩, []⟩,
  ⟨⟨some 113, Op.move (Operand.tmp 0), none⟩, []⟩,
  ⟨⟨some 114, Op.move (Operand.tmp 12), none⟩, []⟩,
  ⟨⟨some 115, Op.indexAddr 26 (Operand.tmp 113) (Operand.tmp 114), none⟩, []⟩,
  ⟨⟨some 116, Op.load 38 (Operand.tmp 115), none⟩, []⟩,
  ⟨⟨some 117, Op.move (Operand.tmp 0), none⟩, []⟩,
  ⟨⟨some 118, Op.move (Operand.tmp 12), none⟩, []⟩,
  ⟨⟨some 119, Op.binOp BinOp.sub 3 (Operand.tmp 118) (Operand.const (Value.int IntKind.i64 1)) 3, none⟩, []⟩,
  ⟨⟨some 120, Op.indexAddr 26 (Operand.tmp 117) (Operand.tmp 119), none⟩, []⟩,
  ⟨⟨some 121, Op.load 38 (Operand.tmp 120), none⟩, []⟩,
  ⟨⟨some 122, Op.call { callee := (Callee.value (Operand.tmp 112)), args := #[(Operand.tmp 116), (Operand.tmp 121)], argTypes := #[38, 38] }, none⟩, []⟩,
  ⟨⟨some 123, Op.binOp BinOp.lss 3 (Operand.tmp 122) (Operand.const (Value.int IntKind.i64 0)) 3, none⟩, []⟩,
  ⟨⟨some 124, Op.unOp UnOp.not 4 (Operand.tmp 123), none⟩, []⟩]) (.cond (Operand.tmp 124) (.exit 6) .skip)) (.reg [⟨⟨some 125, Op.move (Operand.tmp 0), none⟩, []⟩,
  ⟨⟨some 126, Op.move (Operand.tmp 12), none⟩, []⟩,
  ⟨⟨some 127, Op.move (Operand.tmp 0), none⟩, []⟩,
  ⟨⟨some 128, Op.move (Operand.tmp 12), none⟩, []⟩,
  ⟨⟨some 129, Op.binOp BinOp.sub 3 (Operand.tmp 128) (Operand.const (Value.int IntKind.i64 1)) 3, none⟩, []⟩,
  ⟨⟨some 130, Op.move (Operand.tmp 0), none⟩, []⟩,
  ⟨⟨some 131, Op.move (Operand.tmp 12), none⟩, []⟩,
  ⟨⟨some 132, Op.binOp BinOp.sub 3 (Operand.tmp 131) (Operand.const (Value.int IntKind.i64 1)) 3, none⟩, []⟩,
  ⟨⟨some 133, Op.indexAddr 26 (Operand.tmp 130) (Operand.tmp 132), none⟩, []⟩,
  ⟨⟨some 134, Op.load 38 (Operand.tmp 133), none⟩, []⟩,
  ⟨⟨some 135, Op.move (Operand.tmp 0), none⟩, []⟩,
  ⟨⟨some 136, Op.move (Operand.tmp 12), none⟩, []⟩,
  ⟨⟨some 137, Op.indexAddr 26 (Operand.tmp 135) (Operand.tmp 136), none⟩, []⟩,
  ⟨⟨some 138, Op.load 38 (Operand.tmp 137), none⟩, []⟩,
  ⟨⟨some 139, Op.indexAddr 26 (Operand.tmp 125) (Operand.tmp 126), none⟩, []⟩,
  ⟨⟨none, Op.store 38 (Operand.tmp 139) (Operand.tmp 134), none⟩, []⟩,
  ⟨⟨some 140, Op.indexAddr 26 (Operand.tmp 127) (Operand.tmp 129), none⟩, []⟩,
  ⟨⟨none, Op.store 38 (Operand.tmp 140) (Operand.tmp 138), none⟩, []⟩]))) (.reg [⟨⟨some 110, Op.move (Operand.tmp 12), none⟩, []⟩,
  ⟨⟨some 111, Op.binOp BinOp.add 3 (Operand.tmp 110) (Operand.const (Value.int IntKind.i64 1)) 3, none⟩, []⟩,
  ⟨⟨some 12, Op.assign (Operand.tmp 111), none⟩, []⟩])))))) .skip)))))))) (.reg [⟨⟨some 17, Op.move (Operand.tmp 10), none⟩, []⟩,
  ⟨⟨some 18, Op.binOp BinOp.add 3 (Operand.tmp 17) (Operand.const (Value.int IntKind.i64 1)) 3, none⟩, []⟩,
  ⟨⟨some 10, Op.assign (Operand.tmp 18), none⟩, []⟩])))))) (.seq (.reg [⟨⟨some 8, Op.assign (Operand.const (Value.bool false)), none⟩, []⟩]) .ret))))
theorem sl87 : slim Try.f87.ntmps ords87 (Try.f87.body.getD .skip) = some cd87 := by kernel_rfl
theorem in87 {args : List Value} {H : AH} {R : Value → AH → Prop} (hl : args.length = 4) (h : ∀ (Q : Exit → Sl → AH → Prop), (∀ e s H, endA Try.prog [ResultVar.tmp 8] R e s H → Q e s H) → wpC Try.prog cd87 Q (enterA args) H) : ACalls Try.prog 87 args H R :=
  ACalls.intro (by kernel_rfl) Try.func87 rfl (by kernel_rfl) sl87 hl (of_decide_eq_true (by kernel_rfl)) (by kernel_rfl) h
def ords82 : List (Nat × List (Nat × Bool)) := [(4, [(0, false), (1, false), (2, false), (3, false), (4, false), (5, false), (6, false), (7, false), (8, false), (9, false), (10, false), (11, false), (12, false), (13, false), (14, true), (15, false), (16, false)]), (6, [(0, false), (1, false), (2, false), (3, false), (4, false), (5, false), (6, false), (7, false), (8, false), (9, false), (10, false), (11, false), (12, false), (13, false), (14, false), (15, true), (16, false), (17, true)])]
def cd82 : Cd := (.seq (.reg [⟨⟨some 10, Op.move (Operand.tmp 1), none⟩, []⟩,
  ⟨⟨some 11, Op.binOp BinOp.add 3 (Operand.tmp 10) (Operand.const (Value.int IntKind.i64 1)) 3, none⟩, []⟩,
  ⟨⟨some 8, Op.assign (Operand.tmp 11), none⟩, []⟩]) (.block 0 (.loop (.seq (.seq (.reg [⟨⟨some 12, Op.move (Operand.tmp 8), none⟩, []⟩,
  ⟨⟨some 13, Op.move (Operand.tmp 2), none⟩, []⟩,
  ⟨⟨some 14, Op.binOp BinOp.lss 3 (Operand.tmp 12) (Operand.tmp 13) 3, none⟩, []⟩]) (.cond (Operand.tmp 14) .skip (.exit 0))) (.seq (.block 1 (.seq (.reg [⟨⟨some 17, Op.move (Operand.tmp 8), none⟩, []⟩,
  ⟨⟨some 9, Op.assign (Operand.tmp 17), none⟩, []⟩]) (.block 2 (.loop (.seq (.seq (.reg [⟨⟨some 18, Op.move (Operand.tmp 9), none⟩, []⟩,
  ⟨⟨some 19, Op.move (Operand.tmp 1), none⟩, []⟩,
  ⟨⟨some 20, Op.binOp BinOp.gtr 3 (Operand.tmp 18) (Operand.tmp 19) 3, none⟩, []⟩,
  ⟨⟨some 21, Op.move (Operand.tmp 20), none⟩, []⟩,
  ⟨⟨some 22, Op.move (Operand.tmp 3), some (21, true)⟩, []⟩,
  ⟨⟨some 23, Op.move (Operand.tmp 0), some (21, true)⟩, []⟩,
  ⟨⟨some 24, Op.move (Operand.tmp 9), some (21, true)⟩, []⟩,
  ⟨⟨some 25, Op.indexAddr 26 (Operand.tmp 23) (Operand.tmp 24), some (21, true)⟩, []⟩,
  ⟨⟨some 26, Op.load 38 (Operand.tmp 25), some (21, true)⟩, []⟩,
  ⟨⟨some 27, Op.move (Operand.tmp 0), some (21, true)⟩, []⟩,
  ⟨⟨some 28, Op.move (Operand.tmp 9), some (21, true)⟩, []⟩,
  ⟨⟨some 29, Op.binOp BinOp.sub 3 (Operand.tmp 28) (Operand.const (Value.int IntKind.i64 1)) 3, some (21, true)⟩, []⟩,
  ⟨⟨some 30, Op.indexAddr 26 (Operand.tmp 27) (Operand.tmp 29), some (21, true)⟩, []⟩,
  ⟨⟨some 31, Op.load 38 (Operand.tmp 30), some (21, true)⟩, []⟩,
  ⟨⟨some 32, Op.call { callee := (Callee.value (Operand.tmp 22)), args := #[(Operand.tmp 26), (Operand.tmp 31)], argTypes := #[38, 38] }, some (21, true)⟩, []⟩,
  ⟨⟨some 33, Op.binOp BinOp.lss 3 (Operand.tmp 32) (Operand.const (Value.int IntKind.i64 0)) 3, some (21, true)⟩, []⟩,
  ⟨⟨some 34, Op.pick (Operand.tmp 21) (Operand.tmp 33) (Operand.const (Value.bool false)), none⟩, []⟩]) (.cond (Operand.tmp 34) .skip (.exit 2))) (.seq (.block 3 (.reg [⟨⟨some 37, Op.move (Operand.tmp 0), none⟩, []⟩,
  ⟨⟨some 38, Op.move (Operand.tmp 9), none⟩, []⟩,
  ⟨⟨some 39, Op.move (Operand.tmp 0), none⟩, []⟩,
  ⟨⟨some 40, Op.move (Operand.tmp 9), none⟩, []⟩,
  ⟨⟨some 41, Op.binOp BinOp.sub 3 (Operand.tmp 40) (Operand.const (Value.int IntKind.i64 1)) 3, none⟩, []⟩,
  ⟨⟨some 42, Op.move (Operand.tmp 0), none⟩, []⟩,
  ⟨⟨some 43, Op.move (Operand.tmp 9), none⟩, []⟩,
  ⟨⟨some 44, Op.binOp BinOp.sub 3 (Operand.tmp 43) (Operand.const (Value.int IntKind.i64 1)) 3, none⟩, []⟩,
  ⟨⟨some 45, Op.indexAddr 26 (Operand.tmp 42) (Operand.tmp 44), none⟩, []⟩,
  ⟨⟨some 46, Op.load 38 (Operand.tmp 45), none⟩, []⟩,
  ⟨⟨some 47, Op.move (Operand.tmp 0), none⟩, []⟩,
  ⟨⟨some 48, Op.move (Operand.tmp 9), none⟩, []⟩,
  ⟨⟨some 49, Op.indexAddr 26 (Operand.tmp 47) (Operand.tmp 48), none⟩, []⟩,
  ⟨⟨some 50, Op.load 38 (Operand.tmp 49), none⟩, []⟩,
  ⟨⟨some 51, Op.indexAddr 26 (Operand.tmp 37) (Operand.tmp 38), none⟩, []⟩,
  ⟨⟨none, Op.store 38 (Operand.tmp 51) (Operand.tmp 46), none⟩, []⟩,
  ⟨⟨some 52, Op.indexAddr 26 (Operand.tmp 39) (Operand.tmp 41), none⟩, []⟩,
  ⟨⟨none, Op.store 38 (Operand.tmp 52) (Operand.tmp 50), none⟩, []⟩])) (.reg [⟨⟨some 35, Op.move (Operand.tmp 9), none⟩, []⟩,
  ⟨⟨some 36, Op.binOp BinOp.sub 3 (Operand.tmp 35) (Operand.const (Value.int IntKind.i64 1)) 3, none⟩, []⟩,
  ⟨⟨some 9, Op.assign (Operand.tmp 36), none⟩, []⟩]))))))) (.reg [⟨⟨some 15, Op.move (Operand.tmp 8), none⟩, []⟩,
  ⟨⟨some 16, Op.binOp BinOp.add 3 (Operand.tmp 15) (Operand.const (Value.int IntKind.i64 1)) 3, none⟩, []⟩,
  ⟨⟨some 8, Op.assign (Operand.tmp 16), none⟩, []⟩]))))))
theorem sl82 : slim Try.f82.ntmps ords82 (Try.f82.body.getD .skip) = some cd82 := by kernel_rfl
theorem in82 {args : List Value} {H : AH} {R : Value → AH → Prop} (hl : args.length = 4) (h : ∀ (Q : Exit → Sl → AH → Prop), (∀ e s H, endA Try.prog [] R e s H → Q e s H) → wpC Try.prog cd82 Q (enterA args) H) : ACalls Try.prog 82 args H R :=
  ACalls.intro (by kernel_rfl) Try.func82 rfl (by kernel_rfl) sl82 hl (of_decide_eq_true (by kernel_rfl)) (by kernel_rfl) h
def ords85 : List (Nat × List (Nat × Bool)) := []
def cd85 : Cd := (.seq (.reg [⟨⟨some 8, Op.assign (Operand.const (Value.int IntKind.i64 0)), none⟩, []⟩,
  ⟨⟨some 9, Op.assign (Operand.const (Value.int IntKind.i64 0)), none⟩, []⟩]) (.seq (.reg [⟨⟨some 15, Op.move (Operand.tmp 2), none⟩, []⟩,
  ⟨⟨some 16, Op.move (Operand.tmp 1), none⟩, []⟩,
  ⟨⟨some 17, Op.binOp BinOp.sub 3 (Operand.tmp 15) (Operand.tmp 16) 3, none⟩, []⟩,
  ⟨⟨some 10, Op.assign (Operand.tmp 17), none⟩, []⟩]) (.seq (.reg [⟨⟨some 11, Op.alloc 3, none⟩, []⟩]) (.seq (.reg [⟨⟨some 18, Op.move (Operand.tmp 1), none⟩, []⟩,
  ⟨⟨some 19, Op.move (Operand.tmp 10), none⟩, []⟩,
  ⟨⟨some 20, Op.binOp BinOp.quo 3 (Operand.tmp 19) (Operand.const (Value.int IntKind.i64 4)) 3, none⟩, []⟩,
  ⟨⟨some 21, Op.binOp BinOp.mul 3 (Operand.tmp 20) (Operand.const (Value.int IntKind.i64 1)) 3, none⟩, []⟩,
  ⟨⟨some 22, Op.binOp BinOp.add 3 (Operand.tmp 18) (Operand.tmp 21) 3, none⟩, []⟩,
  ⟨⟨some 12, Op.assign (Operand.tmp 22), none⟩, []⟩]) (.seq (.reg [⟨⟨some 23, Op.move (Operand.tmp 1), none⟩, []⟩,
  ⟨⟨some 24, Op.move (Operand.tmp 10), none⟩, []⟩,
  ⟨⟨some 25, Op.binOp BinOp.quo 3 (Operand.tmp 24) (Operand.const (Value.int IntKind.i64 4)) 3, none⟩, []⟩,
  ⟨⟨some 26, Op.binOp BinOp.mul 3 (Operand.tmp 25) (Operand.const (Value.int IntKind.i64 2)) 3, none⟩, []⟩,
  ⟨⟨some 27, Op.binOp BinOp.add 3 (Operand.tmp 23) (Operand.tmp 26) 3, none⟩, []⟩,
  ⟨⟨some 13, Op.assign (Operand.tmp 27), none⟩, []⟩]) (.seq (.reg [⟨⟨some 28, Op.move (Operand.tmp 1), none⟩, []⟩,
  ⟨⟨some 29, Op.move (Operand.tmp 10), none⟩, []⟩,
  ⟨⟨some 30, Op.binOp BinOp.quo 3 (Operand.tmp 29) (Operand.const (Value.int IntKind.i64 4)) 3, none⟩, []⟩,
  ⟨⟨some 31, Op.binOp BinOp.mul 3 (Operand.tmp 30) (Operand.const (Value.int IntKind.i64 3)) 3, none⟩, []⟩,
  ⟨⟨some 32, Op.binOp BinOp.add 3 (Operand.tmp 28) (Operand.tmp 31) 3, none⟩, []⟩,
  ⟨⟨some 14, Op.assign (Operand.tmp 32), none⟩, []⟩]) (.seq (.seq (.reg [⟨⟨some 33, Op.move (Operand.tmp 10), none⟩, []⟩,
  ⟨⟨some 34, Op.binOp BinOp.geq 3 (Operand.tmp 33) (Operand.const (Value.int IntKind.i64 8)) 3, none⟩, []⟩]) (.cond (Operand.tmp 34) (.seq (.seq (.reg [⟨⟨some 35, Op.move (Operand.tmp 10), none⟩, []⟩,
  ⟨⟨some 36, Op.binOp BinOp.geq 3 (Operand.tmp 35) (Operand.const (Value.int IntKind.i64 50)) 3, none⟩, []⟩]) (.cond (Operand.tmp 36) (.seq (.reg [⟨⟨some 37, Op.move (Operand.tmp 0), none⟩, []⟩,
  ⟨⟨some 38, Op.move (Operand.tmp 12), none⟩, []⟩,
  ⟨⟨some 39, Op.move (Operand.tmp 3), none⟩, []⟩,
  ⟨⟨some 40, Op.call { callee := (Callee.value (Operand.func 102)), args := #[(Operand.tmp 37), (Operand.tmp 38), (Operand.tmp 11), (Operand.tmp 39)], argTypes := #[26, 3, 116, 57] }, none⟩, []⟩,
  ⟨⟨some 12, Op.assign (Operand.tmp 40), none⟩, []⟩]) (.seq (.reg [⟨⟨some 41, Op.move (Operand.tmp 0), none⟩, []⟩,
  ⟨⟨some 42, Op.move (Operand.tmp 13), none⟩, []⟩,
  ⟨⟨some 43, Op.move (Operand.tmp 3), none⟩, []⟩,
  ⟨⟨some 44, Op.call { callee := (Callee.value (Operand.func 102)), args := #[(Operand.tmp 41), (Operand.tmp 42), (Operand.tmp 11), (Operand.tmp 43)], argTypes := #[26, 3, 116, 57] }, none⟩, []⟩,
  ⟨⟨some 13, Op.assign (Operand.tmp 44), none⟩, []⟩]) (.reg [⟨⟨some 45, Op.move (Operand.tmp 0), none⟩, []⟩,
  ⟨⟨some 46, Op.move (Operand.tmp 14), none⟩, []⟩,
  ⟨⟨some 47, Op.move (Operand.tmp 3), none⟩, []⟩,
  ⟨⟨some 48, Op.call { callee := (Callee.value (Operand.func 102)), args := #[(Operand.tmp 45), (Operand.tmp 46), (Operand.tmp 11), (Operand.tmp 47)], argTypes := #[26, 3, 116, 57] }, none⟩, []⟩,
  ⟨⟨some 14, Op.assign (Operand.tmp 48), none⟩, []⟩]))) .skip)) (.reg [⟨⟨some 49, Op.move (Operand.tmp 0), none⟩, []⟩,
  ⟨⟨some 50, Op.move (Operand.tmp 12), none⟩, []⟩,
  ⟨⟨some 51, Op.move (Operand.tmp 13), none⟩, []⟩,
  ⟨⟨some 52, Op.move (Operand.tmp 14), none⟩, []⟩,
  ⟨⟨some 53, Op.move (Operand.tmp 3), none⟩, []⟩,
  ⟨⟨some 54, Op.call { callee := (Callee.value (Operand.func 103)), args := #[(Operand.tmp 49), (Operand.tmp 50), (Operand.tmp 51), (Operand.tmp 52), (Operand.tmp 11), (Operand.tmp 53)], argTypes := #[26, 3, 3, 3, 116, 57] }, none⟩, []⟩,
  ⟨⟨some 13, Op.assign (Operand.tmp 54), none⟩, []⟩])) .skip)) (.seq (.reg [⟨⟨some 55, Op.load 3 (Operand.tmp 11), none⟩, []⟩]) (.block 0 (.seq (.reg [⟨⟨some 58, Op.binOp BinOp.eql 3 (Operand.tmp 55) (Operand.const (Value.int IntKind.i64 0)) 3, none⟩, []⟩,
  ⟨⟨some 57, Op.assign (Operand.tmp 58), none⟩, []⟩]) (.cond (Operand.tmp 57) (.seq (.reg [⟨⟨some 59, Op.move (Operand.tmp 13), none⟩, []⟩,
  ⟨⟨some 8, Op.assign (Operand.tmp 59), none⟩, []⟩,
  ⟨⟨some 9, Op.assign (Operand.const (Value.int IntKind.i64 1)), none⟩, []⟩]) .ret) (.seq (.reg [⟨⟨some 61, Op.binOp BinOp.eql 3 (Operand.tmp 55) (Operand.const (Value.int IntKind.i64 12)) 3, none⟩, []⟩,
  ⟨⟨some 60, Op.assign (Operand.tmp 61), none⟩, []⟩]) (.cond (Operand.tmp 60) (.seq (.reg [⟨⟨some 62, Op.move (Operand.tmp 13), none⟩, []⟩,
  ⟨⟨some 8, Op.assign (Operand.tmp 62), none⟩, []⟩,
  ⟨⟨some 9, Op.assign (Operand.const (Value.int IntKind.i64 2)), none⟩, []⟩]) .ret) (.seq (.reg [⟨⟨some 56, Op.move (Operand.tmp 13), none⟩, []⟩,
  ⟨⟨some 8, Op.assign (Operand.tmp 56), none⟩, []⟩,
  ⟨⟨some 9, Op.assign (Operand.const (Value.int IntKind.i64 0)), none⟩, []⟩]) .ret))))))))))))))
theorem sl85 : slim Try.f85.ntmps ords85 (Try.f85.body.getD .skip) = some cd85 := by kernel_rfl
theorem in85 {args : List Value} {H : AH} {R : Value → AH → Prop} (hl : args.length = 4) (h : ∀ (Q : Exit → Sl → AH → Prop), (∀ e s H, endA Try.prog [ResultVar.tmp 8, ResultVar.tmp 9] R e s H → Q e s H) → wpC Try.prog cd85 Q (enterA args) H) : ACalls Try.prog 85 args H R :=
  ACalls.intro (by kernel_rfl) Try.func85 rfl (by kernel_rfl) sl85 hl (of_decide_eq_true (by kernel_rfl)) (by kernel_rfl) h
def ords69 : List (Nat × List (Nat × Bool)) := [(17, [(0, false), (1, false), (2, false), (3, false), (4, false), (5, false), (6, false), (7, false), (8, false), (9, false), (10, false), (11, false), (12, false), (13, true), (14, false), (15, false), (16, false)])]
def cd69 : Cd := (.seq (.reg [⟨⟨some 10, Op.assign (Operand.const (Value.bool true)), none⟩, []⟩]) (.seq (.reg [⟨⟨some 11, Op.assign (Operand.const (Value.bool true)), none⟩, []⟩]) (.block 0 (.loop (.block 1 (.seq (.reg [⟨⟨some 21, Op.move (Operand.tmp 2), none⟩, []⟩,
  ⟨⟨some 22, Op.move (Operand.tmp 1), none⟩, []⟩,
  ⟨⟨some 23, Op.binOp BinOp.sub 3 (Operand.tmp 21) (Operand.tmp 22) 3, none⟩, []⟩,
  ⟨⟨some 12, Op.assign (Operand.tmp 23), none⟩, []⟩]) (.seq (.seq (.reg [⟨⟨some 24, Op.move (Operand.tmp 12), none⟩, []⟩,
  ⟨⟨some 25, Op.binOp BinOp.leq 3 (Operand.tmp 24) (Operand.const (Value.int IntKind.i64 12)) 3, none⟩, []⟩]) (.cond (Operand.tmp 25) (.seq (.reg [⟨⟨some 26, Op.move (Operand.tmp 0), none⟩, []⟩,
  ⟨⟨some 27, Op.move (Operand.tmp 1), none⟩, []⟩,
  ⟨⟨some 28, Op.move (Operand.tmp 2), none⟩, []⟩,
  ⟨⟨some 29, Op.move (Operand.tmp 4), none⟩, []⟩,
  ⟨⟨some 30, Op.call { callee := (Callee.value (Operand.func 82)), args := #[(Operand.tmp 26), (Operand.tmp 27), (Operand.tmp 28), (Operand.tmp 29)], argTypes := #[26, 3, 3, 57] }, none⟩, []⟩]) .ret) .skip)) (.seq (.seq (.reg [⟨⟨some 31, Op.move (Operand.tmp 3), none⟩, []⟩,
  ⟨⟨some 32, Op.binOp BinOp.eql 3 (Operand.tmp 31) (Operand.const (Value.int IntKind.i64 0)) 3, none⟩, []⟩]) (.cond (Operand.tmp 32) (.seq (.reg [⟨⟨some 33, Op.move (Operand.tmp 0), none⟩, []⟩,
  ⟨⟨some 34, Op.move (Operand.tmp 1), none⟩, []⟩,
  ⟨⟨some 35, Op.move (Operand.tmp 2), none⟩, []⟩,
  ⟨⟨some 36, Op.move (Operand.tmp 4), none⟩, []⟩,
  ⟨⟨some 37, Op.call { callee := (Callee.value (Operand.func 83)), args := #[(Operand.tmp 33), (Operand.tmp 34), (Operand.tmp 35), (Operand.tmp 36)], argTypes := #[26, 3, 3, 57] }, none⟩, []⟩]) .ret) .skip)) (.seq (.seq (.reg [⟨⟨some 38, Op.move (Operand.tmp 10), none⟩, []⟩,
  ⟨⟨some 39, Op.unOp UnOp.not 4 (Operand.tmp 38), none⟩, []⟩]) (.cond (Operand.tmp 39) (.seq (.reg [⟨⟨some 40, Op.move (Operand.tmp 0), none⟩, []⟩,
  ⟨⟨some 41, Op.move (Operand.tmp 1), none⟩, []⟩,
  ⟨⟨some 42, Op.move (Operand.tmp 2), none⟩, []⟩,
  ⟨⟨some 43, Op.move (Operand.tmp 4), none⟩, []⟩,
  ⟨⟨some 44, Op.call { callee := (Callee.value (Operand.func 84)), args := #[(Operand.tmp 40), (Operand.tmp 41), (Operand.tmp 42), (Operand.tmp 43)], argTypes := #[26, 3, 3, 57] }, none⟩, []⟩]) (.reg [⟨⟨some 45, Op.move (Operand.tmp 3), none⟩, []⟩,
  ⟨⟨some 46, Op.binOp BinOp.sub 3 (Operand.tmp 45) (Operand.const (Value.int IntKind.i64 1)) 3, none⟩, []⟩,
  ⟨⟨some 3, Op.assign (Operand.tmp 46), none⟩, []⟩])) .skip)) (.seq (.reg [⟨⟨some 48, Op.move (Operand.tmp 0), none⟩, []⟩,
  ⟨⟨some 49, Op.move (Operand.tmp 1), none⟩, []⟩,
  ⟨⟨some 50, Op.move (Operand.tmp 2), none⟩, []⟩,
  ⟨⟨some 51, Op.move (Operand.tmp 4), none⟩, []⟩,
  ⟨⟨some 52, Op.call { callee := (Callee.value (Operand.func 85)), args := #[(Operand.tmp 48), (Operand.tmp 49), (Operand.tmp 50), (Operand.tmp 51)], argTypes := #[26, 3, 3, 57] }, none⟩, []⟩,
  ⟨⟨some 47, Op.move (Operand.tmp 52), none⟩, []⟩,
  ⟨⟨some 53, Op.extract (Operand.tmp 47) 0, none⟩, []⟩,
  ⟨⟨some 54, Op.extract (Operand.tmp 47) 1, none⟩, []⟩,
  ⟨⟨some 13, Op.assign (Operand.tmp 53), none⟩, []⟩,
  ⟨⟨some 14, Op.assign (Operand.tmp 54), none⟩, []⟩]) (.seq (.seq (.reg [⟨⟨some 55, Op.move (Operand.tmp 14), none⟩, []⟩,
  ⟨⟨some 56, Op.binOp BinOp.eql 99 (Operand.tmp 55) (Operand.const (Value.int IntKind.i64 2)) 99, none⟩, []⟩]) (.cond (Operand.tmp 56) (.seq (.reg [⟨⟨some 57, Op.move (Operand.tmp 0), none⟩, []⟩,
  ⟨⟨some 58, Op.move (Operand.tmp 1), none⟩, []⟩,
  ⟨⟨some 59, Op.move (Operand.tmp 2), none⟩, []⟩,
  ⟨⟨some 60, Op.move (Operand.tmp 4), none⟩, []⟩,
  ⟨⟨some 61, Op.call { callee := (Callee.value (Operand.func 86)), args := #[(Operand.tmp 57), (Operand.tmp 58), (Operand.tmp 59), (Operand.tmp 60)], argTypes := #[26, 3, 3, 57] }, none⟩, []⟩]) (.seq (.reg [⟨⟨some 62, Op.move (Operand.tmp 2), none⟩, []⟩,
  ⟨⟨some 63, Op.binOp BinOp.sub 3 (Operand.tmp 62) (Operand.const (Value.int IntKind.i64 1)) 3, none⟩, []⟩,
  ⟨⟨some 64, Op.move (Operand.tmp 13), none⟩, []⟩,
  ⟨⟨some 65, Op.move (Operand.tmp 1), none⟩, []⟩,
  ⟨⟨some 66, Op.binOp BinOp.sub 3 (Operand.tmp 64) (Operand.tmp 65) 3, none⟩, []⟩,
  ⟨⟨some 67, Op.binOp BinOp.sub 3 (Operand.tmp 63) (Operand.tmp 66) 3, none⟩, []⟩,
  ⟨⟨some 13, Op.assign (Operand.tmp 67), none⟩, []⟩]) (.reg [⟨⟨some 14, Op.assign (Operand.const (Value.int IntKind.i64 1)), none⟩, []⟩]))) .skip)) (.seq (.seq (.reg [⟨⟨some 68, Op.move (Operand.tmp 10), none⟩, []⟩,
  ⟨⟨some 69, Op.move (Operand.tmp 68), none⟩, []⟩,
  ⟨⟨some 70, Op.move (Operand.tmp 11), some (69, true)⟩, []⟩,
  ⟨⟨some 71, Op.pick (Operand.tmp 69) (Operand.tmp 70) (Operand.const (Value.bool false)), none⟩, []⟩,
  ⟨⟨some 72, Op.move (Operand.tmp 71), none⟩, []⟩,
  ⟨⟨some 73, Op.move (Operand.tmp 14), some (72, true)⟩, []⟩,
  ⟨⟨some 74, Op.binOp BinOp.eql 99 (Operand.tmp 73) (Operand.const (Value.int IntKind.i64 1)) 99, some (72, true)⟩, []⟩,
  ⟨⟨some 75, Op.pick (Operand.tmp 72) (Operand.tmp 74) (Operand.const (Value.bool false)), none⟩, []⟩]) (.cond (Operand.tmp 75) (.seq (.reg [⟨⟨some 76, Op.move (Operand.tmp 0), none⟩, []⟩,
  ⟨⟨some 77, Op.move (Operand.tmp 1), none⟩, []⟩,
  ⟨⟨some 78, Op.move (Operand.tmp 2), none⟩, []⟩,
  ⟨⟨some 79, Op.move (Operand.tmp 4), none⟩, []⟩,
  ⟨⟨some 80, Op.call { callee := (Callee.value (Operand.func 87)), args := #[(Operand.tmp 76), (Operand.tmp 77), (Operand.tmp 78), (Operand.tmp 79)], argTypes := #[26, 3, 3, 57] }, none⟩, []⟩]) (.cond (Operand.tmp 80) .ret .skip)) .skip)) (.seq (.seq (.reg [⟨⟨some 81, Op.move (Operand.tmp 1), none⟩, []⟩,
  ⟨⟨some 82, Op.binOp BinOp.gtr 3 (Operand.tmp 81) (Operand.const (Value.int IntKind.i64 0)) 3, none⟩, []⟩,
  ⟨⟨some 83, Op.move (Operand.tmp 82), none⟩, []⟩,
  ⟨⟨some 84, Op.move (Operand.tmp 4), some (83, true)⟩, []⟩,
  ⟨⟨some 85, Op.move (Operand.tmp 0), some (83, true)⟩, []⟩,
  ⟨⟨some 86, Op.move (Operand.tmp 1), some (83, true)⟩, []⟩,
  ⟨⟨some 87, Op.binOp BinOp.sub 3 (Operand.tmp 86) (Operand.const (Value.int IntKind.i64 1)) 3, some (83, true)⟩, []⟩,
  ⟨⟨some 88, Op.indexAddr 26 (Operand.tmp 85) (Operand.tmp 87), some (83, true)⟩, []⟩,
  ⟨⟨some 89, Op.load 38 (Operand.tmp 88), some (83, true)⟩, []⟩,
  ⟨⟨some 90, Op.move (Operand.tmp 0), some (83, true)⟩, []⟩,
  ⟨⟨some 91, Op.move (Operand.tmp 13), some (83, true)⟩, []⟩,
  ⟨⟨some 92, Op.indexAddr 26 (Operand.tmp 90) (Operand.tmp 91), some (83, true)⟩, []⟩,
  ⟨⟨some 93, Op.load 38 (Operand.tmp 92), some (83, true)⟩, []⟩,
  ⟨⟨some 94, Op.call { callee := (Callee.value (Operand.tmp 84)), args := #[(Operand.tmp 89), (Operand.tmp 93)], argTypes := #[38, 38] }, some (83, true)⟩, []⟩,
  ⟨⟨some 95, Op.binOp BinOp.lss 3 (Operand.tmp 94) (Operand.const (Value.int IntKind.i64 0)) 3, some (83, true)⟩, []⟩,
  ⟨⟨some 96, Op.unOp UnOp.not 4 (Operand.tmp 95), some (83, true)⟩, []⟩,
  ⟨⟨some 97, Op.pick (Operand.tmp 83) (Operand.tmp 96) (Operand.const (Value.bool false)), none⟩, []⟩]) (.cond (Operand.tmp 97) (.seq (.reg [⟨⟨some 98, Op.move (Operand.tmp 0), none⟩, []⟩,
  ⟨⟨some 99, Op.move (Operand.tmp 1), none⟩, []⟩,
  ⟨⟨some 100, Op.move (Operand.tmp 2), none⟩, []⟩,
  ⟨⟨some 101, Op.move (Operand.tmp 13), none⟩, []⟩,
  ⟨⟨some 102, Op.move (Operand.tmp 4), none⟩, []⟩,
  ⟨⟨some 103, Op.call { callee := (Callee.value (Operand.func 88)), args := #[(Operand.tmp 98), (Operand.tmp 99), (Operand.tmp 100), (Operand.tmp 101), (Operand.tmp 102)], argTypes := #[26, 3, 3, 3, 57] }, none⟩, []⟩,
  ⟨⟨some 15, Op.assign (Operand.tmp 103), none⟩, []⟩]) (.seq (.reg [⟨⟨some 104, Op.move (Operand.tmp 15), none⟩, []⟩,
  ⟨⟨some 1, Op.assign (Operand.tmp 104), none⟩, []⟩]) (.exit 1))) .skip)) (.seq (.reg [⟨⟨some 106, Op.move (Operand.tmp 0), none⟩, []⟩,
  ⟨⟨some 107, Op.move (Operand.tmp 1), none⟩, []⟩,
  ⟨⟨some 108, Op.move (Operand.tmp 2), none⟩, []⟩,
  ⟨⟨some 109, Op.move (Operand.tmp 13), none⟩, []⟩,
  ⟨⟨some 110, Op.move (Operand.tmp 4), none⟩, []⟩,
  ⟨⟨some 111, Op.call { callee := (Callee.value (Operand.func 89)), args := #[(Operand.tmp 106), (Operand.tmp 107), (Operand.tmp 108), (Operand.tmp 109), (Operand.tmp 110)], argTypes := #[26, 3, 3, 3, 57] }, none⟩, []⟩,
  ⟨⟨some 105, Op.move (Operand.tmp 111), none⟩, []⟩,
  ⟨⟨some 112, Op.extract (Operand.tmp 105) 0, none⟩, []⟩,
  ⟨⟨some 113, Op.extract (Operand.tmp 105) 1, none⟩, []⟩,
  ⟨⟨some 16, Op.assign (Operand.tmp 112), none⟩, []⟩,
  ⟨⟨some 17, Op.assign (Operand.tmp 113), none⟩, []⟩]) (.seq (.reg [⟨⟨some 114, Op.move (Operand.tmp 17), none⟩, []⟩,
  ⟨⟨some 11, Op.assign (Operand.tmp 114), none⟩, []⟩]) (.seq (.reg [⟨⟨some 115, Op.move (Operand.tmp 16), none⟩, []⟩,
  ⟨⟨some 116, Op.move (Operand.tmp 1), none⟩, []⟩,
  ⟨⟨some 117, Op.binOp BinOp.sub 3 (Operand.tmp 115) (Operand.tmp 116) 3, none⟩, []⟩,
  ⟨⟨some 118, Op.move (Operand.tmp 2), none⟩, []⟩,
  ⟨⟨some 119, Op.move (Operand.tmp 16), none⟩, []⟩,
  ⟨⟨some 120, Op.binOp BinOp.sub 3 (Operand.tmp 118) (Operand.tmp 119) 3, none⟩, []⟩,
  ⟨⟨some 18, Op.assign (Operand.tmp 117), none⟩, []⟩,
  ⟨⟨some 19, Op.assign (Operand.tmp 120), none⟩, []⟩]) (.seq (.reg [⟨⟨some 121, Op.move (Operand.tmp 12), none⟩, []⟩,
  ⟨⟨some 122, Op.binOp BinOp.quo 3 (Operand.tmp 121) (Operand.const (Value.int IntKind.i64 8)) 3, none⟩, []⟩,
  ⟨⟨some 20, Op.assign (Operand.tmp 122), none⟩, []⟩]) (.seq (.reg [⟨⟨some 123, Op.move (Operand.tmp 18), none⟩, []⟩,
  ⟨⟨some 124, Op.move (Operand.tmp 19), none⟩, []⟩,
  ⟨⟨some 125, Op.binOp BinOp.lss 3 (Operand.tmp 123) (Operand.tmp 124) 3, none⟩, []⟩]) (.cond (Operand.tmp 125) (.seq (.reg [⟨⟨some 126, Op.move (Operand.tmp 18), none⟩, []⟩,
  ⟨⟨some 127, Op.move (Operand.tmp 20), none⟩, []⟩,
  ⟨⟨some 128, Op.binOp BinOp.geq 3 (Operand.tmp 126) (Operand.tmp 127) 3, none⟩, []⟩,
  ⟨⟨some 10, Op.assign (Operand.tmp 128), none⟩, []⟩]) (.seq (.reg [⟨⟨some 129, Op.move (Operand.tmp 0), none⟩, []⟩,
  ⟨⟨some 130, Op.move (Operand.tmp 1), none⟩, []⟩,
  ⟨⟨some 131, Op.move (Operand.tmp 16), none⟩, []⟩,
  ⟨⟨some 132, Op.move (Operand.tmp 3), none⟩, []⟩,
  ⟨⟨some 133, Op.move (Operand.tmp 4), none⟩, []⟩,
  ⟨⟨some 134, Op.call { callee := (Callee.value (Operand.func 69)), args := #[(Operand.tmp 129), (Operand.tmp 130), (Operand.tmp 131), (Operand.tmp 132), (Operand.tmp 133)], argTypes := #[26, 3, 3, 3, 57] }, none⟩, []⟩]) (.reg [⟨⟨some 135, Op.move (Operand.tmp 16), none⟩, []⟩,
  ⟨⟨some 136, Op.binOp BinOp.add 3 (Operand.tmp 135) (Operand.const (Value.int IntKind.i64 1)) 3, none⟩, []⟩,
  ⟨⟨some 1, Op.assign (Operand.tmp 136), none⟩, []⟩]))) (.seq (.reg [⟨⟨some 137, Op.move (Operand.tmp 19), none⟩, []⟩,
  ⟨⟨some 138, Op.move (Operand.tmp 20), none⟩, []⟩,
  ⟨⟨some 139, Op.binOp BinOp.geq 3 (Operand.tmp 137) (Operand.tmp 138) 3, none⟩, []⟩,
  ⟨⟨some 10, Op.assign (Operand.tmp 139), none⟩, []⟩]) (.seq (.reg [⟨⟨some 140, Op.move (Operand.tmp 0), none⟩, []⟩,
  ⟨⟨some 141, Op.move (Operand.tmp 16), none⟩, []⟩,
  ⟨⟨some 142, Op.binOp BinOp.add 3 (Operand.tmp 141) (Operand.const (Value.int IntKind.i64 1)) 3, none⟩, []⟩,
  ⟨⟨some 143, Op.move (Operand.tmp 2), none⟩, []⟩,
  ⟨⟨some 144, Op.move (Operand.tmp 3), none⟩, []⟩,
  ⟨⟨some 145, Op.move (Operand.tmp 4), none⟩, []⟩,
  ⟨⟨some 146, Op.call { callee := (Callee.value (Operand.func 69)), args := #[(Operand.tmp 140), (Operand.tmp 142), (Operand.tmp 143), (Operand.tmp 144), (Operand.tmp 145)], argTypes := #[26, 3, 3, 3, 57] }, none⟩, []⟩]) (.reg [⟨⟨some 147, Op.move (Operand.tmp 16), none⟩, []⟩,
  ⟨⟨some 2, Op.assign (Operand.tmp 147), none⟩, []⟩]))))))))))))))))))))))
theorem sl69 : slim Try.f69.ntmps ords69 (Try.f69.body.getD .skip) = some cd69 := by kernel_rfl
theorem in69 {args : List Value} {H : AH} {R : Value → AH → Prop} (hl : args.length = 5) (h : ∀ (Q : Exit → Sl → AH → Prop), (∀ e s H, endA Try.prog [] R e s H → Q e s H) → wpC Try.prog cd69 Q (enterA args) H) : ACalls Try.prog 69 args H R :=
  ACalls.intro (by kernel_rfl) Try.func69 rfl (by kernel_rfl) sl69 hl (of_decide_eq_true (by kernel_rfl)) (by kernel_rfl) h
end Go.Proofs.Ytjnefjchconebab.Ai
namespace Go.Proofs.Ytjnefjchconebab.Ai
open Go Go.RowKit
set_option linter.unusedVariables false
set_option linter.unusedSimpArgs false
/-- the order of lists -/
def cmpL : List Int → List Int → Int
  | [], [] => 0
  | [], _ :: _ => -1
  | _ :: _, [] => 1
  | a :: xs, b :: ys => if cmpI a b ≠ 0 then cmpI a b else cmpL xs ys
theorem cmpL_nil (ys : List Int) : cmpL [] ys = if 0 < ys.length then -1 else 0 := by
  cases ys with
  | nil => rfl
  | cons b bs => simp [cmpL]
theorem cmpL_step (xs ys : List Int) (i : Nat) (hi : i < xs.length) : cmpL (xs.drop i) (ys.drop i) = if ys.length ≤ i then 1 else if cmpI (xs.getD i 0) (ys.getD i 0) ≠ 0 then cmpI (xs.getD i 0) (ys.getD i 0) else cmpL (xs.drop (i + 1)) (ys.drop (i + 1)) := by
  have hx : xs.getD i 0 = xs[i] := by simp [hi]
  rw [List.drop_eq_getElem_cons hi]
  by_cases hj : ys.length ≤ i
  · rw [if_pos hj, List.drop_of_length_le hj]; rfl
  · have hj' : i < ys.length := by omega
    have hy : ys.getD i 0 = ys[i] := by simp [hj']
    rw [if_neg hj, List.drop_eq_getElem_cons hj', hx, hy]; rfl
abbrev fnCmp : Value := .func (.func 48) #[] (List.toArray [])
set_option maxHeartbeats 1000000 in
theorem CmpL_c (v w : Value) (xs ys : List Int) (H : AH) (hr : Row 3 H v xs) (hr2 : Row 3 H w ys) (hlen : xs.length ≤ 1099511627776) (hlen2 : ys.length ≤ 1099511627776) :
    ACalls Try.prog 48 [v, w] H fun r H' => r = .int .i64 (cmpL xs ys) ∧ H = H' := by
  refine in48 rfl ?_
  intro Q hQ
  simp (maxSteps := 1000000) (disch := omega) only [cd48, hr.len Try.underlying38, S, S1, S2, S3, S4, S5, ST, eq_self, reduceIte, reduceCtorEq, Nat.reduceEqDiff, Nat.reduceAdd]
  refine LoopH.by (fun m s H' => ∃ i, m + i = xs.length ∧ s 0 = v ∧ s 1 = w ∧ s 9 = v ∧ s 10 = .int .i64 (xs.length : Int) ∧ s 11 = .int .i64 ((i : Nat) : Int) ∧ H = H' ∧ cmpL xs ys = cmpL (xs.drop i) (ys.drop i) ∧ (i ≤ ys.length ∨ i = 0)) xs.length ?_ ?_
  · exact ⟨0, by simp, rfl, rfl, rfl, rfl, rfl, rfl, by simp, .inr rfl⟩
  · rintro m s H' ⟨i, hm, h0, h1, h9, h10, h11, rfl, hc, hy⟩
    simp (maxSteps := 1000000) (disch := omega) only [h0, h1, h9, h10, h11, S, S1, S2, S3, S4, S5, ST, eq_self, reduceIte, reduceCtorEq, Nat.reduceEqDiff, Nat.reduceAdd]
    refine brD.intro (fun g => ?_) (fun g => ?_)
    · have hi : i < xs.length := by omega
      rw [cmpL_step xs ys i hi] at hc
      simp (maxSteps := 1000000) (disch := omega) only [h0, h1, h9, h10, h11, hr.ix Try.underlying38 cs3, hr.cell, Int.toNat_natCast, hr2.len Try.underlying38, S, S1, S2, S3, S4, S5, ST, eq_self, reduceIte, reduceCtorEq, Nat.reduceEqDiff, Nat.reduceAdd]
      refine brD.intro (fun e => ?_) (fun e => ?_)
      · simp (maxSteps := 1000000) (disch := omega) only [S, S1, S2, S3, S4, S5, ST, eq_self, reduceIte, reduceCtorEq, Nat.reduceEqDiff, Nat.reduceAdd]
        refine hQ _ _ _ ?_
        simp (maxSteps := 1000000) (disch := omega) only [S, S1, S2, S3, S4, S5, ST, eq_self, reduceIte, reduceCtorEq, Nat.reduceEqDiff, Nat.reduceAdd]
        rw [hc, if_pos (by omega)]
      · have hj : i < ys.length := by omega
        rw [if_neg (by omega)] at hc
        simp (maxSteps := 1000000) (disch := omega) only [h0, h1, h9, h10, h11, hr2.ix Try.underlying38 cs3, hr2.cell, Int.toNat_natCast, S, S1, S2, S3, S4, S5, ST, eq_self, reduceIte, reduceCtorEq, Nat.reduceEqDiff, Nat.reduceAdd]
        refine CallH.by (Compare_c _ _ H) ?_
        rintro _ _ ⟨rfl, rfl⟩
        simp (maxSteps := 1000000) (disch := omega) only [S, S1, S2, S3, S4, S5, ST, eq_self, reduceIte, reduceCtorEq, Nat.reduceEqDiff, Nat.reduceAdd]
        refine brD.intro (fun e2 => ?_) (fun e2 => ?_) <;> simp (maxSteps := 1000000) (disch := omega) only [h0, h1, h9, h10, h11, wrap64, S, S1, S2, S3, S4, S5, ST, eq_self, reduceIte, reduceCtorEq, Nat.reduceEqDiff, Nat.reduceAdd]
        · refine hQ _ _ _ ?_
          simp (maxSteps := 1000000) (disch := omega) only [S, S1, S2, S3, S4, S5, ST, eq_self, reduceIte, reduceCtorEq, Nat.reduceEqDiff, Nat.reduceAdd]
          rw [hc, if_pos e2]
        · rw [if_neg e2] at hc
          have f1 : i + 1 ≤ ys.length ∨ i + 1 = 0 := .inl hj
          refine ⟨m - 1, by omega, i + 1, ?_⟩
          (repeat' first | exact hc | exact f1 | apply And.intro) <;> first | (simp only [Value.int.injEq, true_and]; omega) | omega | rfl | assumption | (simp; done) | (simp; omega)
    · have hxe : i = xs.length := by omega
      rw [hxe, List.drop_length, cmpL_nil] at hc
      simp (maxSteps := 1000000) (disch := omega) only [h0, h1, hr.len Try.underlying38, hr2.len Try.underlying38, S, S1, S2, S3, S4, S5, ST, eq_self, reduceIte, reduceCtorEq, Nat.reduceEqDiff, Nat.reduceAdd]
      refine brD.intro (fun e => ?_) (fun e => ?_) <;> simp (maxSteps := 1000000) (disch := omega) only [S, S1, S2, S3, S4, S5, ST, eq_self, reduceIte, reduceCtorEq, Nat.reduceEqDiff, Nat.reduceAdd]
      · refine hQ _ _ _ ?_
        simp (maxSteps := 1000000) (disch := omega) only [S, S1, S2, S3, S4, S5, ST, eq_self, reduceIte, reduceCtorEq, Nat.reduceEqDiff, Nat.reduceAdd]
        rw [hc, if_pos (by simp; omega)]
      · refine hQ _ _ _ ?_
        simp (maxSteps := 1000000) (disch := omega) only [S, S1, S2, S3, S4, S5, ST, eq_self, reduceIte, reduceCtorEq, Nat.reduceEqDiff, Nat.reduceAdd]
        rw [hc, if_neg (by simp; omega)]
/-- in strict order -/
def SrtL (ls : List (List Int)) : Prop := ∀ i j, i < j → j < ls.length → 0 < cmpL (ls.getD j []) (ls.getD i [])
/-- such lists in memory -/
structure Sts (H : AH) (v : Value) (us : List Value) (ls : List (List Int)) : Prop where
  row : RowV 38 H v us
  len : us.length = ls.length
  each : ∀ i, i < ls.length → Row 3 H (us.getD i undef) (ls.getD i [])
  small : ∀ i, i < ls.length → (ls.getD i []).length ≤ 1099511627776
  bnd : ls.length ≤ 60000
  srt : SrtL ls
theorem Sts.pre {H H' : AH} {v : Value} {us : List Value} {ls : List (List Int)} (h : Sts H v us ls) (hp : H <+: H') : Sts H' v us ls := ⟨h.row.pre hp, h.len, fun i hi => (h.each i hi).pre hp, h.small, h.bnd, h.srt⟩
theorem cmpL_self : ∀ xs : List Int, cmpL xs xs = 0
  | [] => rfl
  | a :: xs => by
    have : cmpI a a = 0 := by unfold cmpI; rw [if_neg (by omega), if_neg (by omega)]
    rw [cmpL, if_neg (by rw [this]; decide)]; exact cmpL_self xs
theorem Sts.le {H : AH} {v : Value} {us : List Value} {ls : List (List Int)} (h : Sts H v us ls) {i j : Nat} (hij : i ≤ j) (hj : j < ls.length) : ¬ cmpL (ls.getD j []) (ls.getD i []) < 0 := by
  by_cases e : i = j
  · subst e; rw [cmpL_self]; omega
  · have := h.srt i j (by omega) hj; omega
section
variable {v : Value} {us : List Value} {ls : List (List Int)} {H : AH}
theorem Sts.cell (h : Sts H v us ls) {i : Nat} (hi : i < ls.length) : cellA H (rowO v) (rowK v + i) = some (us.getD i undef) := h.row.cell (by have := h.len; omega)
theorem Sts.cmp (h : Sts H v us ls) {i j : Nat} (hi : i < ls.length) (hj : j < ls.length) :
    ACalls Try.prog 48 [us.getD i undef, us.getD j undef] H fun r H' => r = .int .i64 (cmpL (ls.getD i []) (ls.getD j [])) ∧ H = H' := CmpL_c _ _ _ _ H (h.each i hi) (h.each j hj) (h.small i hi) (h.small j hj)
theorem order2_c (h : Sts H v us ls) (a b : Nat) (p : Value) (hab : a ≤ b) (hb : b < ls.length) :
    ACalls Try.prog 104 [v, .int .i64 (a : Int), .int .i64 (b : Int), p, fnCmp] H fun r H' => r = .tuple (List.toArray [.int .i64 (a : Int), .int .i64 (b : Int)]) ∧ H = H' := by
  refine in104 rfl ?_
  intro Q hQ
  have hl := h.len
  have hca := h.cell (show a < ls.length by omega)
  have hcb := h.cell hb
  simp (maxSteps := 1000000) (disch := omega) only [cd104, h.row.ix Try.underlying26 cs38, Int.toNat_natCast, hca, hcb, S, S1, S2, S3, S4, S5, ST, eq_self, reduceIte, reduceCtorEq, Nat.reduceEqDiff, Nat.reduceAdd]
  refine CallH.by (h.cmp hb (show a < ls.length by omega)) ?_
  rintro _ _ ⟨rfl, rfl⟩
  simp (maxSteps := 1000000) (disch := omega) only [S, S1, S2, S3, S4, S5, ST, eq_self, reduceIte, reduceCtorEq, Nat.reduceEqDiff, Nat.reduceAdd]
  refine brD.intro (fun e => absurd e (h.le hab hb)) (fun e => ?_)
  simp (maxSteps := 1000000) (disch := omega) only [S, S1, S2, S3, S4, S5, ST, eq_self, reduceIte, reduceCtorEq, Nat.reduceEqDiff, Nat.reduceAdd]
  refine hQ _ _ _ ?_
  simp (maxSteps := 1000000) (disch := omega) only [S, S1, S2, S3, S4, S5, ST, eq_self, reduceIte, reduceCtorEq, Nat.reduceEqDiff, Nat.reduceAdd]
theorem median_c (h : Sts H v us ls) (a b c : Nat) (p : Value) (hab : a ≤ b) (hbc : b ≤ c) (hc : c < ls.length) :
    ACalls Try.prog 103 [v, .int .i64 (a : Int), .int .i64 (b : Int), .int .i64 (c : Int), p, fnCmp] H fun r H' => r = .int .i64 (b : Int) ∧ H = H' := by
  refine in103 rfl ?_
  intro Q hQ
  simp (maxSteps := 1000000) (disch := omega) only [cd103, S, S1, S2, S3, S4, S5, ST, eq_self, reduceIte, reduceCtorEq, Nat.reduceEqDiff, Nat.reduceAdd]
  refine CallH.by (order2_c h a b p hab (by omega)) ?_
  rintro _ _ ⟨rfl, rfl⟩
  simp (maxSteps := 1000000) (disch := omega) only [S, S1, S2, S3, S4, S5, ST, eq_self, reduceIte, reduceCtorEq, Nat.reduceEqDiff, Nat.reduceAdd]
  refine CallH.by (order2_c h b c p hbc hc) ?_
  rintro _ _ ⟨rfl, rfl⟩
  simp (maxSteps := 1000000) (disch := omega) only [S, S1, S2, S3, S4, S5, ST, eq_self, reduceIte, reduceCtorEq, Nat.reduceEqDiff, Nat.reduceAdd]
  refine CallH.by (order2_c h a b p hab (by omega)) ?_
  rintro _ _ ⟨rfl, rfl⟩
  simp (maxSteps := 1000000) (disch := omega) only [S, S1, S2, S3, S4, S5, ST, eq_self, reduceIte, reduceCtorEq, Nat.reduceEqDiff, Nat.reduceAdd]
  refine hQ _ _ _ ?_
  simp (maxSteps := 1000000) (disch := omega) only [S, S1, S2, S3, S4, S5, ST, eq_self, reduceIte, reduceCtorEq, Nat.reduceEqDiff, Nat.reduceAdd]
theorem medianAdj_c (h : Sts H v us ls) (a : Nat) (p : Value) (ha : 1 ≤ a) (hc : a + 1 < ls.length) :
    ACalls Try.prog 102 [v, .int .i64 (a : Int), p, fnCmp] H fun r H' => r = .int .i64 (a : Int) ∧ H = H' := by
  refine in102 rfl ?_
  intro Q hQ
  have hb := h.bnd
  have e1 : (a : Int) - 1 = ((a - 1 : Nat) : Int) := by omega
  have e2 : (a : Int) + 1 = ((a + 1 : Nat) : Int) := by omega
  simp (maxSteps := 1000000) (disch := omega) only [cd102, wrap64, e1, e2, S, S1, S2, S3, S4, S5, ST, eq_self, reduceIte, reduceCtorEq, Nat.reduceEqDiff, Nat.reduceAdd]
  refine CallH.by (median_c h (a - 1) a (a + 1) p (by omega) (by omega) hc) ?_
  rintro _ _ ⟨rfl, rfl⟩
  simp (maxSteps := 1000000) (disch := omega) only [S, S1, S2, S3, S4, S5, ST, eq_self, reduceIte, reduceCtorEq, Nat.reduceEqDiff, Nat.reduceAdd]
  refine hQ _ _ _ ?_
  simp (maxSteps := 1000000) (disch := omega) only [S, S1, S2, S3, S4, S5, ST, eq_self, reduceIte, reduceCtorEq, Nat.reduceEqDiff, Nat.reduceAdd]
set_option maxRecDepth 20000 in
set_option maxHeartbeats 1000000 in
theorem partialIns_c (h : Sts H v us ls) (h1 : 1 ≤ ls.length) :
    ACalls Try.prog 87 [v, .int .i64 0, .int .i64 (ls.length : Int), fnCmp] H fun r H' => r = .bool true ∧ H = H' := by
  refine in87 rfl ?_
  intro Q hQ
  have hb := h.bnd
  have hl := h.len
  simp (maxSteps := 1000000) (disch := omega) only [cd87, wrap64, S, S1, S2, S3, S4, S5, ST, eq_self, reduceIte, reduceCtorEq, Nat.reduceEqDiff, Nat.reduceAdd]
  refine LoopH.by (fun m s H' => s 0 = v ∧ s 2 = .int .i64 (ls.length : Int) ∧ s 3 = fnCmp ∧ s 9 = .int .i64 1 ∧ s 10 = .int .i64 0 ∧ H = H') 0 ?_ ?_
  · exact ⟨rfl, rfl, rfl, rfl, rfl, rfl⟩
  · rintro m s H' ⟨h0, h2, h3, h9, h10, rfl⟩
    simp (maxSteps := 1000000) (disch := omega) only [h0, h2, h3, h9, h10, S, S1, S2, S3, S4, S5, ST, eq_self, reduceIte, reduceCtorEq, Nat.reduceEqDiff, Nat.reduceAdd]
    refine brD.intro (fun _ => ?_) (fun g => absurd (by decide) g)
    simp (maxSteps := 1000000) (disch := omega) only [h0, h2, h3, h9, h10, S, S1, S2, S3, S4, S5, ST, eq_self, reduceIte, reduceCtorEq, Nat.reduceEqDiff, Nat.reduceAdd]
    refine LoopH.by (fun m' s' H' => ∃ i, m' + i = ls.length ∧ 1 ≤ i ∧ s' 0 = v ∧ s' 2 = .int .i64 (ls.length : Int) ∧ s' 3 = fnCmp ∧ s' 9 = .int .i64 ((i : Nat) : Int) ∧ H = H') (ls.length - 1) ?_ ?_
    · exact ⟨1, by omega, by omega, by simp [S, S1, S2, S3, S4, S5, ST, eq_self, reduceIte, reduceCtorEq, Nat.reduceEqDiff, Nat.reduceAdd, h0], by simp [S, S1, S2, S3, S4, S5, ST, eq_self, reduceIte, reduceCtorEq, Nat.reduceEqDiff, Nat.reduceAdd, h2], by simp [S, S1, S2, S3, S4, S5, ST, eq_self, reduceIte, reduceCtorEq, Nat.reduceEqDiff, Nat.reduceAdd, h3], by simp [S, S1, S2, S3, S4, S5, ST, eq_self, reduceIte, reduceCtorEq, Nat.reduceEqDiff, Nat.reduceAdd, h9], rfl⟩
    · rintro m' s' H' ⟨i, hm, hi1, g0, g2, g3, g9, rfl⟩
      have e1 : (i : Int) - 1 = ((i - 1 : Nat) : Int) := by omega
      simp (maxSteps := 1000000) (disch := omega) only [g0, g2, g3, g9, S, S1, S2, S3, S4, S5, ST, eq_self, reduceIte, reduceCtorEq, Nat.reduceEqDiff, Nat.reduceAdd]
      refine brD.intro (fun g => ?_) (fun g => ?_)
      · have hi : i < ls.length := by omega
        have hc1 := h.cell hi
        have hc2 := h.cell (show i - 1 < ls.length by omega)
        simp (maxSteps := 1000000) (disch := omega) only [g, g0, g2, g3, g9, wrap64, e1, h.row.ix Try.underlying26 cs38, Int.toNat_natCast, hc1, hc2, S, S1, S2, S3, S4, S5, ST, eq_self, reduceIte, reduceCtorEq, Nat.reduceEqDiff, Nat.reduceAdd]
        refine CallH.by (h.cmp hi (show i - 1 < ls.length by omega)) ?_
        rintro _ _ ⟨rfl, rfl⟩
        simp (maxSteps := 1000000) (disch := omega) only [g, S, S1, S2, S3, S4, S5, ST, eq_self, reduceIte, reduceCtorEq, Nat.reduceEqDiff, Nat.reduceAdd]
        refine brD.intro (fun e => absurd e (h.le (by omega) hi)) (fun e => ?_)
        simp (maxSteps := 1000000) (disch := omega) only [g, e, g0, g2, g3, g9, wrap64, S, S1, S2, S3, S4, S5, ST, eq_self, reduceIte, reduceCtorEq, Nat.reduceEqDiff, Nat.reduceAdd]
        refine ⟨m' - 1, by omega, i + 1, ?_⟩
        (repeat' apply And.intro) <;> first | (simp only [Value.int.injEq, true_and]; omega) | omega | rfl | assumption | (simp; done) | (simp; omega)
      · have hi : i = ls.length := by omega
        subst hi
        simp (maxSteps := 1000000) (disch := omega) only [g, g0, g2, g3, g9, S, S1, S2, S3, S4, S5, ST, eq_self, reduceIte, reduceCtorEq, Nat.reduceEqDiff, Nat.reduceAdd]
        refine hQ _ _ _ ?_
        simp (maxSteps := 1000000) (disch := omega) only [S, S1, S2, S3, S4, S5, ST, eq_self, reduceIte, reduceCtorEq, Nat.reduceEqDiff, Nat.reduceAdd]
set_option maxRecDepth 20000 in
set_option maxHeartbeats 1000000 in
theorem insCmp_c (h : Sts H v us ls) :
    ACalls Try.prog 82 [v, .int .i64 0, .int .i64 (ls.length : Int), fnCmp] H fun r H' => H = H' := by
  refine in82 rfl ?_
  intro Q hQ
  have hb := h.bnd
  have hl := h.len
  simp (maxSteps := 1000000) (disch := omega) only [cd82, wrap64, S, S1, S2, S3, S4, S5, ST, eq_self, reduceIte, reduceCtorEq, Nat.reduceEqDiff, Nat.reduceAdd]
  refine LoopH.by (fun m s H' => ∃ i, m + i = ls.length + 1 ∧ 1 ≤ i ∧ s 0 = v ∧ s 1 = .int .i64 0 ∧ s 2 = .int .i64 (ls.length : Int) ∧ s 3 = fnCmp ∧ s 8 = .int .i64 ((i : Nat) : Int) ∧ H = H') ls.length ?_ ?_
  · exact ⟨1, by omega, by omega, rfl, rfl, rfl, rfl, rfl, rfl⟩
  · rintro m s H' ⟨i, hm, hi1, h0, h1, h2, h3, h8, rfl⟩
    simp (maxSteps := 1000000) (disch := omega) only [h0, h1, h2, h3, h8, S, S1, S2, S3, S4, S5, ST, eq_self, reduceIte, reduceCtorEq, Nat.reduceEqDiff, Nat.reduceAdd]
    refine brD.intro (fun g => ?_) (fun g => ?_)
    · have hi : i < ls.length := by omega
      have e1 : (i : Int) - 1 = ((i - 1 : Nat) : Int) := by omega
      have hc1 := h.cell hi
      have hc2 := h.cell (show i - 1 < ls.length by omega)
      simp (maxSteps := 1000000) (disch := omega) only [h0, h1, h2, h3, h8, S, S1, S2, S3, S4, S5, ST, eq_self, reduceIte, reduceCtorEq, Nat.reduceEqDiff, Nat.reduceAdd]
      refine LoopH.by (fun m' s' H' => s' 0 = v ∧ s' 1 = .int .i64 0 ∧ s' 2 = .int .i64 (ls.length : Int) ∧ s' 3 = fnCmp ∧ s' 8 = .int .i64 ((i : Nat) : Int) ∧ s' 9 = .int .i64 ((i : Nat) : Int) ∧ H = H') 0 ?_ ?_
      · simp only [S, S1, S2, S3, S4, S5, ST, eq_self, reduceIte, reduceCtorEq, Nat.reduceEqDiff, Nat.reduceAdd, h0, h1, h2, h3, h8]
      · rintro m' s' H' ⟨g0, g1, g2, g3, g8, g9, rfl⟩
        have hgt : (i : Int) > 0 := by omega
        simp (maxSteps := 1000000) (disch := omega) only [g0, g1, g2, g3, g8, g9, S, S1, S2, S3, S4, S5, ST, eq_self, reduceIte, reduceCtorEq, Nat.reduceEqDiff, Nat.reduceAdd]
        refine brD.intro (fun q => ?_) (fun q => absurd hgt q)
        simp (maxSteps := 1000000) (disch := omega) only [q, g0, g1, g2, g3, g8, g9, wrap64, e1, h.row.ix Try.underlying26 cs38, Int.toNat_natCast, hc1, hc2, S, S1, S2, S3, S4, S5, ST, eq_self, reduceIte, reduceCtorEq, Nat.reduceEqDiff, Nat.reduceAdd]
        refine CallH.by (h.cmp hi (show i - 1 < ls.length by omega)) ?_
        rintro _ _ ⟨rfl, rfl⟩
        simp (maxSteps := 1000000) (disch := omega) only [q, S, S1, S2, S3, S4, S5, ST, eq_self, reduceIte, reduceCtorEq, Nat.reduceEqDiff, Nat.reduceAdd]
        refine brD.intro (fun e => absurd e (h.le (by omega) hi)) (fun e => ?_)
        simp (maxSteps := 1000000) (disch := omega) only [q, e, g0, g1, g2, g3, g8, g9, wrap64, S, S1, S2, S3, S4, S5, ST, eq_self, reduceIte, reduceCtorEq, Nat.reduceEqDiff, Nat.reduceAdd]
        refine ⟨m - 1, by omega, i + 1, ?_⟩
        (repeat' apply And.intro) <;> first | (simp only [Value.int.injEq, true_and]; omega) | omega | rfl | assumption | (simp; done) | (simp; omega)
    · simp (maxSteps := 1000000) (disch := omega) only [S, S1, S2, S3, S4, S5, ST, eq_self, reduceIte, reduceCtorEq, Nat.reduceEqDiff, Nat.reduceAdd]
      refine hQ _ _ _ ?_
      simp (maxSteps := 1000000) (disch := omega) only [S, S1, S2, S3, S4, S5, ST, eq_self, reduceIte, reduceCtorEq, Nat.reduceEqDiff, Nat.reduceAdd]
theorem alloc_int (H : AH) : allocA Try.prog 3 H = some (.pointer (some ⟨H.length, 0, none⟩), H ++ [.cells [.int .i64 0] 3 false]) := by kernel_rfl
set_option maxRecDepth 20000 in
set_option maxHeartbeats 1000000 in
theorem choosePivot_c (h : Sts H v us ls) (h1 : 13 ≤ ls.length) :
    ACalls Try.prog 85 [v, .int .i64 0, .int .i64 (ls.length : Int), fnCmp] H fun r H' => (∃ j : Int, r = .tuple (List.toArray [.int .i64 j, .int .i64 1])) ∧ H <+: H' := by
  refine in85 rfl ?_
  intro Q hQ
  have hb := h.bnd
  have hl := h.len
  obtain ⟨q, hqd⟩ : ∃ q, ls.length / 4 = q := ⟨_, rfl⟩
  have hq : IntKind.i64.wrap ((ls.length : Int).tdiv 4) = (q : Int) := by
    rw [Int.tdiv_eq_ediv_of_nonneg (by omega), wrap64 (by omega) (by omega)]
    omega
  have e1 : (0 : Int) + (q : Int) * 1 = (q : Int) := by omega
  have e2 : (0 : Int) + (q : Int) * 2 = ((2 * q : Nat) : Int) := by omega
  have e3 : (0 : Int) + (q : Int) * 3 = ((3 * q : Nat) : Int) := by omega
  have e0 : (ls.length : Int) - 0 = (ls.length : Int) := by omega
  simp (maxSteps := 1000000) (disch := omega) only [cd85, alloc_int, wrap64, e0, hq, e1, e2, e3, S, S1, S2, S3, S4, S5, ST, eq_self, reduceIte, reduceCtorEq, Nat.reduceEqDiff, Nat.reduceAdd]
  generalize hA : H ++ [AObj.cells [.int .i64 0] 3 false] = A
  have pA : H <+: A := by rw [← hA]; exact List.prefix_append _ _
  have cA : A[H.length]? = some (.cells [.int .i64 0] 3 false) := by rw [← hA]; exact at_new ..
  have hA2 := h.pre pA
  refine brD.intro (fun g => ?_) (fun g => absurd (show (ls.length : Int) ≥ 8 by omega) g)
  simp (maxSteps := 1000000) (disch := omega) only [S, S1, S2, S3, S4, S5, ST, eq_self, reduceIte, reduceCtorEq, Nat.reduceEqDiff, Nat.reduceAdd]
  refine brD.intro (fun g2 => ?_) (fun g2 => ?_)
  · simp (maxSteps := 1000000) (disch := omega) only [S, S1, S2, S3, S4, S5, ST, eq_self, reduceIte, reduceCtorEq, Nat.reduceEqDiff, Nat.reduceAdd]
    refine CallH.by (medianAdj_c hA2 q _ (by omega) (by omega)) ?_
    rintro _ _ ⟨rfl, rfl⟩
    simp (maxSteps := 1000000) (disch := omega) only [S, S1, S2, S3, S4, S5, ST, eq_self, reduceIte, reduceCtorEq, Nat.reduceEqDiff, Nat.reduceAdd]
    refine CallH.by (medianAdj_c hA2 (2 * q) _ (by omega) (by omega)) ?_
    rintro _ _ ⟨rfl, rfl⟩
    simp (maxSteps := 1000000) (disch := omega) only [S, S1, S2, S3, S4, S5, ST, eq_self, reduceIte, reduceCtorEq, Nat.reduceEqDiff, Nat.reduceAdd]
    refine CallH.by (medianAdj_c hA2 (3 * q) _ (by omega) (by omega)) ?_
    rintro _ _ ⟨rfl, rfl⟩
    simp (maxSteps := 1000000) (disch := omega) only [S, S1, S2, S3, S4, S5, ST, eq_self, reduceIte, reduceCtorEq, Nat.reduceEqDiff, Nat.reduceAdd]
    refine CallH.by (median_c hA2 q (2 * q) (3 * q) _ (by omega) (by omega) (by omega)) ?_
    rintro _ _ ⟨rfl, rfl⟩
    simp (maxSteps := 1000000) (disch := omega) only [cell_of cA, S, S1, S2, S3, S4, S5, ST, eq_self, reduceIte, reduceCtorEq, Nat.reduceEqDiff, Nat.reduceAdd]
    first
      | (refine brD.intro (fun _ => ?_) (fun g3 => absurd rfl g3)
         simp (maxSteps := 1000000) (disch := omega) only [S, S1, S2, S3, S4, S5, ST, eq_self, reduceIte, reduceCtorEq, Nat.reduceEqDiff, Nat.reduceAdd])
      | skip
    refine hQ _ _ _ ?_
    simp (maxSteps := 1000000) (disch := omega) only [S, S1, S2, S3, S4, S5, ST, eq_self, reduceIte, reduceCtorEq, Nat.reduceEqDiff, Nat.reduceAdd]
    exact ⟨⟨_, rfl⟩, pA⟩
  · simp (maxSteps := 1000000) (disch := omega) only [S, S1, S2, S3, S4, S5, ST, eq_self, reduceIte, reduceCtorEq, Nat.reduceEqDiff, Nat.reduceAdd]
    refine CallH.by (median_c hA2 q (2 * q) (3 * q) _ (by omega) (by omega) (by omega)) ?_
    rintro _ _ ⟨rfl, rfl⟩
    simp (maxSteps := 1000000) (disch := omega) only [cell_of cA, S, S1, S2, S3, S4, S5, ST, eq_self, reduceIte, reduceCtorEq, Nat.reduceEqDiff, Nat.reduceAdd]
    first
      | (refine brD.intro (fun _ => ?_) (fun g3 => absurd rfl g3)
         simp (maxSteps := 1000000) (disch := omega) only [S, S1, S2, S3, S4, S5, ST, eq_self, reduceIte, reduceCtorEq, Nat.reduceEqDiff, Nat.reduceAdd])
      | skip
    refine hQ _ _ _ ?_
    simp (maxSteps := 1000000) (disch := omega) only [S, S1, S2, S3, S4, S5, ST, eq_self, reduceIte, reduceCtorEq, Nat.reduceEqDiff, Nat.reduceAdd]
    exact ⟨⟨_, rfl⟩, pA⟩
set_option maxRecDepth 20000 in
set_option maxHeartbeats 1000000 in
theorem pdqCmp_c (h : Sts H v us ls) (lim : Int) (hlim : lim ≠ 0 ∨ ls.length ≤ 12) :
    ACalls Try.prog 69 [v, .int .i64 0, .int .i64 (ls.length : Int), .int .i64 lim, fnCmp] H fun r H' => H <+: H' := by
  refine in69 rfl ?_
  intro Q hQ
  have hb := h.bnd
  have e0 : (ls.length : Int) - 0 = (ls.length : Int) := by omega
  simp (maxSteps := 1000000) (disch := omega) only [cd69, S, S1, S2, S3, S4, S5, ST, eq_self, reduceIte, reduceCtorEq, Nat.reduceEqDiff, Nat.reduceAdd]
  refine LoopH.by (fun m s H' => s 0 = v ∧ s 1 = .int .i64 0 ∧ s 2 = .int .i64 (ls.length : Int) ∧ s 3 = .int .i64 lim ∧ s 4 = fnCmp ∧ s 10 = .bool true ∧ s 11 = .bool true ∧ H = H') 0 ?_ ?_
  · exact ⟨rfl, rfl, rfl, rfl, rfl, rfl, rfl, rfl⟩
  · rintro m s H' ⟨h0, h1, h2, h3, h4, h10, h11, rfl⟩
    simp (maxSteps := 1000000) (disch := omega) only [h0, h1, h2, h3, h4, h10, h11, wrap64, e0, S, S1, S2, S3, S4, S5, ST, eq_self, reduceIte, reduceCtorEq, Nat.reduceEqDiff, Nat.reduceAdd]
    refine brD.intro (fun g => ?_) (fun g => ?_)
    · simp (maxSteps := 1000000) (disch := omega) only [h0, h1, h2, h3, h4, h10, h11, S, S1, S2, S3, S4, S5, ST, eq_self, reduceIte, reduceCtorEq, Nat.reduceEqDiff, Nat.reduceAdd]
      refine CallH.by (insCmp_c h) ?_
      rintro _ _ rfl
      simp (maxSteps := 1000000) (disch := omega) only [S, S1, S2, S3, S4, S5, ST, eq_self, reduceIte, reduceCtorEq, Nat.reduceEqDiff, Nat.reduceAdd]
      refine hQ _ _ _ ?_
      simp (maxSteps := 1000000) (disch := omega) only [S, S1, S2, S3, S4, S5, ST, eq_self, reduceIte, reduceCtorEq, Nat.reduceEqDiff, Nat.reduceAdd]
      exact List.prefix_refl _
    · have hlim' : lim ≠ 0 := hlim.resolve_right (by omega)
      simp (maxSteps := 1000000) (disch := omega) only [h0, h1, h2, h3, h4, h10, h11, S, S1, S2, S3, S4, S5, ST, eq_self, reduceIte, reduceCtorEq, Nat.reduceEqDiff, Nat.reduceAdd]
      refine brD.intro (fun g2 => absurd g2 hlim') (fun g2 => ?_)
      simp (maxSteps := 1000000) (disch := omega) only [h0, h1, h2, h3, h4, h10, h11, S, S1, S2, S3, S4, S5, ST, eq_self, reduceIte, reduceCtorEq, Nat.reduceEqDiff, Nat.reduceAdd]
      refine CallH.by (choosePivot_c h (by omega)) ?_
      rintro _ A ⟨⟨j, rfl⟩, pA⟩
      simp (maxSteps := 1000000) (disch := omega) only [h0, h1, h2, h3, h4, h10, h11, S, S1, S2, S3, S4, S5, ST, eq_self, reduceIte, reduceCtorEq, Nat.reduceEqDiff, Nat.reduceAdd]
      refine brD.intro (fun g3 => absurd g3 (by decide)) (fun g3 => ?_)
      simp (maxSteps := 1000000) (disch := omega) only [h0, h1, h2, h3, h4, h10, h11, S, S1, S2, S3, S4, S5, ST, eq_self, reduceIte, reduceCtorEq, Nat.reduceEqDiff, Nat.reduceAdd]
      refine CallH.by (partialIns_c (h.pre pA) (by omega)) ?_
      rintro _ _ ⟨rfl, rfl⟩
      simp (maxSteps := 1000000) (disch := omega) only [S, S1, S2, S3, S4, S5, ST, eq_self, reduceIte, reduceCtorEq, Nat.reduceEqDiff, Nat.reduceAdd]
      refine hQ _ _ _ ?_
      simp (maxSteps := 1000000) (disch := omega) only [S, S1, S2, S3, S4, S5, ST, eq_self, reduceIte, reduceCtorEq, Nat.reduceEqDiff, Nat.reduceAdd]
      exact pA
end
end Go.Proofs.Ytjnefjchconebab.Ai
namespace Go.Proofs.Ytjnefjchconebab.Ai
open Go
def ords47 : List (Nat × List (Nat × Bool)) := []
def cd47 : Cd := (.seq (.reg [⟨⟨some 5, Op.move (Operand.tmp 0), none⟩, []⟩,
  ⟨⟨some 6, Op.call { callee := (Callee.builtin Builtin.len), args := #[(Operand.tmp 5)], argTypes := #[26] }, none⟩, []⟩,
  ⟨⟨some 4, Op.assign (Operand.tmp 6), none⟩, []⟩]) (.reg [⟨⟨some 7, Op.move (Operand.tmp 0), none⟩, []⟩,
  ⟨⟨some 8, Op.move (Operand.tmp 4), none⟩, []⟩,
  ⟨⟨some 9, Op.move (Operand.tmp 4), none⟩, []⟩,
  ⟨⟨some 10, Op.convert 3 69 (Operand.tmp 9), none⟩, []⟩,
  ⟨⟨some 11, Op.call { callee := (Callee.value (Operand.func 70)), args := #[(Operand.tmp 10)], argTypes := #[69] }, none⟩, []⟩,
  ⟨⟨some 12, Op.move (Operand.tmp 1), none⟩, []⟩,
  ⟨⟨some 13, Op.call { callee := (Callee.value (Operand.func 69)), args := #[(Operand.tmp 7), (Operand.const (Value.int IntKind.i64 0)), (Operand.tmp 8), (Operand.tmp 11), (Operand.tmp 12)], argTypes := #[26, 3, 3, 3, 57] }, none⟩, []⟩]))
theorem sl47 : slim Try.f47.ntmps ords47 (Try.f47.body.getD .skip) = some cd47 := by kernel_rfl
theorem in47 {args : List Value} {H : AH} {R : Value → AH → Prop} (hl : args.length = 2) (h : ∀ (Q : Exit → Sl → AH → Prop), (∀ e s H, endA Try.prog [] R e s H → Q e s H) → wpC Try.prog cd47 Q (enterA args) H) : ACalls Try.prog 47 args H R :=
  ACalls.intro (by kernel_rfl) Try.func47 rfl (by kernel_rfl) sl47 hl (of_decide_eq_true (by kernel_rfl)) (by kernel_rfl) h
end Go.Proofs.Ytjnefjchconebab.Ai
namespace Go.Proofs.Ytjnefjchconebab.Ai
open Go Go.RowKit
set_option linter.unusedVariables false
set_option linter.unusedSimpArgs false
theorem str_at {P : Program} {t : TypeId} (hu : P.underlying t = some .string) (s : ByteArray) (hz : s.size = 256) (hp : ∀ i : Fin 256, 0 < i.1 → 1 ≤ (s.data.getD i.1 0).toNat) (k : IntKind) (n : Nat) (h0 : 0 < n) (h1 : n < 256) : ∃ b : Nat, 1 ≤ b ∧ b < 256 ∧ indexA P t (.string s) (.int k (n : Int)) = some (.int .u8 (b : Int)) := by
  have hl : n < s.data.size := by have : s.data.size = 256 := hz; omega
  have hlt : n < s.size := by omega
  have e1 : s[(n : Int).toNat]? = some s[n] := by rw [Int.toNat_natCast]; simp [hlt]
  have e2 := hp ⟨n, h1⟩ h0
  have e3 : s.data.getD n 0 = s[n] := by
    rw [Array.getD_eq_getD_getElem?, Array.getElem?_eq_getElem hl]; rfl
  refine ⟨s[n].toNat, ?_, UInt8.toNat_lt _, ?_⟩
  · rw [← e3]; exact e2
  · simp only [indexA, hu, if_pos (show (0 : Int) ≤ n by omega), e1]
set_option maxRecDepth 20000 in
theorem Len64b_c (n : Nat) (H : AH) (h0 : 0 < n) (hn : n < 65536) : ACalls Try.prog 91 [.int .u64 (n : Int)] H fun r H' => (∃ k : Int, r = .int .i64 k ∧ 1 ≤ k) ∧ H = H' := by
  refine in91 rfl ?_
  intro Q hQ
  have k8 : binA Try.prog .shr 108 (.int .u64 (n : Int)) (.int .u64 8) = some (.int .u64 ((n / 256 : Nat) : Int)) := by
    simp only [binA, shiftA]
    rw [if_pos (.inr trivial), if_neg (by decide)]
    congr 2
    have : (2 ^ min (8 : Int).toNat IntKind.u64.bits : Int) = 256 := by decide
    rw [this, Int.fdiv_eq_ediv_of_nonneg _ (by decide)]
    omega
  simp (maxSteps := 1000000) (disch := omega) only [cd91, S, S1, S2, S3, S4, S5, ST, eq_self, reduceIte, reduceCtorEq, Nat.reduceEqDiff, Nat.reduceAdd]
  refine brD.intro (fun h => absurd h (by omega)) (fun _ => ?_)
  simp (maxSteps := 1000000) (disch := omega) only [S, S1, S2, S3, S4, S5, ST, eq_self, reduceIte, reduceCtorEq, Nat.reduceEqDiff, Nat.reduceAdd]
  refine brD.intro (fun h => absurd h (by omega)) (fun _ => ?_)
  simp (maxSteps := 1000000) (disch := omega) only [S, S1, S2, S3, S4, S5, ST, eq_self, reduceIte, reduceCtorEq, Nat.reduceEqDiff, Nat.reduceAdd]
  refine brD.intro (fun h => ?_) (fun h => ?_)
  · have hw : IntKind.u8.wrap ((n / 256 : Nat) : Int) = ((n / 256 : Nat) : Int) := wrapU8 (by omega) (by omega)
    simp (maxSteps := 1000000) (disch := omega) only [k8, hw, wrap64, S, S1, S2, S3, S4, S5, ST, eq_self, reduceIte, reduceCtorEq, Nat.reduceEqDiff, Nat.reduceAdd]
    generalize hs : (ByteArray.mk _) = s
    have hz : s.size = 256 := by rw [← hs]; rfl
    have hp : ∀ i : Fin 256, 0 < i.1 → 1 ≤ (s.data.getD i.1 0).toNat := by rw [← hs]; decide +kernel
    obtain ⟨b, hb1, hb2, hb⟩ := str_at (P := Try.prog) Try.underlying9 s hz hp .u8 (n / 256) (by omega) (by omega)
    simp (maxSteps := 1000000) (disch := omega) only [hb, wrap64, S, S1, S2, S3, S4, S5, ST, eq_self, reduceIte, reduceCtorEq, Nat.reduceEqDiff, Nat.reduceAdd]
    refine hQ _ _ _ ?_
    simp (maxSteps := 1000000) (disch := omega) only [S, S1, S2, S3, S4, S5, ST, eq_self, reduceIte, reduceCtorEq, Nat.reduceEqDiff, Nat.reduceAdd]
    exact ⟨_, rfl, by omega⟩
  · have hw : IntKind.u8.wrap (n : Int) = (n : Int) := wrapU8 (by omega) (by omega)
    simp (maxSteps := 1000000) (disch := omega) only [hw, wrap64, S, S1, S2, S3, S4, S5, ST, eq_self, reduceIte, reduceCtorEq, Nat.reduceEqDiff, Nat.reduceAdd]
    generalize hs : (ByteArray.mk _) = s
    have hz : s.size = 256 := by rw [← hs]; rfl
    have hp : ∀ i : Fin 256, 0 < i.1 → 1 ≤ (s.data.getD i.1 0).toNat := by rw [← hs]; decide +kernel
    obtain ⟨b, hb1, hb2, hb⟩ := str_at (P := Try.prog) Try.underlying9 s hz hp .u8 n (by omega) (by omega)
    simp (maxSteps := 1000000) (disch := omega) only [hb, wrap64, S, S1, S2, S3, S4, S5, ST, eq_self, reduceIte, reduceCtorEq, Nat.reduceEqDiff, Nat.reduceAdd]
    refine hQ _ _ _ ?_
    simp (maxSteps := 1000000) (disch := omega) only [S, S1, S2, S3, S4, S5, ST, eq_self, reduceIte, reduceCtorEq, Nat.reduceEqDiff, Nat.reduceAdd]
    exact ⟨_, rfl, by omega⟩
theorem Lenb_c (n : Nat) (H : AH) (h0 : 0 < n) (hn : n < 65536) : ACalls Try.prog 70 [.int .u64 (n : Int)] H fun r H' => (∃ k : Int, r = .int .i64 k ∧ 1 ≤ k) ∧ H = H' := by
  refine in70 rfl ?_
  intro Q hQ
  simp (maxSteps := 1000000) (disch := omega) only [cd70, S, S1, S2, S3, S4, S5, ST, eq_self, reduceIte, reduceCtorEq, Nat.reduceEqDiff, Nat.reduceAdd]
  refine CallH.by (Len64b_c n H h0 hn) ?_
  rintro _ _ ⟨⟨k, rfl, hk⟩, rfl⟩
  simp (maxSteps := 1000000) (disch := omega) only [S, S1, S2, S3, S4, S5, ST, eq_self, reduceIte, reduceCtorEq, Nat.reduceEqDiff, Nat.reduceAdd]
  refine hQ _ _ _ ?_
  simp (maxSteps := 1000000) (disch := omega) only [S, S1, S2, S3, S4, S5, ST, eq_self, reduceIte, reduceCtorEq, Nat.reduceEqDiff, Nat.reduceAdd]
  exact ⟨_, rfl, hk⟩
theorem str_z {P : Program} {t : TypeId} (hu : P.underlying t = some .string) (s : ByteArray) (hz : s.size = 256) (k : IntKind) (n : Nat) (h1 : n < 256) : ∃ b : Nat, b < 256 ∧ indexA P t (.string s) (.int k (n : Int)) = some (.int .u8 (b : Int)) := by
  have hlt : n < s.size := by omega
  have e1 : s[(n : Int).toNat]? = some s[n] := by rw [Int.toNat_natCast]; simp [hlt]
  refine ⟨s[n].toNat, UInt8.toNat_lt _, ?_⟩
  simp only [indexA, hu, if_pos (show (0 : Int) ≤ n by omega), e1]
set_option maxRecDepth 20000 in
theorem Len64z_c (n : Nat) (H : AH) (h0 : n = 0) : ACalls Try.prog 91 [.int .u64 (n : Int)] H fun r H' => (∃ k : Int, r = .int .i64 k) ∧ H = H' := by
  refine in91 rfl ?_
  intro Q hQ
  simp (maxSteps := 1000000) (disch := omega) only [cd91, S, S1, S2, S3, S4, S5, ST, eq_self, reduceIte, reduceCtorEq, Nat.reduceEqDiff, Nat.reduceAdd]
  refine brD.intro (fun h => absurd h (by omega)) (fun _ => ?_)
  simp (maxSteps := 1000000) (disch := omega) only [S, S1, S2, S3, S4, S5, ST, eq_self, reduceIte, reduceCtorEq, Nat.reduceEqDiff, Nat.reduceAdd]
  refine brD.intro (fun h => absurd h (by omega)) (fun _ => ?_)
  simp (maxSteps := 1000000) (disch := omega) only [S, S1, S2, S3, S4, S5, ST, eq_self, reduceIte, reduceCtorEq, Nat.reduceEqDiff, Nat.reduceAdd]
  refine brD.intro (fun h => absurd h (by omega)) (fun _ => ?_)
  have hw : IntKind.u8.wrap (n : Int) = (n : Int) := wrapU8 (by omega) (by omega)
  simp (maxSteps := 1000000) (disch := omega) only [hw, wrap64, S, S1, S2, S3, S4, S5, ST, eq_self, reduceIte, reduceCtorEq, Nat.reduceEqDiff, Nat.reduceAdd]
  generalize hs : (ByteArray.mk _) = s
  have hz : s.size = 256 := by rw [← hs]; rfl
  obtain ⟨b, hb2, hb⟩ := str_z (P := Try.prog) Try.underlying9 s hz .u8 n (by omega)
  simp (maxSteps := 1000000) (disch := omega) only [hb, wrap64, S, S1, S2, S3, S4, S5, ST, eq_self, reduceIte, reduceCtorEq, Nat.reduceEqDiff, Nat.reduceAdd]
  refine hQ _ _ _ ?_
  simp (maxSteps := 1000000) (disch := omega) only [S, S1, S2, S3, S4, S5, ST, eq_self, reduceIte, reduceCtorEq, Nat.reduceEqDiff, Nat.reduceAdd]
  exact ⟨_, rfl⟩
theorem Lenz_c (n : Nat) (H : AH) (h0 : n = 0) : ACalls Try.prog 70 [.int .u64 (n : Int)] H fun r H' => (∃ k : Int, r = .int .i64 k) ∧ H = H' := by
  refine in70 rfl ?_
  intro Q hQ
  simp (maxSteps := 1000000) (disch := omega) only [cd70, S, S1, S2, S3, S4, S5, ST, eq_self, reduceIte, reduceCtorEq, Nat.reduceEqDiff, Nat.reduceAdd]
  refine CallH.by (Len64z_c n H h0) ?_
  rintro _ _ ⟨⟨k, rfl⟩, rfl⟩
  simp (maxSteps := 1000000) (disch := omega) only [S, S1, S2, S3, S4, S5, ST, eq_self, reduceIte, reduceCtorEq, Nat.reduceEqDiff, Nat.reduceAdd]
  refine hQ _ _ _ ?_
  simp (maxSteps := 1000000) (disch := omega) only [S, S1, S2, S3, S4, S5, ST, eq_self, reduceIte, reduceCtorEq, Nat.reduceEqDiff, Nat.reduceAdd]
  exact ⟨_, rfl⟩
theorem SortFunc_c {H : AH} {v : Value} {us : List Value} {ls : List (List Int)} (h : Sts H v us ls) :
    ACalls Try.prog 47 [v, fnCmp] H fun r H' => H <+: H' := by
  refine in47 rfl ?_
  intro Q hQ
  have hb := h.bnd
  have hl := h.len
  have hU : IntKind.u64.wrap (ls.length : Int) = (ls.length : Int) := by rw [IntKind.wrap_u64]; omega
  simp (maxSteps := 1000000) (disch := omega) only [cd47, h.row.len Try.underlying26, hl, hU, S, S1, S2, S3, S4, S5, ST, eq_self, reduceIte, reduceCtorEq, Nat.reduceEqDiff, Nat.reduceAdd]
  by_cases h1 : 1 ≤ ls.length
  rotate_left
  · refine CallH.by (Lenz_c ls.length H (by omega)) ?_
    rintro _ _ ⟨⟨k, rfl⟩, rfl⟩
    simp (maxSteps := 1000000) (disch := omega) only [S, S1, S2, S3, S4, S5, ST, eq_self, reduceIte, reduceCtorEq, Nat.reduceEqDiff, Nat.reduceAdd]
    refine CallH.by (pdqCmp_c h k (.inr (by omega))) ?_
    rintro _ B hB
    simp (maxSteps := 1000000) (disch := omega) only [S, S1, S2, S3, S4, S5, ST, eq_self, reduceIte, reduceCtorEq, Nat.reduceEqDiff, Nat.reduceAdd]
    refine hQ _ _ _ ?_
    simp (maxSteps := 1000000) (disch := omega) only [S, S1, S2, S3, S4, S5, ST, eq_self, reduceIte, reduceCtorEq, Nat.reduceEqDiff, Nat.reduceAdd]
    exact hB
  refine CallH.by (Lenb_c ls.length H (by omega) (by omega)) ?_
  rintro _ _ ⟨⟨k, rfl, hk⟩, rfl⟩
  simp (maxSteps := 1000000) (disch := omega) only [S, S1, S2, S3, S4, S5, ST, eq_self, reduceIte, reduceCtorEq, Nat.reduceEqDiff, Nat.reduceAdd]
  refine CallH.by (pdqCmp_c h k (.inl (by omega))) ?_
  rintro _ B hB
  simp (maxSteps := 1000000) (disch := omega) only [S, S1, S2, S3, S4, S5, ST, eq_self, reduceIte, reduceCtorEq, Nat.reduceEqDiff, Nat.reduceAdd]
  refine hQ _ _ _ ?_
  simp (maxSteps := 1000000) (disch := omega) only [S, S1, S2, S3, S4, S5, ST, eq_self, reduceIte, reduceCtorEq, Nat.reduceEqDiff, Nat.reduceAdd]
  exact hB
end Go.Proofs.Ytjnefjchconebab.Ai
namespace Go.Proofs.Ytjnefjchconebab.Ai
open Go
set_option linter.unusedVariables false
theorem cmpL_pre : ∀ (p a b : List Int), cmpL (p ++ a) (p ++ b) = cmpL a b
  | [], a, b => rfl
  | x :: p, a, b => by
    show cmpL (x :: (p ++ a)) (x :: (p ++ b)) = _
    rw [cmpL]
    have : cmpI x x = 0 := by unfold cmpI; simp
    simp only [this]
    simpa using cmpL_pre p a b
theorem srtL_of {ls : List (List Int)} (h : ls.Pairwise fun x y => 0 < cmpL y x) : SrtL ls := by
  intro i j hij hj
  rw [List.pairwise_iff_getElem] at h
  have := h i j (by omega) hj hij
  have e1 : ls.getD i [] = ls[i] := by simp [show i < ls.length by omega]
  have e2 : ls.getD j [] = ls[j] := by simp [hj]
  rw [e1, e2]; exact this
theorem cmpL_head (p r q : List Int) {e f : Int} (h : e < f) : 0 < cmpL (p ++ f :: q) (p ++ e :: r) := by
  rw [cmpL_pre, cmpL]
  have h1 : cmpI f e = 1 := by
    unfold cmpI
    have a : ¬ f < e := by omega
    simp [a, h]
  rw [h1, if_pos (by decide)]; decide
end Go.Proofs.Ytjnefjchconebab.Ai
namespace Go.Proofs.Ytjnefjchconebab.Ai
open Go
set_option linter.unusedVariables false
/-- the trees that begin with some edges and go on with the last k ones -/
def grA (es : List (Int × Int)) (n : Nat) : Nat → List Int → List (List Int)
  | 0, T => if T.length + 1 = n then [T] else []
  | k + 1, T => if T.length + 1 = n then [T] else
      (if jnB es n T (enA es ((es.length - (k + 1) : Nat) : Int)) (enB es ((es.length - (k + 1) : Nat) : Int)) = true then [] else grA es n k (T ++ [((es.length - (k + 1) : Nat) : Int)])) ++ grA es n k T
theorem grA_full {es : List (Int × Int)} {n : Nat} {T : List Int} (h : T.length + 1 = n) : ∀ k, grA es n k T = [T]
  | 0 => by rw [grA, if_pos h]
  | k + 1 => by rw [grA, if_pos h]
theorem grA_few {es : List (Int × Int)} {n : Nat} : ∀ k (T : List Int), T.length + 1 + k < n → grA es n k T = []
  | 0, T, h => by rw [grA, if_neg (by omega)]
  | k + 1, T, h => by
    rw [grA, if_neg (by omega), grA_few k T (by omega), List.append_nil]
    split
    · rfl
    · exact grA_few k _ (by simp; omega)
/-- no edge joins what those before it join -/
def Fst (es : List (Int × Int)) (T : List Int) : Prop := ∀ k, k < T.length → ¬ Jn es (T.take k) (enA es (T.getD k 0)) (enB es (T.getD k 0))
theorem Fst.nil (es : List (Int × Int)) : Fst es [] := fun k hk => absurd hk (Nat.not_lt_zero k)
theorem Fst.snoc {es : List (Int × Int)} {T : List Int} {e : Int} (h : Fst es T) (he : ¬ Jn es T (enA es e) (enB es e)) : Fst es (T ++ [e]) := by
  intro k hk
  rw [List.length_append, List.length_singleton] at hk
  by_cases g : k < T.length
  · have e1 : (T ++ [e]).getD k 0 = T.getD k 0 := by
      rw [List.getD_eq_getElem?_getD, List.getElem?_append_left g, ← List.getD_eq_getElem?_getD]
    rw [e1, List.take_append_of_le_length (by omega)]
    exact h k g
  · have : k = T.length := by omega
    subst this
    have e1 : (T ++ [e]).getD T.length 0 = e := by
      rw [List.getD_eq_getElem?_getD, List.getElem?_append_right (Nat.le_refl _)]; simp
    rw [e1, List.take_append_of_le_length (Nat.le_refl _), List.take_length]
    exact he
/-- a beginning of a tree -/
structure Beg (n : Nat) (es : List (Int × Int)) (k : Nat) (T : List Int) : Prop where
  fst : Fst es T
  asc : T.Pairwise (· < ·)
  low : ∀ e ∈ T, 0 ≤ e ∧ e < ((es.length - k : Nat) : Int)
  len : T.length + 1 ≤ n
theorem Beg.ed {n : Nat} {es : List (Int × Int)} {k : Nat} {T : List Int} (h : Beg n es k T) : EdIn es T := fun e he => by have := h.low e he; omega
theorem Beg.nil {n : Nat} (hn : 1 ≤ n) (es : List (Int × Int)) : Beg n es es.length [] := ⟨Fst.nil es, .nil, fun e he => by simp at he, hn⟩
theorem Beg.skip {n : Nat} {es : List (Int × Int)} {k : Nat} {T : List Int} (h : Beg n es (k + 1) T) : Beg n es k T := ⟨h.fst, h.asc, fun e he => by have := h.low e he; omega, h.len⟩
theorem Beg.snoc {n : Nat} {es : List (Int × Int)} (hg : Grd (n : Int) es) {k : Nat} {T : List Int} (h : Beg n es (k + 1) T) (hk : k + 1 ≤ es.length) (hl : T.length + 1 ≠ n) (hj : ¬ jnB es n T (enA es ((es.length - (k + 1) : Nat) : Int)) (enB es ((es.length - (k + 1) : Nat) : Int)) = true) : Beg n es k (T ++ [((es.length - (k + 1) : Nat) : Int)]) := by
  have he : (0 : Int) ≤ ((es.length - (k + 1) : Nat) : Int) ∧ ((es.length - (k + 1) : Nat) : Int) < es.length := by omega
  have hen := en_eq hg he
  refine ⟨h.fst.snoc fun q => hj ((jnB_iff hg h.ed (by omega) (by omega)).2 q), ?_, fun e hm => ?_, by have := h.len; simp; omega⟩
  · rw [List.pairwise_append]
    exact ⟨h.asc, by simp, fun a ha b hb => by rw [List.mem_singleton.1 hb]; exact (h.low a ha).2⟩
  · rcases List.mem_append.1 hm with q | q
    · have := h.low e q; omega
    · rw [List.mem_singleton.1 q]; omega
theorem Beg.tree {n : Nat} {es : List (Int × Int)} (hg : Grd (n : Int) es) {k : Nat} {T : List Int} (h : Beg n es k T) (hl : T.length + 1 = n) : TreL n es T :=
  ⟨hl, h.asc, h.ed, (tree_iff (h.asc.imp fun q e => by omega) hl (h.ed.ends hg)).1 h.fst⟩
theorem grA_tree {n : Nat} {es : List (Int × Int)} (hg : Grd (n : Int) es) : ∀ (k : Nat) (T : List Int), k ≤ es.length → Beg n es k T → ∀ U ∈ grA es n k T, TreL n es U ∧ ∃ r, U = T ++ r
  | 0, T, hk, h, U, hU => by
    rw [grA] at hU
    split at hU
    · rename_i e
      rw [List.mem_singleton] at hU
      subst hU
      exact ⟨h.tree hg e, [], by simp⟩
    · simp at hU
  | k + 1, T, hk, h, U, hU => by
    rw [grA] at hU
    split at hU
    · rename_i e
      rw [List.mem_singleton] at hU
      subst hU
      exact ⟨h.tree hg e, [], by simp⟩
    · rename_i e
      rcases List.mem_append.1 hU with hU | hU
      · split at hU
        · simp at hU
        · rename_i hj
          obtain ⟨h1, r, h2⟩ := grA_tree hg k _ (by omega) (h.snoc hg hk e hj) U hU
          exact ⟨h1, _, by rw [h2, List.append_assoc]⟩
      · exact grA_tree hg k T (by omega) h.skip U hU
/-- what is not taken is greater -/
theorem grA_rest {n : Nat} {es : List (Int × Int)} : ∀ (k : Nat) (T : List Int), k ≤ es.length → ∀ U ∈ grA es n k T, ∃ r, U = T ++ r ∧ ∀ e ∈ r, ((es.length - k : Nat) : Int) ≤ e
  | 0, T, hk, U, hU => by
    rw [grA] at hU
    split at hU
    · rw [List.mem_singleton] at hU; subst hU; exact ⟨[], by simp, by simp⟩
    · simp at hU
  | k + 1, T, hk, U, hU => by
    rw [grA] at hU
    split at hU
    · rw [List.mem_singleton] at hU; subst hU; exact ⟨[], by simp, by simp⟩
    · rcases List.mem_append.1 hU with hU | hU
      · split at hU
        · simp at hU
        · obtain ⟨r, r1, r2⟩ := grA_rest k _ (by omega) U hU
          refine ⟨_ :: r, by rw [r1, List.append_assoc]; rfl, fun e he => ?_⟩
          rcases List.mem_cons.1 he with rfl | he
          · exact Int.le_refl _
          · have := r2 e he; omega
      · obtain ⟨r, r1, r2⟩ := grA_rest k T (by omega) U hU
        exact ⟨r, r1, fun e he => by have := r2 e he; omega⟩
/-- they come in order -/
theorem grA_pw {n : Nat} {es : List (Int × Int)} (hg : Grd (n : Int) es) : ∀ (k : Nat) (T : List Int), k ≤ es.length → Beg n es k T → (grA es n k T).Pairwise fun x y => 0 < cmpL y x
  | 0, T, hk, h => by rw [grA]; split <;> simp
  | k + 1, T, hk, h => by
    rw [grA]
    split
    · simp
    · rename_i e
      rw [List.pairwise_append]
      refine ⟨?_, grA_pw hg k T (by omega) h.skip, fun U hU V hV => ?_⟩
      · split
        · exact .nil
        · rename_i hj
          exact grA_pw hg k _ (by omega) (h.snoc hg hk e hj)
      · split at hU
        · simp at hU
        · rename_i hj
          obtain ⟨r, r1, r2⟩ := grA_rest k _ (by omega) U hU
          obtain ⟨q, q1, q2⟩ := grA_rest k T (by omega) V hV
          obtain ⟨tV, _⟩ := grA_tree hg k T (by omega) h.skip V hV
          cases q with
          | nil =>
            have := tV.1
            rw [q1, List.append_nil] at this
            exact absurd this e
          | cons f q =>
            rw [r1, q1, List.append_assoc]
            refine cmpL_head T r q ?_
            have := q2 f (by simp)
            omega
/-- each tree is there -/
theorem grA_all {n : Nat} {es : List (Int × Int)} (hg : Grd (n : Int) es) {U : List Int} (hU : TreL n es U) : ∀ (k : Nat) (T r : List Int), k ≤ es.length → Beg n es k T → U = T ++ r → (∀ e ∈ r, ((es.length - k : Nat) : Int) ≤ e) → U ∈ grA es n k T
  | 0, T, r, hk, h, hr, hge => by
    have hrn : r = [] := by
      cases r with
      | nil => rfl
      | cons f r =>
        have h1 := hge f (by simp)
        have h2 := hU.2.2.1 f (by rw [hr]; simp)
        omega
    subst hrn
    rw [List.append_nil] at hr
    subst hr
    rw [grA, if_pos hU.1]; simp
  | k + 1, T, r, hk, h, hr, hge => by
    rw [grA]
    by_cases e : T.length + 1 = n
    · rw [if_pos e]
      have hrn : r = [] := by
        have := hU.1
        rw [hr, List.length_append] at this
        exact List.eq_nil_of_length_eq_zero (by omega)
      rw [hr, hrn]; simp
    · rw [if_neg e, List.mem_append]
      have hfst := (tree_iff (hU.2.1.imp fun q e => by omega) hU.1 (hU.2.2.1.ends hg)).2 hU.2.2.2
      cases r with
      | nil => rw [hr, List.append_nil] at hU; exact absurd hU.1 e
      | cons f r =>
        have hf := hge f (by simp)
        have hasc := hU.2.1
        rw [hr, List.pairwise_append] at hasc
        have hasc2 := List.pairwise_cons.1 hasc.2.1
        by_cases g : f = ((es.length - (k + 1) : Nat) : Int)
        · left
          subst g
          have hen := en_eq hg (hU.2.2.1 _ (by rw [hr]; simp) : (0 : Int) ≤ ((es.length - (k + 1) : Nat) : Int) ∧ ((es.length - (k + 1) : Nat) : Int) < es.length)
          have hj : ¬ jnB es n T (enA es ((es.length - (k + 1) : Nat) : Int)) (enB es ((es.length - (k + 1) : Nat) : Int)) = true := by
            intro q
            have q := (jnB_iff hg h.ed (by omega) (by omega)).1 q
            have h1 := hfst T.length (by rw [hr]; simp)
            have e1 : U.getD T.length 0 = ((es.length - (k + 1) : Nat) : Int) := by
              rw [hr, List.getD_eq_getElem?_getD, List.getElem?_append_right (Nat.le_refl _)]; simp
            have e2 : U.take T.length = T := by rw [hr, List.take_append_of_le_length (Nat.le_refl _), List.take_length]
            rw [e1, e2] at h1
            exact h1 q
          rw [if_neg hj]
          refine grA_all hg hU k _ r (by omega) (h.snoc hg hk e hj) (by rw [hr, List.append_assoc]; rfl) fun x hx => ?_
          have := hasc2.1 x hx
          omega
        · right
          refine grA_all hg hU k T (f :: r) (by omega) h.skip hr fun x hx => ?_
          rcases List.mem_cons.1 hx with rfl | hx
          · omega
          · have := hasc2.1 x hx; omega
/-- all trees -/
def treA (n : Nat) (es : List (Int × Int)) : List (List Int) := grA es n es.length []
theorem treA_iff {n : Nat} (hn : 1 ≤ n) {es : List (Int × Int)} (hg : Grd (n : Int) es) (U : List Int) : U ∈ treA n es ↔ TreL n es U :=
  ⟨fun h => (grA_tree hg _ [] (Nat.le_refl _) (Beg.nil hn es) U h).1, fun h => grA_all hg h es.length [] U (Nat.le_refl _) (Beg.nil hn es) (by simp) fun e he => by have := h.2.2.1 e he; omega⟩
theorem treA_pw {n : Nat} (hn : 1 ≤ n) {es : List (Int × Int)} (hg : Grd (n : Int) es) : (treA n es).Pairwise fun x y => 0 < cmpL y x := grA_pw hg _ [] (Nat.le_refl _) (Beg.nil hn es)
end Go.Proofs.Ytjnefjchconebab.Ai
namespace Go.Proofs.Ytjnefjchconebab.Ai
open Go Go.RowKit
set_option linter.unusedVariables false
/-- the lists of a list of lists -/
theorem InL.parts {lo hi : Nat} {e2 e : TypeId} {H : AH} {v : Value} {ls : List (List Int)} (h : InL lo hi e2 e H v ls) : ∃ us : List Value, RowV e2 H v us ∧ us.length = ls.length ∧ ∀ i, i < ls.length → InI lo hi e H (us.getD i undef) (ls.getD i []) := by
  rcases h with ⟨h1, h2⟩ | ⟨o, us, h0, h1, h2, h3, h4, h5, h6⟩
  · subst h1; subst h2; exact ⟨[], .inl ⟨rfl, rfl⟩, rfl, fun i hi => absurd hi (by simp)⟩
  · refine ⟨us.take ls.length, .inr ⟨o, 0, us, false, by simp [h0, Nat.min_eq_left h4], h3, by simp; omega, by simp [Nat.min_eq_left h4]⟩, by simp; omega, fun i hi => ?_⟩
    have : (us.take ls.length).getD i undef = us.getD i undef := by
      rw [List.getD_eq_getElem?_getD, List.getD_eq_getElem?_getD, List.getElem?_take, if_pos hi]
    rw [this]
    exact (h5 i hi).1
end Go.Proofs.Ytjnefjchconebab.Ai
namespace Go.Proofs.Ytjnefjchconebab.Ai
open Go
def ords26 : List (Nat × List (Nat × Bool)) := []
def cd26 : Cd := (.seq (.reg [⟨⟨some 4, Op.alloc 28, none⟩, []⟩]) (.seq (.reg [⟨⟨some 10, Op.move (Operand.tmp 0), none⟩, []⟩,
  ⟨⟨some 11, Op.build 28 #[(0, (Operand.tmp 10))], none⟩, []⟩,
  ⟨⟨some 5, Op.alloc 28, none⟩, []⟩,
  ⟨⟨none, Op.store 28 (Operand.tmp 5) (Operand.tmp 11), none⟩, []⟩]) (.seq (.reg [⟨⟨some 12, Op.fieldAddr 28 (Operand.tmp 5) 0, none⟩, []⟩,
  ⟨⟨some 13, Op.load 26 (Operand.tmp 12), none⟩, []⟩,
  ⟨⟨some 14, Op.call { callee := (Callee.value (Operand.func 47)), args := #[(Operand.tmp 13), (Operand.func 48)], argTypes := #[26, 57] }, none⟩, []⟩]) (.seq (.seq (.reg [⟨⟨some 15, Op.fieldAddr 28 (Operand.tmp 5) 0, none⟩, []⟩,
  ⟨⟨some 16, Op.load 26 (Operand.tmp 15), none⟩, []⟩,
  ⟨⟨some 17, Op.call { callee := (Callee.builtin Builtin.len), args := #[(Operand.tmp 16)], argTypes := #[26] }, none⟩, []⟩,
  ⟨⟨some 18, Op.move (Operand.const (Value.int IntKind.i64 0)), none⟩, []⟩]) (.block 0 (.loop (.seq (.reg [⟨⟨some 19, Op.binOp BinOp.lss 3 (Operand.tmp 18) (Operand.tmp 17) 3, none⟩, []⟩]) (.seq (.cond (Operand.tmp 19) .skip (.exit 0)) (.seq (.block 1 (.seq (.reg [⟨⟨some 20, Op.move (Operand.tmp 18), none⟩, []⟩,
  ⟨⟨some 21, Op.indexAddr 26 (Operand.tmp 16) (Operand.tmp 18), none⟩, []⟩,
  ⟨⟨some 22, Op.load 38 (Operand.tmp 21), none⟩, []⟩,
  ⟨⟨some 6, Op.assign (Operand.tmp 20), none⟩, []⟩,
  ⟨⟨some 7, Op.assign (Operand.tmp 22), none⟩, []⟩]) (.seq (.reg [⟨⟨some 23, Op.fieldAddr 28 (Operand.tmp 5) 0, none⟩, []⟩,
  ⟨⟨some 24, Op.load 26 (Operand.tmp 23), none⟩, []⟩,
  ⟨⟨some 25, Op.move (Operand.tmp 6), none⟩, []⟩,
  ⟨⟨some 26, Op.binOp BinOp.add 3 (Operand.tmp 25) (Operand.const (Value.int IntKind.i64 1)) 3, none⟩, []⟩,
  ⟨⟨some 27, Op.slice 26 (Operand.tmp 24) (some (Operand.tmp 26)) none none, none⟩, []⟩,
  ⟨⟨some 28, Op.call { callee := (Callee.builtin Builtin.len), args := #[(Operand.tmp 27)], argTypes := #[26] }, none⟩, []⟩,
  ⟨⟨some 29, Op.move (Operand.const (Value.int IntKind.i64 0)), none⟩, []⟩]) (.block 2 (.loop (.seq (.reg [⟨⟨some 30, Op.binOp BinOp.lss 3 (Operand.tmp 29) (Operand.tmp 28) 3, none⟩, []⟩]) (.seq (.cond (Operand.tmp 30) .skip (.exit 2)) (.seq (.block 3 (.seq (.reg [⟨⟨some 31, Op.move (Operand.tmp 29), none⟩, []⟩,
  ⟨⟨some 32, Op.indexAddr 26 (Operand.tmp 27) (Operand.tmp 29), none⟩, []⟩,
  ⟨⟨some 33, Op.load 38 (Operand.tmp 32), none⟩, []⟩,
  ⟨⟨some 8, Op.assign (Operand.tmp 31), none⟩, []⟩,
  ⟨⟨some 9, Op.assign (Operand.tmp 33), none⟩, []⟩]) (.seq (.reg [⟨⟨some 34, Op.move (Operand.tmp 1), none⟩, []⟩,
  ⟨⟨some 35, Op.move (Operand.tmp 7), none⟩, []⟩,
  ⟨⟨some 36, Op.move (Operand.tmp 9), none⟩, []⟩,
  ⟨⟨some 37, Op.call { callee := (Callee.value (Operand.tmp 34)), args := #[(Operand.tmp 35), (Operand.tmp 36)], argTypes := #[38, 38] }, none⟩, []⟩]) (.cond (Operand.tmp 37) (.reg [⟨⟨some 38, Op.fieldAddr 28 (Operand.tmp 5) 1, none⟩, []⟩,
  ⟨⟨some 39, Op.load 22 (Operand.tmp 38), none⟩, []⟩,
  ⟨⟨some 40, Op.move (Operand.tmp 6), none⟩, []⟩,
  ⟨⟨some 41, Op.move (Operand.tmp 6), none⟩, []⟩,
  ⟨⟨some 42, Op.binOp BinOp.add 3 (Operand.tmp 41) (Operand.const (Value.int IntKind.i64 1)) 3, none⟩, []⟩,
  ⟨⟨some 43, Op.move (Operand.tmp 8), none⟩, []⟩,
  ⟨⟨some 44, Op.binOp BinOp.add 3 (Operand.tmp 42) (Operand.tmp 43) 3, none⟩, []⟩,
  ⟨⟨some 45, Op.build 66 #[(0, (Operand.tmp 40)), (1, (Operand.tmp 44))], none⟩, []⟩,
  ⟨⟨some 46, Op.buildSlice 22 1 #[(0, (Operand.tmp 45))], none⟩, []⟩,
  ⟨⟨some 47, Op.call { callee := (Callee.builtin Builtin.append), args := #[(Operand.tmp 39), (Operand.tmp 46)], argTypes := #[22, 22] }, none⟩, []⟩,
  ⟨⟨some 48, Op.fieldAddr 28 (Operand.tmp 5) 1, none⟩, []⟩,
  ⟨⟨none, Op.store 22 (Operand.tmp 48) (Operand.tmp 47), none⟩, []⟩]) .skip)))) (.reg [⟨⟨some 49, Op.binOp BinOp.add 3 (Operand.tmp 29) (Operand.const (Value.int IntKind.i64 1)) 3, none⟩, []⟩,
  ⟨⟨some 29, Op.move (Operand.tmp 49), none⟩, []⟩]))))))))) (.reg [⟨⟨some 50, Op.binOp BinOp.add 3 (Operand.tmp 18) (Operand.const (Value.int IntKind.i64 1)) 3, none⟩, []⟩,
  ⟨⟨some 18, Op.move (Operand.tmp 50), none⟩, []⟩]))))))) (.seq (.reg [⟨⟨some 51, Op.load 28 (Operand.tmp 5), none⟩, []⟩,
  ⟨⟨none, Op.store 28 (Operand.tmp 4) (Operand.tmp 51), none⟩, []⟩]) .ret)))))
theorem sl26 : slim Try.f26.ntmps ords26 (Try.f26.body.getD .skip) = some cd26 := by kernel_rfl
set_option maxRecDepth 20000 in
theorem in26 {args : List Value} {H : AH} {R : Value → AH → Prop} (hl : args.length = 2) (h : ∀ (Q : Exit → Sl → AH → Prop), (∀ e s H, endA Try.prog [ResultVar.cell 4 28] R e s H → Q e s H) → wpC Try.prog cd26 Q (enterA args) H) : ACalls Try.prog 26 args H R :=
  ACalls.intro (by kernel_rfl) Try.func26 rfl (by kernel_rfl) sl26 hl (of_decide_eq_true (by kernel_rfl)) (by kernel_rfl) h
end Go.Proofs.Ytjnefjchconebab.Ai
namespace Go.Proofs.Ytjnefjchconebab.Ai
open Go Go.RowKit
set_option linter.unusedVariables false
set_option linter.unusedSimpArgs false
theorem alloc_sp (H : AH) : allocA Try.prog 28 H = some (.pointer (some ⟨H.length, 0, none⟩), H ++ [.cells [.slice none 0 0, .slice none 0 0] 28 false]) := by kernel_rfl
theorem bld_sp1 (p : Option Addr) (n c : Nat) : buildA Try.prog 28 [(0, .slice p n c)] = some (.agg (List.toArray [.slice p n c, .slice none 0 0])) := by kernel_rfl
theorem bld_sp2 (p q : Option Addr) (n c m d : Nat) : buildA Try.prog 28 [(0, .slice p n c), (1, .slice q m d)] = some (.agg (List.toArray [.slice p n c, .slice q m d])) := by kernel_rfl
theorem bld_sp0 : buildA Try.prog 28 [] = some (.agg (List.toArray [.slice none 0 0, .slice none 0 0])) := by kernel_rfl
theorem st_ss {e : TypeId} {H : AH} {o : Nat} {vs : List Value} (ho : H[o]? = some (.cells vs e false)) (hv : vs.length = 2) (p q : Option Addr) (n c m d : Nat) :
    storeA Try.prog 28 (.pointer (some ⟨o, 0, none⟩)) (.agg (List.toArray [.slice p n c, .slice q m d])) H = some (H.set o (.cells [.slice p n c, .slice q m d] e false)) := by
  simp only [storeA, ho, cs28]
  have hcl : (Value.agg (List.toArray [.slice p n c, .slice q m d])).cells.toList = [.slice p n c, .slice q m d] := rfl
  rw [hcl, if_pos ⟨rfl, rfl, by decide, by rw [hv]; exact Nat.le_refl 2⟩]
  have : putAt vs 0 [.slice p n c, .slice q m d] = [.slice p n c, .slice q m d] := by
    unfold putAt
    rw [List.take_zero, List.nil_append, List.drop_of_length_le (by simp; omega), List.append_nil]
  rw [this]
/-- the end of a function with a variable and a value as results -/
theorem end_cell2 (P : Program) (a b : Nat) (t : TypeId) (R : Value → AH → Prop) (s : Sl) (H : AH) (v w : Value) (h : loadA P t (s a) H = some v) (ht : isTup v = false) (hb : s b = w) (hw : isTup w = false) (hr : R (.tuple (List.toArray [v, w])) H) : endA P [.cell a t, .tmp b] R .ret s H := by
  subst hb
  simp only [endA, resA, h, ht]
  simp [hw, outA]
  exact hr
/-- the steps between lists of which something is so -/
def stpI (p : List Int → List Int → Bool) (ls : List (List Int)) (i : Nat) : Nat → List (Int × Int)
  | 0 => []
  | k + 1 => stpI p ls i k ++ if p (ls.getD i []) (ls.getD (i + 1 + k) []) = true then [((i : Int), ((i + 1 + k : Nat) : Int))] else []
def stpO (p : List Int → List Int → Bool) (ls : List (List Int)) : Nat → List (Int × Int)
  | 0 => []
  | i + 1 => stpO p ls i ++ stpI p ls i (ls.length - (i + 1))
theorem stpI_len (p : List Int → List Int → Bool) (ls : List (List Int)) (i k : Nat) : (stpI p ls i k).length ≤ k := by
  induction k with
  | zero => simp [stpI]
  | succ k ih => simp only [stpI, List.length_append]; split <;> simp <;> omega
theorem stpO_len (p : List Int → List Int → Bool) (ls : List (List Int)) (i : Nat) : (stpO p ls i).length ≤ i * ls.length := by
  induction i with
  | zero => simp [stpO]
  | succ i ih =>
    have := stpI_len p ls i (ls.length - (i + 1))
    simp only [stpO, List.length_append, Nat.add_mul, Nat.one_mul]
    omega
abbrev steps (p : List Int → List Int → Bool) (ls : List (List Int)) : List (Int × Int) := stpO p ls ls.length
/-- is a step between two lists: a function of the program's -/
def StepFn (HB : AH) (fS : FuncId) (caps : List Value) (ls : List (List Int)) (p : List Int → List Int → Bool) : Prop :=
  ∀ (a b : Value) (x y : List Int) (H : AH), HB <+: H → Row 3 H a x → Row 3 H b y → x ∈ ls → y ∈ ls → ACalls Try.prog fS (a :: b :: caps) H fun r H' => r = .bool (p x y) ∧ H <+: H'
set_option maxRecDepth 20000 in
set_option maxHeartbeats 4000000 in
theorem spaceOf_c {HB H : AH} {v : Value} {us : List Value} {ls : List (List Int)} (h : Sts H v us ls) (hls : ls.length ≤ 1000) (fS : FuncId) (caps : List Value) (p : List Int → List Int → Bool) (hS : StepFn HB fS caps ls p) (hp : HB <+: H) :
    ACalls Try.prog 26 [v, .func (.func fS) #[] (List.toArray caps)] H fun r H' => ∃ st, r = .agg (List.toArray [v, st]) ∧ MineP 66 H H' st (steps p ls) ∧ H <+: H' := by
  refine in26 rfl ?_
  intro Q hQ
  have hul := h.len
  obtain ⟨pv, hpv⟩ := h.row.shape
  have hb1 := bld_sp1 pv us.length us.length
  rw [← hpv] at hb1
  simp (maxSteps := 1000000) (disch := omega) only [cd26, alloc_sp, hb1, S, S1, S2, S3, S4, S5, ST, eq_self, reduceIte, reduceCtorEq, Nat.reduceEqDiff, Nat.reduceAdd]
  generalize hA : H ++ [AObj.cells [.slice none 0 0, .slice none 0 0] 28 false] = A
  have pA : H <+: A := by rw [← hA]; exact List.prefix_append _ _
  have cA : A[H.length]? = some (.cells [.slice none 0 0, .slice none 0 0] 28 false) := by rw [← hA]; exact at_new ..
  have lA : A.length = H.length + 1 := by rw [← hA]; simp
  have st1 := st_ss (at_new A (.cells [.slice none 0 0, .slice none 0 0] 28 false)) rfl pv none us.length us.length 0 0
  rw [set_new, ← hpv] at st1
  simp (maxSteps := 1000000) (disch := omega) only [st1, cell_new, S, S1, S2, S3, S4, S5, ST, eq_self, reduceIte, reduceCtorEq, Nat.reduceEqDiff, Nat.reduceAdd]
  generalize hB : A ++ [AObj.cells [v, .slice none 0 0] 28 false] = B
  have pB : A <+: B := by rw [← hB]; exact List.prefix_append _ _
  have cB : B[A.length]? = some (.cells [v, .slice none 0 0] 28 false) := by rw [← hB]; exact at_new ..
  have lB : B.length = A.length + 1 := by rw [← hB]; simp
  have pHB := pA.trans pB
  refine CallH.by (SortFunc_c (h.pre pHB)) ?_
  rintro _ C pC
  have pHC := pHB.trans pC
  have lC := pC.length_le
  have cC := pre_at pC cB
  have cC0 := pre_at (pB.trans pC) cA
  simp (maxSteps := 1000000) (disch := omega) only [cell_of cC, h.row.len Try.underlying26, hul, S, S1, S2, S3, S4, S5, ST, eq_self, reduceIte, reduceCtorEq, Nat.reduceEqDiff, Nat.reduceAdd]
  refine LoopH.by (fun m s H' => ∃ i st, m + i = ls.length ∧ s 1 = .func (.func fS) #[] (List.toArray caps) ∧ s 4 = .pointer (some ⟨H.length, 0, none⟩) ∧ s 5 = .pointer (some ⟨A.length, 0, none⟩) ∧ s 16 = v ∧ s 17 = .int .i64 (ls.length : Int) ∧ s 18 = .int .i64 ((i : Nat) : Int) ∧ H'[A.length]? = some (.cells [v, st] 28 false) ∧ H'[H.length]? = some (.cells [.slice none 0 0, .slice none 0 0] 28 false) ∧ (st = .slice none 0 0 ∨ B.length ≤ rowO st) ∧ MineP 66 H H' st (stpO p ls i) ∧ H <+: H') ls.length ?_ ?_
  · exact ⟨0, .slice none 0 0, by simp, rfl, rfl, rfl, rfl, rfl, rfl, cC, cC0, .inl rfl, .inl ⟨rfl, rfl⟩, pHC⟩
  rintro m s H' ⟨i, st, hm, s1, s4, s5, s16, s17, s18, hc5, hc4, hst, hmn, hpp⟩
  simp (maxSteps := 1000000) (disch := omega) only [s1, s4, s5, s16, s17, s18, S, S1, S2, S3, S4, S5, ST, eq_self, reduceIte, reduceCtorEq, Nat.reduceEqDiff, Nat.reduceAdd]
  refine brD.intro (fun g => ?_) (fun g => ?_)
  rotate_left
  · have hi : i = ls.length := by omega
    subst hi
    have hst2 : isTup st = false := hmn.row.tup
    obtain ⟨q, hq⟩ := hmn.row.shape
    have hstA := st_ss hc4 rfl pv q us.length us.length (stpO p ls ls.length).length (stpO p ls ls.length).length
    rw [← hpv, ← hq] at hstA
    simp (maxSteps := 1000000) (disch := omega) only [s4, s5, ld_agg ag28 cs28 hc5, hstA, S, S1, S2, S3, S4, S5, ST, eq_self, reduceIte, reduceCtorEq, Nat.reduceEqDiff, Nat.reduceAdd]
    have d4 := at_set (d := .cells [v, st] 28 false) hc4
    refine hQ _ _ _ (end_cell _ _ _ _ _ _ (.agg (List.toArray [v, st])) ?_ rfl ⟨st, rfl, ?_, ?_⟩)
    · simp (maxSteps := 1000000) (disch := omega) only [s4, ld_agg ag28 cs28 d4, S, S1, S2, S3, S4, S5, ST, eq_self, reduceIte, reduceCtorEq, Nat.reduceEqDiff, Nat.reduceAdd]
    · rcases hst with e | e
      · rcases hmn with hm0 | ⟨o, zs, q1, _⟩
        · exact .inl hm0
        · rw [e] at q1; cases q1
      · refine hmn.keepL ?_
        intro hl y hy
        rw [List.getElem?_set_ne (by omega)]
        exact hy
    · exact pre_set hpp (Nat.le_refl _) _
  have hi : i < ls.length := by omega
  have hH' := h.pre hpp
  have hci := hH'.cell hi
  have hri := hH'.each i hi
  have hmi : ls.getD i [] ∈ ls := by simp [hi]
  have hsl := hH'.row.slice (P := Try.prog) (t := 26) Try.underlying26 cs38 (bound_some (k := .i64) (i := (i : Int) + 1) (by omega) 0) (hi_none us.length) (show ((i : Int) + 1).toNat ≤ us.length by omega) (Nat.le_refl _)
  have hi1 : ((i : Int) + 1).toNat = i + 1 := by omega
  rw [hi1] at hsl
  obtain ⟨hsl1, hsl2, hsl3⟩ := hsl
  have hdl : (us.drop (i + 1)).take (us.length - (i + 1)) = us.drop (i + 1) := by rw [List.take_of_length_le (by simp)]
  rw [hdl] at hsl2
  have hdn : ((us.drop (i + 1)).length : Int) = ((ls.length - (i + 1) : Nat) : Int) := by simp; omega
  simp (maxSteps := 1000000) (disch := omega) only [s1, s4, s5, s16, s17, s18, hH'.row.ix Try.underlying26 cs38, Int.toNat_natCast, hci, cell_of hc5, wrap64, hsl1, hsl2.len Try.underlying26, hdn, S, S1, S2, S3, S4, S5, ST, eq_self, reduceIte, reduceCtorEq, Nat.reduceEqDiff, Nat.reduceAdd]
  refine LoopH.by (fun m' s' H'' => ∃ j st', m' + j = ls.length - (i + 1) ∧ s' 1 = .func (.func fS) #[] (List.toArray caps) ∧ s' 4 = .pointer (some ⟨H.length, 0, none⟩) ∧ s' 5 = .pointer (some ⟨A.length, 0, none⟩) ∧ s' 6 = .int .i64 ((i : Nat) : Int) ∧ s' 7 = us.getD i undef ∧ s' 16 = v ∧ s' 17 = .int .i64 (ls.length : Int) ∧ s' 18 = .int .i64 ((i : Nat) : Int) ∧ s' 27 = subV v (i + 1) us.length ∧ s' 28 = .int .i64 ((ls.length - (i + 1) : Nat) : Int) ∧ s' 29 = .int .i64 ((j : Nat) : Int) ∧ H''[A.length]? = some (.cells [v, st'] 28 false) ∧ H''[H.length]? = some (.cells [.slice none 0 0, .slice none 0 0] 28 false) ∧ (st' = .slice none 0 0 ∨ B.length ≤ rowO st') ∧ MineP 66 H H'' st' (stpO p ls i ++ stpI p ls i j) ∧ H <+: H'') (ls.length - (i + 1)) ?_ ?_
  · refine ⟨0, st, by simp, ?_⟩
    simp only [S, S1, S2, S3, S4, S5, ST, eq_self, reduceIte, reduceCtorEq, Nat.reduceEqDiff, Nat.reduceAdd, s1, s4, s5, s16, s17, s18]
    have f0 : MineP 66 H H' st (stpO p ls i ++ stpI p ls i 0) := by rw [stpI, List.append_nil]; exact hmn
    (repeat' first | exact hc5 | exact hc4 | exact hst | exact f0 | exact hpp | apply And.intro) <;> first | (simp only [Value.int.injEq, true_and]; omega) | omega | rfl | assumption | (simp; done) | (simp; omega)
  · rintro m' s' H'' ⟨j, st', hm', g1, g4, g5, g6, g7, g16, g17, g18, g27, g28, g29, hc5', hc4', hst', hmn', hpp'⟩
    simp (maxSteps := 1000000) (disch := omega) only [g1, g4, g5, g6, g7, g16, g17, g18, g27, g28, g29, S, S1, S2, S3, S4, S5, ST, eq_self, reduceIte, reduceCtorEq, Nat.reduceEqDiff, Nat.reduceAdd]
    refine brD.intro (fun q => ?_) (fun q => ?_)
    · have hj : i + 1 + j < ls.length := by omega
      have hH2 := h.pre hpp'
      have hsl' := hH2.row.slice (P := Try.prog) (t := 26) Try.underlying26 cs38 (bound_some (k := .i64) (i := (i : Int) + 1) (by omega) 0) (hi_none us.length) (show ((i : Int) + 1).toNat ≤ us.length by omega) (Nat.le_refl _)
      rw [hi1, hdl] at hsl'
      obtain ⟨_, hsr, _⟩ := hsl'
      have hjd : j < (us.drop (i + 1)).length := by simp; omega
      have hcj := hsr.cell hjd
      have hdd : (us.drop (i + 1)).getD j undef = us.getD (i + 1 + j) undef := by
        rw [List.getD_eq_getElem?_getD, List.getD_eq_getElem?_getD, List.getElem?_drop]
      rw [hdd] at hcj
      have hmj : ls.getD (i + 1 + j) [] ∈ ls := by simp [hj]
      simp (maxSteps := 1000000) (disch := omega) only [g1, g4, g5, g6, g7, g16, g17, g18, g27, g28, g29, hsr.ix Try.underlying26 cs38, Int.toNat_natCast, hcj, S, S1, S2, S3, S4, S5, ST, eq_self, reduceIte, reduceCtorEq, Nat.reduceEqDiff, Nat.reduceAdd]
      refine CallH.by (hS _ _ _ _ H'' (hp.trans hpp') (hH2.each i hi) (hH2.each (i + 1 + j) hj) hmi hmj) ?_
      rintro _ D ⟨rfl, pD⟩
      have hcD5 := pre_at pD hc5'
      have hcD4 := pre_at pD hc4'
      have hpD := hpp'.trans pD
      have hmD := hmn'.pre pD
      have hsl1 := stpO_len p ls i
      have hsl2 := stpI_len p ls i j
      have hmul : i * ls.length ≤ 1000 * 1000 := Nat.mul_le_mul (by omega) hls
      have lD := hpD.length_le
      have l5 := at_lt hc5'
      simp (maxSteps := 1000000) (disch := omega) only [S, S1, S2, S3, S4, S5, ST, eq_self, reduceIte, reduceCtorEq, Nat.reduceEqDiff, Nat.reduceAdd]
      refine brH.intro (fun e => ?_) (fun e => ?_)
      · have hstep : stpI p ls i (j + 1) = stpI p ls i j ++ [((i : Int), ((i + 1 + j : Nat) : Int))] := by rw [stpI, if_pos e]
        obtain ⟨st2, H3, k1, k2, k3, k4, k5, k6⟩ := own1_22 hmD hpD (by rw [List.length_append]; omega) (i : Int) ((i + 1 + j : Nat) : Int)
        have hne : st' = .slice none 0 0 ∨ ∀ o, o < B.length → o ≠ rowO st' := hst'.imp id fun q o ho => by omega
        have d5 : H3[A.length]? = some (.cells [v, st'] 28 false) := k4 _ _ (hne.imp id fun q => q _ (by omega)) hcD5
        have d4 : H3[H.length]? = some (.cells [.slice none 0 0, .slice none 0 0] 28 false) := k4 _ _ (hne.imp id fun q => q _ (by omega)) hcD4
        obtain ⟨q2, hq2⟩ := k2.row.shape
        have t1 : isTup st2 = false := k6
        have t2 : st2.cells.toList = [st2] := by rw [hq2]; rfl
        have hst3 := st_at (P := Try.prog) (t := 22) (i := 1) (y := st2) cs22 d5 (by show 1 < 2; decide) t1 t2
        have hidx : (i : Int) + 1 + (j : Int) = ((i + 1 + j : Nat) : Int) := by omega
        have lDB : B.length ≤ D.length := by have := hpp'.length_le; have := pD.length_le; omega
        simp (maxSteps := 1000000) (disch := omega) only [e, g1, g4, g5, g6, g7, g16, g17, g18, g27, g28, g29, cell_of hcD5, build_a2, wrap64, hidx, k1, hst3, S, S1, S2, S3, S4, S5, ST, eq_self, reduceIte, reduceCtorEq, Nat.reduceEqDiff, Nat.reduceAdd]
        have f5 : (H3.set A.length (.cells ([v, st'].set 1 st2) 28 false))[A.length]? = some (.cells [v, st2] 28 false) := by
          rw [List.getElem?_set_self (at_lt d5)]; rfl
        have f4 : (H3.set A.length (.cells ([v, st'].set 1 st2) 28 false))[H.length]? = some (.cells [.slice none 0 0, .slice none 0 0] 28 false) := by
          rw [List.getElem?_set_ne (by omega)]; exact d4
        have fs' : st2 = .slice none 0 0 ∨ B.length ≤ rowO st2 := .inr (by omega)
        have fm : MineP 66 H (H3.set A.length (.cells ([v, st'].set 1 st2) 28 false)) st2 (stpO p ls i ++ stpI p ls i (j + 1)) := by
          rw [hstep, ← List.append_assoc]
          exact k2.keepL fun hl y hy => by rw [List.getElem?_set_ne (by omega)]; exact hy
        have fp : H <+: H3.set A.length (.cells ([v, st'].set 1 st2) 28 false) := pre_set k3 (by omega) _
        refine ⟨m' - 1, by omega, j + 1, st2, ?_⟩
        (repeat' first | exact f5 | exact f4 | exact fs' | exact fm | exact fp | apply And.intro) <;> first | (simp only [Value.int.injEq, true_and]; omega) | omega | rfl | assumption | (simp; done) | (simp; omega)
      · have hstep : stpI p ls i (j + 1) = stpI p ls i j := by rw [stpI, if_neg (by rw [e]; decide), List.append_nil]
        rw [← hstep] at hmD
        simp (maxSteps := 1000000) (disch := omega) only [e, g1, g4, g5, g6, g7, g16, g17, g18, g27, g28, g29, wrap64, S, S1, S2, S3, S4, S5, ST, eq_self, reduceIte, reduceCtorEq, Nat.reduceEqDiff, Nat.reduceAdd]
        refine ⟨m' - 1, by omega, j + 1, st', ?_⟩
        (repeat' first | exact hcD5 | exact hcD4 | exact hst' | exact hmD | exact hpD | apply And.intro) <;> first | (simp only [Value.int.injEq, true_and]; omega) | omega | rfl | assumption | (simp; done) | (simp; omega)
    · have hjj : j = ls.length - (i + 1) := by omega
      subst hjj
      have hstO : stpO p ls (i + 1) = stpO p ls i ++ stpI p ls i (ls.length - (i + 1)) := rfl
      rw [← hstO] at hmn'
      simp (maxSteps := 1000000) (disch := omega) only [g1, g4, g5, g6, g7, g16, g17, g18, g27, g28, g29, wrap64, S, S1, S2, S3, S4, S5, ST, eq_self, reduceIte, reduceCtorEq, Nat.reduceEqDiff, Nat.reduceAdd]
      refine ⟨m - 1, by omega, i + 1, st', ?_⟩
      (repeat' first | exact hc5' | exact hc4' | exact hst' | exact hmn' | exact hpp' | apply And.intro) <;> first | (simp only [Value.int.injEq, true_and]; omega) | omega | rfl | assumption | (simp; done) | (simp; omega)
end Go.Proofs.Ytjnefjchconebab.Ai
namespace Go.Proofs.Ytjnefjchconebab.Ai
open Go Go.RowKit
set_option linter.unusedVariables false
set_option linter.unusedSimpArgs false
theorem own_base {e : TypeId} {H0 H1 H : AH} {v : Value} {xs : List Int} (h : Own e H0 H v xs) (hl : H1.length ≤ H0.length) : Own e H1 H v xs := by
  rcases h with h | ⟨o, h1, h2, h3⟩
  · exact .inl h
  · exact .inr ⟨o, h1, by omega, h3⟩
theorem own_keep {e : TypeId} {H0 H H' : AH} {v : Value} {xs : List Int} (h : Own e H0 H v xs) (hh : ∀ y, v ≠ .slice none 0 0 → H[rowO v]? = some y → H'[rowO v]? = some y) : Own e H0 H' v xs := by
  rcases h with h | ⟨o, h1, h2, h3⟩
  · exact .inl h
  · exact .inr ⟨o, h1, h2, by subst h1; exact hh _ (by intro e; cases e) h3⟩
theorem own_nil {e : TypeId} {H0 H : AH} {v : Value} {xs : List Int} (h : Own e H0 H v xs) : v = .slice none 0 0 ∨ (H0.length ≤ rowO v ∧ rowO v < H.length) := by
  rcases h with h | ⟨o, h1, h2, h3⟩
  · exact .inl h.1
  · subst h1; exact .inr ⟨h2, at_lt h3⟩
/-- lists of neighbours that grow -/
structure Adj (C G : AH) (o : Nat) (us : List Value) (L : List (List Int)) : Prop where
  at_ : G[o]? = some (.cells us 38 false)
  olt : o < C.length
  len : us.length = L.length
  el : ∀ i, i < L.length → Own 3 C G (us.getD i undef) (L.getD i [])
  ap : ∀ i j, i ≠ j → i < L.length → j < L.length → Apart (us.getD i undef) (us.getD j undef)
  keep : ∀ (j : Nat) (y : AObj), j ≠ o → C[j]? = some y → G[j]? = some y
  le : C.length ≤ G.length
theorem Adj.ne {C G : AH} {o : Nat} {us : List Value} {L : List (List Int)} (h : Adj C G o us L) {i : Nat} (hi : i < L.length) : us.getD i undef = .slice none 0 0 ∨ rowO (us.getD i undef) ≠ o := by
  rcases own_nil (h.el i hi) with g | g
  · exact .inl g
  · right; have := h.olt; omega
theorem Adj.pre {C G G' : AH} {o : Nat} {us : List Value} {L : List (List Int)} (h : Adj C G o us L) (hp : G <+: G') : Adj C G' o us L :=
  ⟨pre_at hp h.at_, h.olt, h.len, fun i hi => own_keep (h.el i hi) fun y _ hy => pre_at hp hy, h.ap, fun j y hj hy => pre_at hp (h.keep j y hj hy), Nat.le_trans h.le hp.length_le⟩
/-- one more, at one place -/
theorem Adj.upd1 {C G K : AH} {o x : Nat} {us : List Value} {L : List (List Int)} (h : Adj C G o us L) (hx : x < L.length) {v1 : Value} {l1 : List Int}
    (h1 : Own 3 C K v1 l1) (g1 : G.length ≤ rowO v1) (hl : G.length ≤ K.length)
    (hk : ∀ (j : Nat) (z : AObj), (us.getD x undef = .slice none 0 0 ∨ j ≠ rowO (us.getD x undef)) → G[j]? = some z → K[j]? = some z) :
    Adj C (K.set o (.cells (us.set x v1) 38 false)) o (us.set x v1) (L.set x l1) := by
  have hol := h.olt
  have hle := h.le
  have hul := h.len
  have ax : us.getD x undef = .slice none 0 0 ∨ o ≠ rowO (us.getD x undef) := (h.ne hx).imp id fun e => fun q => e q.symm
  have ko := hk o _ ax h.at_
  have gu : ∀ i, (us.set x v1).getD i undef = if x = i then (if x < us.length then v1 else undef) else us.getD i undef := by
    intro i
    rw [List.getD_eq_getElem?_getD, List.getElem?_set]
    by_cases e1 : x = i
    · rw [if_pos e1, if_pos e1, if_pos (by omega), if_pos (by omega)]; rfl
    · rw [if_neg e1, if_neg e1, List.getD_eq_getElem?_getD]
  have gl : ∀ i, (L.set x l1).getD i [] = if x = i then (if x < L.length then l1 else []) else L.getD i [] := by
    intro i
    rw [List.getD_eq_getElem?_getD, List.getElem?_set]
    by_cases e1 : x = i
    · rw [if_pos e1, if_pos e1, if_pos (by omega), if_pos (by omega)]; rfl
    · rw [if_neg e1, if_neg e1, List.getD_eq_getElem?_getD]
  have setk : ∀ {j : Nat} {z : AObj}, j ≠ o → K[j]? = some z → (K.set o (.cells (us.set x v1) 38 false))[j]? = some z := fun hj hz => by
    rw [List.getElem?_set_ne (fun e => hj e.symm)]; exact hz
  have old : ∀ i, i < L.length → i ≠ x → us.getD i undef ≠ .slice none 0 0 → rowO (us.getD i undef) < G.length ∧ ∀ z, G[rowO (us.getD i undef)]? = some z → K[rowO (us.getD i undef)]? = some z := by
    intro i hi ix hn
    rcases own_nil (h.el i hi) with q | q
    · exact absurd q hn
    refine ⟨q.2, fun z hz => hk _ _ ?_ hz⟩
    rcases h.ap i x ix hi hx with q1 | q1 | q1
    · exact .inl q1
    · exact absurd q1 hn
    · exact .inr q1
  refine ⟨at_set ko, hol, by simp [hul], fun i hi => ?_, fun i j hij hi hj => ?_, fun j z hj hz => ?_, by simp; omega⟩
  · rw [List.length_set] at hi
    rw [gu, gl]
    by_cases e1 : x = i
    · rw [if_pos e1, if_pos e1, if_pos (by omega), if_pos (by omega)]
      exact own_keep h1 fun z _ hz => setk (by omega) hz
    · rw [if_neg e1, if_neg e1]
      refine own_keep (h.el i hi) fun z hn hz => ?_
      have hq := old i hi (fun e => e1 e.symm) hn
      refine setk ?_ (hq.2 z hz)
      rcases h.ne hi with q | q
      · exact absurd q hn
      · exact q
  · rw [List.length_set] at hi hj
    have far : ∀ (q : Nat) (v : Value), q < L.length → q ≠ x → G.length ≤ rowO v → us.getD q undef = .slice none 0 0 ∨ rowO (us.getD q undef) ≠ rowO v := by
      intro q v hq qx hv
      by_cases hn : us.getD q undef = .slice none 0 0
      · exact .inl hn
      · right; have := (old q hq qx hn).1; omega
    rw [gu, gu]
    by_cases e1 : x = i
    · rw [if_pos e1, if_pos (by omega), if_neg (show ¬ x = j by omega)]
      rcases far j v1 hj (by omega) g1 with q | q
      · exact .inl q
      · exact .inr (.inr fun e => q e.symm)
    · rw [if_neg e1]
      by_cases e4 : x = j
      · rw [if_pos e4, if_pos (by omega)]
        rcases far i v1 hi (fun e => e1 e.symm) g1 with q | q
        · exact .inr (.inl q)
        · exact .inr (.inr q)
      · rw [if_neg e4]; exact h.ap i j hij hi hj
  · refine setk hj ?_
    have hC : us.getD x undef = .slice none 0 0 ∨ j ≠ rowO (us.getD x undef) := by
      have hjl := at_lt hz
      rcases own_nil (h.el x hx) with g | g
      · exact .inl g
      · right; omega
    exact hk j z hC (h.keep j z hj hz)
/-- one of the lists is touched, and is as before -/
theorem Adj.same {C G K : AH} {o x : Nat} {us : List Value} {L : List (List Int)} (h : Adj C G o us L) (hx : x < L.length) (h1 : Own 3 C K (us.getD x undef) (L.getD x [])) (he : Else (us.getD x undef) G K) : Adj C K o us L := by
  have ax : us.getD x undef = .slice none 0 0 ∨ o ≠ rowO (us.getD x undef) := (h.ne hx).imp id fun e => fun q => e q.symm
  refine ⟨he.2 _ _ ax h.at_, h.olt, h.len, fun i hi => ?_, h.ap, fun j z hj hz => he.2 _ _ ?_ (h.keep j z hj hz), by rw [he.1]; exact h.le⟩
  · by_cases e : i = x
    · subst e; exact h1
    · refine own_keep (h.el i hi) fun z hn hz => he.2 _ _ ?_ hz
      rcases h.ap i x e hi hx with q | q | q
      · exact .inl q
      · exact absurd q hn
      · exact .inr q
  · have hjl := at_lt hz
    rcases own_nil (h.el x hx) with g | g
    · exact .inl g
    · right; omega
/-- appending a number to one of the lists -/
theorem Adj.app1 {C G : AH} {o x : Nat} {us : List Value} {L : List (List Int)} (h : Adj C G o us L) (hx : x < L.length) (hb : (L.getD x []).length ≤ 1000000) (y : Int) :
    ∃ v K, appendA Try.prog 38 38 (us.getD x undef) (.slice (some ⟨G.length, 0, none⟩) 1 1) (G ++ [.cells [.int .i64 y] 3 false]) = some (v, K) ∧
      (∀ (j : Nat) (z : AObj), (us.getD x undef = .slice none 0 0 ∨ j ≠ rowO (us.getD x undef)) → G[j]? = some z → K[j]? = some z) ∧ K[o]? = some (.cells us 38 false) ∧ isTup v = false ∧ v.cells.toList = [v] ∧
      Adj C (K.set o (.cells (us.set x v) 38 false)) o (us.set x v) (L.set x (L.getD x [] ++ [y])) := by
  have hox := h.el x hx
  have hle := h.le
  have hlC : (G.take C.length).length = C.length := by simp; omega
  have ox2 : Own 3 (G.take C.length) G (us.getD x undef) (L.getD x []) := own_base hox (by omega)
  obtain ⟨v, K, j1, j2, j3, j4, j5, j6⟩ := own1_38 ox2 (List.take_prefix _ _) (by omega) y
  have hjC : Own 3 C K v (L.getD x [] ++ [y]) := own_base j2 (by omega)
  have ax : us.getD x undef = .slice none 0 0 ∨ o ≠ rowO (us.getD x undef) := (h.ne hx).imp id fun e => fun q => e q.symm
  have hlK : G.length ≤ K.length := by
    rcases own_nil hjC with q | q
    · have h1 : (L.getD x [] ++ [y]).length = 0 := by
        rcases hjC with ⟨_, q1⟩ | ⟨o', q1, _⟩
        · rw [q1]; rfl
        · rw [q1] at q; cases q
      simp at h1
    · omega
  obtain ⟨p, hp⟩ := j2.row.shape
  exact ⟨v, K, j1, fun j z hj hz => j4 j z hj hz, j4 o _ ax h.at_, j6, by rw [hp]; rfl, h.upd1 hx hjC j5 hlK fun j z hj hz => j4 j z hj hz⟩
end Go.Proofs.Ytjnefjchconebab.Ai
namespace Go.Proofs.Ytjnefjchconebab.Ai
open Go
def ords28 : List (Nat × List (Nat × Bool)) := [(6, [(0, false), (1, false), (2, false), (3, false), (4, false), (5, false), (6, false), (7, false), (8, true), (9, false)])]
def cd28 : Cd := (.seq (.reg [⟨⟨some 4, Op.assign (Operand.const (Value.bool false)), none⟩, []⟩]) (.seq (.seq (.reg [⟨⟨some 6, Op.move (Operand.tmp 0), none⟩, []⟩,
  ⟨⟨some 7, Op.call { callee := (Callee.builtin Builtin.len), args := #[(Operand.tmp 6)], argTypes := #[26] }, none⟩, []⟩,
  ⟨⟨some 8, Op.move (Operand.tmp 1), none⟩, []⟩,
  ⟨⟨some 9, Op.call { callee := (Callee.builtin Builtin.len), args := #[(Operand.tmp 8)], argTypes := #[26] }, none⟩, []⟩,
  ⟨⟨some 10, Op.binOp BinOp.neq 3 (Operand.tmp 7) (Operand.tmp 9) 3, none⟩, []⟩]) (.cond (Operand.tmp 10) (.seq (.reg [⟨⟨some 4, Op.assign (Operand.const (Value.bool false)), none⟩, []⟩]) .ret) .skip)) (.seq (.seq (.reg [⟨⟨some 5, Op.assign (Operand.const (Value.int IntKind.i64 0)), none⟩, []⟩]) (.block 0 (.loop (.seq (.seq (.reg [⟨⟨some 11, Op.move (Operand.tmp 5), none⟩, []⟩,
  ⟨⟨some 12, Op.move (Operand.tmp 0), none⟩, []⟩,
  ⟨⟨some 13, Op.call { callee := (Callee.builtin Builtin.len), args := #[(Operand.tmp 12)], argTypes := #[26] }, none⟩, []⟩,
  ⟨⟨some 14, Op.binOp BinOp.lss 3 (Operand.tmp 11) (Operand.tmp 13) 3, none⟩, []⟩]) (.cond (Operand.tmp 14) .skip (.exit 0))) (.seq (.block 1 (.seq (.reg [⟨⟨some 17, Op.move (Operand.tmp 0), none⟩, []⟩,
  ⟨⟨some 18, Op.move (Operand.tmp 5), none⟩, []⟩,
  ⟨⟨some 19, Op.indexAddr 26 (Operand.tmp 17) (Operand.tmp 18), none⟩, []⟩,
  ⟨⟨some 20, Op.load 38 (Operand.tmp 19), none⟩, []⟩,
  ⟨⟨some 21, Op.move (Operand.tmp 1), none⟩, []⟩,
  ⟨⟨some 22, Op.move (Operand.tmp 5), none⟩, []⟩,
  ⟨⟨some 23, Op.indexAddr 26 (Operand.tmp 21) (Operand.tmp 22), none⟩, []⟩,
  ⟨⟨some 24, Op.load 38 (Operand.tmp 23), none⟩, []⟩,
  ⟨⟨some 25, Op.call { callee := (Callee.value (Operand.func 17)), args := #[(Operand.tmp 20), (Operand.tmp 24)], argTypes := #[38, 38] }, none⟩, []⟩,
  ⟨⟨some 26, Op.unOp UnOp.not 4 (Operand.tmp 25), none⟩, []⟩]) (.cond (Operand.tmp 26) (.seq (.reg [⟨⟨some 4, Op.assign (Operand.const (Value.bool false)), none⟩, []⟩]) .ret) .skip))) (.reg [⟨⟨some 15, Op.move (Operand.tmp 5), none⟩, []⟩,
  ⟨⟨some 16, Op.binOp BinOp.add 3 (Operand.tmp 15) (Operand.const (Value.int IntKind.i64 1)) 3, none⟩, []⟩,
  ⟨⟨some 5, Op.assign (Operand.tmp 16), none⟩, []⟩])))))) (.seq (.reg [⟨⟨some 4, Op.assign (Operand.const (Value.bool true)), none⟩, []⟩]) .ret))))
theorem sl28 : slim Try.f28.ntmps ords28 (Try.f28.body.getD .skip) = some cd28 := by kernel_rfl
theorem in28 {args : List Value} {H : AH} {R : Value → AH → Prop} (hl : args.length = 2) (h : ∀ (Q : Exit → Sl → AH → Prop), (∀ e s H, endA Try.prog [ResultVar.tmp 4] R e s H → Q e s H) → wpC Try.prog cd28 Q (enterA args) H) : ACalls Try.prog 28 args H R :=
  ACalls.intro (by kernel_rfl) Try.func28 rfl (by kernel_rfl) sl28 hl (of_decide_eq_true (by kernel_rfl)) (by kernel_rfl) h
def ords32 : List (Nat × List (Nat × Bool)) := []
def cd32 : Cd := (.seq (.reg [⟨⟨some 4, Op.assign (Operand.const (Value.int IntKind.i64 0)), none⟩, []⟩]) (.seq (.seq (.reg [⟨⟨some 5, Op.assign (Operand.const (Value.int IntKind.i64 0)), none⟩, []⟩]) (.block 0 (.loop (.seq (.seq (.reg [⟨⟨some 6, Op.move (Operand.tmp 5), none⟩, []⟩,
  ⟨⟨some 7, Op.move (Operand.tmp 0), none⟩, []⟩,
  ⟨⟨some 8, Op.call { callee := (Callee.builtin Builtin.len), args := #[(Operand.tmp 7)], argTypes := #[26] }, none⟩, []⟩,
  ⟨⟨some 9, Op.binOp BinOp.lss 3 (Operand.tmp 6) (Operand.tmp 8) 3, none⟩, []⟩]) (.cond (Operand.tmp 9) .skip (.exit 0))) (.seq (.block 1 (.seq (.reg [⟨⟨some 12, Op.move (Operand.tmp 0), none⟩, []⟩,
  ⟨⟨some 13, Op.move (Operand.tmp 5), none⟩, []⟩,
  ⟨⟨some 14, Op.indexAddr 26 (Operand.tmp 12) (Operand.tmp 13), none⟩, []⟩,
  ⟨⟨some 15, Op.load 38 (Operand.tmp 14), none⟩, []⟩,
  ⟨⟨some 16, Op.move (Operand.tmp 1), none⟩, []⟩,
  ⟨⟨some 17, Op.call { callee := (Callee.value (Operand.func 52)), args := #[(Operand.tmp 15), (Operand.tmp 16)], argTypes := #[38, 3] }, none⟩, []⟩,
  ⟨⟨some 1, Op.assign (Operand.tmp 17), none⟩, []⟩]) (.seq (.reg [⟨⟨some 18, Op.move (Operand.tmp 1), none⟩, []⟩,
  ⟨⟨some 19, Op.binOp BinOp.lss 3 (Operand.tmp 18) (Operand.const (Value.int IntKind.i64 0)) 3, none⟩, []⟩]) (.cond (Operand.tmp 19) (.seq (.reg [⟨⟨some 4, Op.assign (Operand.const (Value.int IntKind.i64 (-1))), none⟩, []⟩]) .ret) .skip)))) (.reg [⟨⟨some 10, Op.move (Operand.tmp 5), none⟩, []⟩,
  ⟨⟨some 11, Op.binOp BinOp.add 3 (Operand.tmp 10) (Operand.const (Value.int IntKind.i64 1)) 3, none⟩, []⟩,
  ⟨⟨some 5, Op.assign (Operand.tmp 11), none⟩, []⟩])))))) (.seq (.reg [⟨⟨some 20, Op.move (Operand.tmp 1), none⟩, []⟩,
  ⟨⟨some 4, Op.assign (Operand.tmp 20), none⟩, []⟩]) .ret)))
theorem sl32 : slim Try.f32.ntmps ords32 (Try.f32.body.getD .skip) = some cd32 := by kernel_rfl
theorem in32 {args : List Value} {H : AH} {R : Value → AH → Prop} (hl : args.length = 2) (h : ∀ (Q : Exit → Sl → AH → Prop), (∀ e s H, endA Try.prog [ResultVar.tmp 4] R e s H → Q e s H) → wpC Try.prog cd32 Q (enterA args) H) : ACalls Try.prog 32 args H R :=
  ACalls.intro (by kernel_rfl) Try.func32 rfl (by kernel_rfl) sl32 hl (of_decide_eq_true (by kernel_rfl)) (by kernel_rfl) h
def ords31 : List (Nat × List (Nat × Bool)) := []
def cd31 : Cd := (.seq (.reg [⟨⟨some 4, Op.assign (Operand.const (Value.int IntKind.i64 0)), none⟩, []⟩]) (.seq (.seq (.reg [⟨⟨some 5, Op.assign (Operand.const (Value.int IntKind.i64 0)), none⟩, []⟩]) (.block 0 (.loop (.seq (.seq (.reg [⟨⟨some 6, Op.move (Operand.tmp 5), none⟩, []⟩,
  ⟨⟨some 7, Op.move (Operand.tmp 0), none⟩, []⟩,
  ⟨⟨some 8, Op.call { callee := (Callee.builtin Builtin.len), args := #[(Operand.tmp 7)], argTypes := #[26] }, none⟩, []⟩,
  ⟨⟨some 9, Op.binOp BinOp.lss 3 (Operand.tmp 6) (Operand.tmp 8) 3, none⟩, []⟩]) (.cond (Operand.tmp 9) .skip (.exit 0))) (.seq (.block 1 (.reg [⟨⟨some 12, Op.move (Operand.tmp 0), none⟩, []⟩,
  ⟨⟨some 13, Op.move (Operand.tmp 5), none⟩, []⟩,
  ⟨⟨some 14, Op.indexAddr 26 (Operand.tmp 12) (Operand.tmp 13), none⟩, []⟩,
  ⟨⟨some 15, Op.load 38 (Operand.tmp 14), none⟩, []⟩,
  ⟨⟨some 16, Op.move (Operand.tmp 1), none⟩, []⟩,
  ⟨⟨some 17, Op.call { callee := (Callee.value (Operand.func 18)), args := #[(Operand.tmp 15), (Operand.tmp 16)], argTypes := #[38, 3] }, none⟩, []⟩,
  ⟨⟨some 1, Op.assign (Operand.tmp 17), none⟩, []⟩])) (.reg [⟨⟨some 10, Op.move (Operand.tmp 5), none⟩, []⟩,
  ⟨⟨some 11, Op.binOp BinOp.add 3 (Operand.tmp 10) (Operand.const (Value.int IntKind.i64 1)) 3, none⟩, []⟩,
  ⟨⟨some 5, Op.assign (Operand.tmp 11), none⟩, []⟩])))))) (.seq (.reg [⟨⟨some 18, Op.move (Operand.tmp 1), none⟩, []⟩,
  ⟨⟨some 4, Op.assign (Operand.tmp 18), none⟩, []⟩]) .ret)))
theorem sl31 : slim Try.f31.ntmps ords31 (Try.f31.body.getD .skip) = some cd31 := by kernel_rfl
theorem in31 {args : List Value} {H : AH} {R : Value → AH → Prop} (hl : args.length = 2) (h : ∀ (Q : Exit → Sl → AH → Prop), (∀ e s H, endA Try.prog [ResultVar.tmp 4] R e s H → Q e s H) → wpC Try.prog cd31 Q (enterA args) H) : ACalls Try.prog 31 args H R :=
  ACalls.intro (by kernel_rfl) Try.func31 rfl (by kernel_rfl) sl31 hl (of_decide_eq_true (by kernel_rfl)) (by kernel_rfl) h
end Go.Proofs.Ytjnefjchconebab.Ai
namespace Go.Proofs.Ytjnefjchconebab.Ai
open Go Go.RowKit
set_option linter.unusedVariables false
set_option linter.unusedSimpArgs false
set_option maxHeartbeats 1000000 in
theorem eqIntSS_c (v w : Value) (ls ms : List (List Int)) (H : AH) {b b' : Nat} (hr : RowLB b 38 3 H v ls) (hr2 : RowLB b' 38 3 H w ms) (hlen : ls.length ≤ 1099511627776) (hsz : sizeL ls ≤ 1099511627776) :
    ACalls Try.prog 28 [v, w] H fun r H' => r = .bool (decide (ls = ms)) ∧ H = H' := by
  obtain ⟨us, hv, _, hul, hu⟩ := hr
  obtain ⟨ws, hw, _, hwl, hwr⟩ := hr2
  have hvl := hv.len Try.underlying26
  have hwln := hw.len Try.underlying26
  rw [hul] at hvl
  rw [hwl] at hwln
  refine in28 rfl ?_
  intro Q hQ
  simp (maxSteps := 1000000) (disch := omega) only [cd28, hvl, hwln, S, S1, S2, S3, S4, S5, ST, eq_self, reduceIte, reduceCtorEq, Nat.reduceEqDiff, Nat.reduceAdd]
  refine brD.intro (fun g => ?_) (fun g => ?_) <;> simp (maxSteps := 1000000) (disch := omega) only [hvl, S, S1, S2, S3, S4, S5, ST, eq_self, reduceIte, reduceCtorEq, Nat.reduceEqDiff, Nat.reduceAdd]
  · refine hQ _ _ _ ?_
    simp (maxSteps := 1000000) (disch := omega) only [S, S1, S2, S3, S4, S5, ST, eq_self, reduceIte, reduceCtorEq, Nat.reduceEqDiff, Nat.reduceAdd]
    have : ls ≠ ms := fun e => g (by rw [e])
    simp [this]
  · have hl : ls.length = ms.length := by omega
    refine LoopH.by (fun m s H' => ∃ i, m + i = ls.length ∧ s 0 = v ∧ s 1 = w ∧ s 5 = .int .i64 ((i : Nat) : Int) ∧ H = H' ∧ ls.take i = ms.take i) ls.length ?_ ?_
    · exact ⟨0, by simp, rfl, rfl, rfl, rfl, by simp⟩
    · rintro m s H' ⟨i, hm, h0, h1, h5, rfl, hn⟩
      simp (maxSteps := 1000000) (disch := omega) only [h0, h1, h5, hvl, S, S1, S2, S3, S4, S5, ST, eq_self, reduceIte, reduceCtorEq, Nat.reduceEqDiff, Nat.reduceAdd]
      refine brD.intro (fun g => ?_) (fun g => ?_) <;> simp (maxSteps := 1000000) (disch := omega) only [h0, h1, h5, hv.ix Try.underlying26 cs38, hv.cell, hw.ix Try.underlying26 cs38, hw.cell, Int.toNat_natCast, S, S1, S2, S3, S4, S5, ST, eq_self, reduceIte, reduceCtorEq, Nat.reduceEqDiff, Nat.reduceAdd]
      · have hi : i < ls.length := by omega
        have hg : ls.getD i [] = ls[i] := by simp [hi]
        have hg2 : ms.getD i [] = ms[i] := by simp [hl ▸ hi]
        have h1l := sizeL_take ls i hi
        have h2l := sizeL_le ls (i + 1)
        refine CallH.by (eqIntS_c _ _ _ _ H (hu i hi).1 (hwr i (by omega)).1 (by omega)) ?_
        rintro _ _ ⟨rfl, rfl⟩
        simp (maxSteps := 1000000) (disch := omega) only [S, S1, S2, S3, S4, S5, ST, eq_self, reduceIte, reduceCtorEq, Nat.reduceEqDiff, Nat.reduceAdd]
        refine brD.intro (fun e => ?_) (fun e => ?_) <;> simp (maxSteps := 1000000) (disch := omega) only [h0, h1, h5, wrap64, S, S1, S2, S3, S4, S5, ST, eq_self, reduceIte, reduceCtorEq, Nat.reduceEqDiff, Nat.reduceAdd]
        · have fx : ls.take (i + 1) = ms.take (i + 1) := by
            rw [List.take_add_one, List.take_add_one, hn, List.getElem?_eq_getElem hi, List.getElem?_eq_getElem (hl ▸ hi)]
            rw [hg, hg2] at e
            rw [e]
          refine ⟨m - 1, by omega, i + 1, ?_⟩
          (repeat' first | exact fx | apply And.intro) <;> first | (simp only [Value.int.injEq, true_and]; omega) | omega | rfl | assumption | (simp; done) | (simp; omega)
        · refine hQ _ _ _ ?_
          simp (maxSteps := 1000000) (disch := omega) only [S, S1, S2, S3, S4, S5, ST, eq_self, reduceIte, reduceCtorEq, Nat.reduceEqDiff, Nat.reduceAdd]
          have : ls ≠ ms := by
            intro e'
            subst e'
            exact e rfl
          simp [this]
      · refine hQ _ _ _ ?_
        simp (maxSteps := 1000000) (disch := omega) only [S, S1, S2, S3, S4, S5, ST, eq_self, reduceIte, reduceCtorEq, Nat.reduceEqDiff, Nat.reduceAdd]
        rw [List.take_of_length_le (by omega), List.take_of_length_le (by omega)] at hn
        simp [hn]
theorem heldIntSS_c (v : Value) (ls : List (List Int)) (k : Int) (H : AH) {b : Nat} (hr : RowLB b 38 3 H v (runL k ls)) (hlen : ls.length ≤ 1099511627776) (hsz : sizeL ls ≤ 1099511627776) (hk : 0 ≤ k ∧ k ≤ 1099511627776) :
    ACalls Try.prog 32 [v, .int .i64 k] H fun r H' => r = .int .i64 (k + sizeL ls) ∧ H = H' := by
  obtain ⟨us, hv, _, hul, hu⟩ := hr
  rw [runL_len] at hul hu
  have hvl := hv.len Try.underlying26
  rw [hul] at hvl
  refine in32 rfl ?_
  intro Q hQ
  simp (maxSteps := 1000000) (disch := omega) only [cd32, S, S1, S2, S3, S4, S5, ST, eq_self, reduceIte, reduceCtorEq, Nat.reduceEqDiff, Nat.reduceAdd]
  refine LoopH.by (fun m s H' => ∃ i, m + i = ls.length ∧ s 0 = v ∧ s 1 = .int .i64 (k + (sizeL (ls.take i) : Nat)) ∧ s 5 = .int .i64 ((i : Nat) : Int) ∧ H = H') ls.length ?_ ?_
  · exact ⟨0, by simp, rfl, by simp [S, S1, S2, S3, S4, S5, ST, eq_self, reduceIte, reduceCtorEq, Nat.reduceEqDiff, Nat.reduceAdd, sizeL], rfl, rfl⟩
  · rintro m s H' ⟨i, hm, h0, h1, h5, rfl⟩
    simp (maxSteps := 1000000) (disch := omega) only [h0, h1, h5, hvl, S, S1, S2, S3, S4, S5, ST, eq_self, reduceIte, reduceCtorEq, Nat.reduceEqDiff, Nat.reduceAdd]
    refine brD.intro (fun g => ?_) (fun g => ?_) <;> simp (maxSteps := 1000000) (disch := omega) only [h0, h1, h5, hv.ix Try.underlying26 cs38, hv.cell, Int.toNat_natCast, S, S1, S2, S3, S4, S5, ST, eq_self, reduceIte, reduceCtorEq, Nat.reduceEqDiff, Nat.reduceAdd]
    · have hi : i < ls.length := by omega
      have h1l := sizeL_take ls i hi
      have h2l := sizeL_le ls (i + 1)
      have hrow := (hu i hi).1
      rw [runL_at k ls i hi] at hrow
      refine CallH.by (heldIntS_c _ _ (k + (sizeL (ls.take i) : Nat)) H hrow (by rw [runI_len]; omega) (by omega) (by rw [runI_len])) ?_
      rintro _ _ ⟨rfl, rfl⟩
      simp (maxSteps := 1000000) (disch := omega) only [runI_len, S, S1, S2, S3, S4, S5, ST, eq_self, reduceIte, reduceCtorEq, Nat.reduceEqDiff, Nat.reduceAdd]
      refine brD.intro (fun h => absurd h (by omega)) (fun _ => ?_)
      simp (maxSteps := 1000000) (disch := omega) only [h0, h1, h5, wrap64, S, S1, S2, S3, S4, S5, ST, eq_self, reduceIte, reduceCtorEq, Nat.reduceEqDiff, Nat.reduceAdd]
      refine ⟨m - 1, by omega, i + 1, by omega, ?_⟩
      rw [h1l]
      (repeat' first | apply And.intro) <;> first | (simp only [Value.int.injEq, true_and]; omega) | omega | rfl | assumption | (simp; done) | (simp; omega)
    · refine hQ _ _ _ ?_
      simp (maxSteps := 1000000) (disch := omega) only [h1, S, S1, S2, S3, S4, S5, ST, eq_self, reduceIte, reduceCtorEq, Nat.reduceEqDiff, Nat.reduceAdd]
      have : ls.take i = ls := List.take_of_length_le (by omega)
      rw [this]
/-- the lists as far as i are marked -/
def mixL (k : Int) (ls : List (List Int)) (i : Nat) : List (List Int) := (runL k ls).take i ++ ls.drop i
theorem mixL_len (k : Int) (ls : List (List Int)) (i : Nat) : (mixL k ls i).length = ls.length := by
  unfold mixL
  simp [runL_len]; omega
theorem mixL_at (k : Int) (ls : List (List Int)) (i j : Nat) (hj : j < ls.length) : (mixL k ls i).getD j [] = if j < i then runI (k + sizeL (ls.take j)) (ls.getD j []).length else ls.getD j [] := by
  unfold mixL
  have hl : ((runL k ls).take i).length = min i ls.length := by simp [runL_len]
  by_cases h : j < i
  · rw [if_pos h, List.getD_eq_getElem?_getD, List.getElem?_append_left (by rw [hl]; omega), List.getElem?_take, if_pos h, ← List.getD_eq_getElem?_getD, runL_at k ls j hj]
  · rw [if_neg h, List.getD_eq_getElem?_getD, List.getElem?_append_right (by rw [hl]; omega), hl, List.getElem?_drop, ← List.getD_eq_getElem?_getD]
    congr 1; omega
set_option maxHeartbeats 1000000 in
theorem markIntSS_B (v : Value) (ls : List (List Int)) (k : Int) (lo hi : Nat) (H : AH) (h : InL lo hi 38 3 H v ls) (hlen : ls.length ≤ 1099511627776) (hsz : sizeL ls ≤ 1099511627776) (hk : 0 ≤ k ∧ k ≤ 1099511627776) :
    ACalls Try.prog 31 [v, .int .i64 k] H fun r H' => r = .int .i64 (k + sizeL ls) ∧ InL lo hi 38 3 H' v (runL k ls) ∧ ElseR lo hi H H' := by
  refine in31 rfl ?_
  intro Q hQ
  rcases h with ⟨rfl, rfl⟩ | ⟨o, us, rfl, hin⟩
  · simp (maxSteps := 1000000) (disch := omega) only [cd31, S, S1, S2, S3, S4, S5, ST, eq_self, reduceIte, reduceCtorEq, Nat.reduceEqDiff, Nat.reduceAdd]
    refine LoopH.by (fun m s H' => s 0 = .slice none 0 0 ∧ s 1 = .int .i64 k ∧ s 5 = .int .i64 0 ∧ H = H') 0 ?_ ?_
    · exact ⟨rfl, rfl, rfl, rfl⟩
    · rintro m s H' ⟨h0, h1, h5, rfl⟩
      simp (maxSteps := 1000000) (disch := omega) only [h0, h1, h5, S, S1, S2, S3, S4, S5, ST, eq_self, reduceIte, reduceCtorEq, Nat.reduceEqDiff, Nat.reduceAdd]
      refine brD.intro (fun g => absurd g (by decide)) (fun g => ?_)
      simp (maxSteps := 1000000) (disch := omega) only [h1, S, S1, S2, S3, S4, S5, ST, eq_self, reduceIte, reduceCtorEq, Nat.reduceEqDiff, Nat.reduceAdd]
      refine hQ _ _ _ ?_
      simp (maxSteps := 1000000) (disch := omega) only [h1, S, S1, S2, S3, S4, S5, ST, eq_self, reduceIte, reduceCtorEq, Nat.reduceEqDiff, Nat.reduceAdd]
      exact ⟨by simp [sizeL], .inl ⟨rfl, rfl⟩, ElseR.refl _ _ _⟩
  · simp (maxSteps := 1000000) (disch := omega) only [cd31, S, S1, S2, S3, S4, S5, ST, eq_self, reduceIte, reduceCtorEq, Nat.reduceEqDiff, Nat.reduceAdd]
    refine LoopH.by (fun m s H' => ∃ i, m + i = ls.length ∧ s 0 = .slice (some ⟨o, 0, none⟩) ls.length ls.length ∧ s 1 = .int .i64 (k + (sizeL (ls.take i) : Nat)) ∧ s 5 = .int .i64 ((i : Nat) : Int) ∧ InU lo hi 38 3 H' o us (mixL k ls i) ∧ ElseR lo hi H H') ls.length ?_ ?_
    · refine ⟨0, by simp, rfl, by simp [S, S1, S2, S3, S4, S5, ST, eq_self, reduceIte, reduceCtorEq, Nat.reduceEqDiff, Nat.reduceAdd, sizeL], rfl, ?_, ElseR.refl _ _ _⟩
      have : mixL k ls 0 = ls := by simp [mixL]
      rw [this]; exact hin
    · rintro m s H' ⟨i, hm, h0, h1, h5, hin', hel⟩
      have hrow := hin'.row
      rw [mixL_len] at hrow
      obtain ⟨ws, hv, _, hul, hu⟩ := hrow
      rw [mixL_len] at hul
      simp (maxSteps := 1000000) (disch := omega) only [h0, h1, h5, S, S1, S2, S3, S4, S5, ST, eq_self, reduceIte, reduceCtorEq, Nat.reduceEqDiff, Nat.reduceAdd]
      refine brD.intro (fun g => ?_) (fun g => ?_)
      · have hi' : i < ls.length := by omega
        have h1l := sizeL_take ls i hi'
        have h2l := sizeL_le ls (i + 1)
        obtain ⟨q1, q2, q3, q4, q5, q6⟩ := hin'
        rw [mixL_len] at q4 q5 q6
        have hcell : cellA H' o i = some (us.getD i undef) := by
          rw [cell_of q3, List.getD_eq_getElem?_getD, List.getElem?_eq_getElem (by omega)]; rfl
        obtain ⟨r1, r2⟩ := q5 i hi'
        rw [mixL_at k ls i i hi', if_neg (Nat.lt_irrefl _)] at r1
        simp (maxSteps := 1000000) (disch := omega) only [h0, h1, h5, hcell, Int.toNat_natCast, Nat.zero_add, S, S1, S2, S3, S4, S5, ST, eq_self, reduceIte, reduceCtorEq, Nat.reduceEqDiff, Nat.reduceAdd]
        have mk := markIntS_B (us.getD i undef) (ls.getD i []) (k + (sizeL (ls.take i) : Nat)) lo hi H' r1 (by omega) (by omega)
        have mk2 := markIntS_c (us.getD i undef) (ls.getD i []) (k + (sizeL (ls.take i) : Nat)) (List.replicate lo AObj.dead) H' (by
          rcases r1 with h | ⟨o', zs, h1, h2, h3, h4, h5⟩
          · exact .inl h
          · exact .inr ⟨o', zs, h1, by simpa using h2, h4, h5⟩) (by omega) (by omega)
        refine CallH.by mk2 ?_
        rintro _ H2 ⟨rfl, hmine, hels⟩
        simp (maxSteps := 1000000) (disch := omega) only [h0, h1, h5, wrap64, S, S1, S2, S3, S4, S5, ST, eq_self, reduceIte, reduceCtorEq, Nat.reduceEqDiff, Nat.reduceAdd]
        have keepo : H2[o]? = some (.cells us 38 false) := by
          refine hels.2 o _ ?_ q3
          rcases r2 with g | g
          · exact .inl g
          · exact .inr (fun e => g e.symm)
        have fel : ElseR lo hi H H2 := by
          refine hel.trans ⟨hels.1, fun j x hj hx => hels.2 j x ?_ hx⟩
          rcases r1.at_ with g | g
          · exact .inl g
          · exact .inr (by omega)
        have r1' : InI lo hi 3 H2 (us.getD i undef) (runI (k + (sizeL (ls.take i) : Nat)) (ls.getD i []).length) := by
          rcases r1 with ⟨g1, g2⟩ | ⟨o', zs, g1, g2, g3, g4, g5⟩
          · rw [g2]; exact .inl ⟨g1, rfl⟩
          · rcases hmine with ⟨f1, f2⟩ | ⟨o2, zs2, f1, f2, f3, f4⟩
            · rw [g1] at f1; cases f1
            · have e : o2 = o' := by
                rw [g1] at f1
                simp only [Value.slice.injEq, Option.some.injEq, Addr.mk.injEq] at f1
                exact f1.1.1.symm
              subst e
              exact .inr ⟨o2, zs2, f1, g2, g3, f3, f4⟩
        have fin : InU lo hi 38 3 H2 o us (mixL k ls (i + 1)) := by
          refine ⟨q1, q2, keepo, by rw [mixL_len]; exact q4, fun j hj => ?_, fun a b hab ha hb => q6 a b hab (by rw [mixL_len] at ha; exact ha) (by rw [mixL_len] at hb; exact hb)⟩
          rw [mixL_len] at hj
          obtain ⟨w1, w2⟩ := q5 j hj
          refine ⟨?_, w2⟩
          rw [mixL_at k ls i j hj] at w1
          rw [mixL_at k ls (i + 1) j hj]
          by_cases e : j = i
          · subst e; rw [if_pos (by omega)]; exact r1'
          · have : (if j < i then runI (k + sizeL (ls.take j)) (ls.getD j []).length else ls.getD j []) = (if j < i + 1 then runI (k + sizeL (ls.take j)) (ls.getD j []).length else ls.getD j []) := by
              by_cases c : j < i
              · rw [if_pos c, if_pos (by omega)]
              · rw [if_neg c, if_neg (by omega)]
            rw [← this]
            refine w1.move fun y hn hy => hels.2 _ _ ?_ hy
            rcases q6 j i e hj hi' with g | g | g
            · exact .inl g
            · exact absurd g hn
            · exact .inr g
        refine ⟨m - 1, by omega, i + 1, by omega, ?_⟩
        rw [h1l]
        (repeat' first | exact fin | exact fel | apply And.intro) <;> first | (simp only [Value.int.injEq, true_and]; omega) | omega | rfl | assumption | (simp; done) | (simp; omega)
      · simp (maxSteps := 1000000) (disch := omega) only [h1, S, S1, S2, S3, S4, S5, ST, eq_self, reduceIte, reduceCtorEq, Nat.reduceEqDiff, Nat.reduceAdd]
        refine hQ _ _ _ ?_
        simp (maxSteps := 1000000) (disch := omega) only [h1, S, S1, S2, S3, S4, S5, ST, eq_self, reduceIte, reduceCtorEq, Nat.reduceEqDiff, Nat.reduceAdd]
        have e1 : ls.take i = ls := List.take_of_length_le (by omega)
        have e2 : mixL k ls i = runL k ls := by
          unfold mixL
          rw [List.take_of_length_le (by rw [runL_len]; omega), List.drop_of_length_le (by omega), List.append_nil]
        rw [e2] at hin'
        rw [e1]
        exact ⟨rfl, by have := hin'.inl; rw [runL_len] at this; exact .inr ⟨o, us, by rw [runL_len], hin'⟩, hel⟩
end Go.Proofs.Ytjnefjchconebab.Ai
namespace Go.Proofs.Ytjnefjchconebab.Ai
open Go
def ords9 : List (Nat × List (Nat × Bool)) := []
def cd9 : Cd := (.seq (.reg [⟨⟨some 2, Op.box 28 (Operand.tmp 0), none⟩, []⟩,
  ⟨⟨some 3, Op.box 28 (Operand.tmp 1), none⟩, []⟩,
  ⟨⟨some 4, Op.assign (Operand.const (Value.bool false)), none⟩, []⟩]) (.seq (.seq (.reg [⟨⟨some 5, Op.fieldAddr 28 (Operand.tmp 2) 0, none⟩, []⟩,
  ⟨⟨some 6, Op.load 26 (Operand.tmp 5), none⟩, []⟩,
  ⟨⟨some 7, Op.fieldAddr 28 (Operand.tmp 3) 0, none⟩, []⟩,
  ⟨⟨some 8, Op.load 26 (Operand.tmp 7), none⟩, []⟩,
  ⟨⟨some 9, Op.call { callee := (Callee.value (Operand.func 28)), args := #[(Operand.tmp 6), (Operand.tmp 8)], argTypes := #[26, 26] }, none⟩, []⟩,
  ⟨⟨some 10, Op.unOp UnOp.not 4 (Operand.tmp 9), none⟩, []⟩]) (.cond (Operand.tmp 10) (.seq (.reg [⟨⟨some 4, Op.assign (Operand.const (Value.bool false)), none⟩, []⟩]) .ret) .skip)) (.seq (.seq (.reg [⟨⟨some 11, Op.fieldAddr 28 (Operand.tmp 2) 1, none⟩, []⟩,
  ⟨⟨some 12, Op.load 22 (Operand.tmp 11), none⟩, []⟩,
  ⟨⟨some 13, Op.fieldAddr 28 (Operand.tmp 3) 1, none⟩, []⟩,
  ⟨⟨some 14, Op.load 22 (Operand.tmp 13), none⟩, []⟩,
  ⟨⟨some 15, Op.call { callee := (Callee.value (Operand.func 29)), args := #[(Operand.tmp 12), (Operand.tmp 14)], argTypes := #[22, 22] }, none⟩, []⟩,
  ⟨⟨some 16, Op.unOp UnOp.not 4 (Operand.tmp 15), none⟩, []⟩]) (.cond (Operand.tmp 16) (.seq (.reg [⟨⟨some 4, Op.assign (Operand.const (Value.bool false)), none⟩, []⟩]) .ret) .skip)) (.seq (.reg [⟨⟨some 4, Op.assign (Operand.const (Value.bool true)), none⟩, []⟩]) .ret))))
theorem sl9 : slim Try.f9.ntmps ords9 (Try.f9.body.getD .skip) = some cd9 := by kernel_rfl
theorem in9 {args : List Value} {H : AH} {R : Value → AH → Prop} (hl : args.length = 2) (h : ∀ (Q : Exit → Sl → AH → Prop), (∀ e s H, endA Try.prog [ResultVar.tmp 4] R e s H → Q e s H) → wpC Try.prog cd9 Q (enterA args) H) : ACalls Try.prog 9 args H R :=
  ACalls.intro (by kernel_rfl) Try.func9 rfl (by kernel_rfl) sl9 hl (of_decide_eq_true (by kernel_rfl)) (by kernel_rfl) h
def ords12 : List (Nat × List (Nat × Bool)) := []
def cd12 : Cd := (.seq (.reg [⟨⟨some 2, Op.box 28 (Operand.tmp 0), none⟩, []⟩,
  ⟨⟨some 4, Op.assign (Operand.const (Value.int IntKind.i64 0)), none⟩, []⟩]) (.seq (.reg [⟨⟨some 5, Op.fieldAddr 28 (Operand.tmp 2) 0, none⟩, []⟩,
  ⟨⟨some 6, Op.load 26 (Operand.tmp 5), none⟩, []⟩,
  ⟨⟨some 7, Op.move (Operand.tmp 1), none⟩, []⟩,
  ⟨⟨some 8, Op.call { callee := (Callee.value (Operand.func 31)), args := #[(Operand.tmp 6), (Operand.tmp 7)], argTypes := #[26, 3] }, none⟩, []⟩,
  ⟨⟨some 1, Op.assign (Operand.tmp 8), none⟩, []⟩]) (.seq (.reg [⟨⟨some 9, Op.fieldAddr 28 (Operand.tmp 2) 1, none⟩, []⟩,
  ⟨⟨some 10, Op.load 22 (Operand.tmp 9), none⟩, []⟩,
  ⟨⟨some 11, Op.move (Operand.tmp 1), none⟩, []⟩,
  ⟨⟨some 12, Op.call { callee := (Callee.value (Operand.func 30)), args := #[(Operand.tmp 10), (Operand.tmp 11)], argTypes := #[22, 3] }, none⟩, []⟩,
  ⟨⟨some 1, Op.assign (Operand.tmp 12), none⟩, []⟩]) (.seq (.reg [⟨⟨some 13, Op.move (Operand.tmp 1), none⟩, []⟩,
  ⟨⟨some 4, Op.assign (Operand.tmp 13), none⟩, []⟩]) .ret))))
theorem sl12 : slim Try.f12.ntmps ords12 (Try.f12.body.getD .skip) = some cd12 := by kernel_rfl
theorem in12 {args : List Value} {H : AH} {R : Value → AH → Prop} (hl : args.length = 2) (h : ∀ (Q : Exit → Sl → AH → Prop), (∀ e s H, endA Try.prog [ResultVar.tmp 4] R e s H → Q e s H) → wpC Try.prog cd12 Q (enterA args) H) : ACalls Try.prog 12 args H R :=
  ACalls.intro (by kernel_rfl) Try.func12 rfl (by kernel_rfl) sl12 hl (of_decide_eq_true (by kernel_rfl)) (by kernel_rfl) h
def ords13 : List (Nat × List (Nat × Bool)) := []
def cd13 : Cd := (.seq (.reg [⟨⟨some 2, Op.box 28 (Operand.tmp 0), none⟩, []⟩,
  ⟨⟨some 4, Op.assign (Operand.const (Value.int IntKind.i64 0)), none⟩, []⟩]) (.seq (.reg [⟨⟨some 5, Op.fieldAddr 28 (Operand.tmp 2) 0, none⟩, []⟩,
  ⟨⟨some 6, Op.load 26 (Operand.tmp 5), none⟩, []⟩,
  ⟨⟨some 7, Op.move (Operand.tmp 1), none⟩, []⟩,
  ⟨⟨some 8, Op.call { callee := (Callee.value (Operand.func 32)), args := #[(Operand.tmp 6), (Operand.tmp 7)], argTypes := #[26, 3] }, none⟩, []⟩,
  ⟨⟨some 1, Op.assign (Operand.tmp 8), none⟩, []⟩]) (.seq (.seq (.reg [⟨⟨some 9, Op.move (Operand.tmp 1), none⟩, []⟩,
  ⟨⟨some 10, Op.binOp BinOp.lss 3 (Operand.tmp 9) (Operand.const (Value.int IntKind.i64 0)) 3, none⟩, []⟩]) (.cond (Operand.tmp 10) (.seq (.reg [⟨⟨some 4, Op.assign (Operand.const (Value.int IntKind.i64 (-1))), none⟩, []⟩]) .ret) .skip)) (.seq (.reg [⟨⟨some 11, Op.fieldAddr 28 (Operand.tmp 2) 1, none⟩, []⟩,
  ⟨⟨some 12, Op.load 22 (Operand.tmp 11), none⟩, []⟩,
  ⟨⟨some 13, Op.move (Operand.tmp 1), none⟩, []⟩,
  ⟨⟨some 14, Op.call { callee := (Callee.value (Operand.func 33)), args := #[(Operand.tmp 12), (Operand.tmp 13)], argTypes := #[22, 3] }, none⟩, []⟩,
  ⟨⟨some 1, Op.assign (Operand.tmp 14), none⟩, []⟩]) (.seq (.seq (.reg [⟨⟨some 15, Op.move (Operand.tmp 1), none⟩, []⟩,
  ⟨⟨some 16, Op.binOp BinOp.lss 3 (Operand.tmp 15) (Operand.const (Value.int IntKind.i64 0)) 3, none⟩, []⟩]) (.cond (Operand.tmp 16) (.seq (.reg [⟨⟨some 4, Op.assign (Operand.const (Value.int IntKind.i64 (-1))), none⟩, []⟩]) .ret) .skip)) (.seq (.reg [⟨⟨some 17, Op.move (Operand.tmp 1), none⟩, []⟩,
  ⟨⟨some 4, Op.assign (Operand.tmp 17), none⟩, []⟩]) .ret))))))
theorem sl13 : slim Try.f13.ntmps ords13 (Try.f13.body.getD .skip) = some cd13 := by kernel_rfl
theorem in13 {args : List Value} {H : AH} {R : Value → AH → Prop} (hl : args.length = 2) (h : ∀ (Q : Exit → Sl → AH → Prop), (∀ e s H, endA Try.prog [ResultVar.tmp 4] R e s H → Q e s H) → wpC Try.prog cd13 Q (enterA args) H) : ACalls Try.prog 13 args H R :=
  ACalls.intro (by kernel_rfl) Try.func13 rfl (by kernel_rfl) sl13 hl (of_decide_eq_true (by kernel_rfl)) (by kernel_rfl) h
end Go.Proofs.Ytjnefjchconebab.Ai
namespace Go.Proofs.Ytjnefjchconebab.Ai
open Go Go.RowKit
set_option linter.unusedVariables false
set_option linter.unusedSimpArgs false
/-- a space's two lists in memory -/
def SpRow (H : AH) (a b : Value) (ls : List (List Int)) (ps : List (Int × Int)) : Prop := (∃ bd, RowLB bd 38 3 H a ls) ∧ RowP 66 H b ps
/-- .. of one's own: the states below mid, the steps from mid on -/
def SpIn (lo hi : Nat) (H : AH) (a b : Value) (ls : List (List Int)) (ps : List (Int × Int)) : Prop := ∃ mid, lo ≤ mid ∧ mid ≤ hi ∧ InL lo mid 38 3 H a ls ∧ InP mid hi 66 H b ps
theorem SpIn.row {lo hi : Nat} {H : AH} {a b : Value} {ls : List (List Int)} {ps : List (Int × Int)} (h : SpIn lo hi H a b ls ps) : SpRow H a b ls ps := by
  obtain ⟨mid, h1, h2, h3, h4⟩ := h
  exact ⟨⟨_, h3.row⟩, h4.row.1⟩
theorem SpIn.pre {lo hi : Nat} {H H' : AH} {a b : Value} {ls : List (List Int)} {ps : List (Int × Int)} (h : SpIn lo hi H a b ls ps) (hp : H <+: H') : SpIn lo hi H' a b ls ps := by
  obtain ⟨mid, h1, h2, h3, h4⟩ := h
  exact ⟨mid, h1, h2, h3.pre hp, h4.pre hp⟩
theorem SpIn.keep {lo hi lo' hi' : Nat} {H H' : AH} {a b : Value} {ls : List (List Int)} {ps : List (Int × Int)} (h : SpIn lo hi H a b ls ps) (he : ElseR lo' hi' H H') (hl : hi ≤ lo' ∨ hi' ≤ lo) : SpIn lo hi H' a b ls ps := by
  obtain ⟨mid, h1, h2, h3, h4⟩ := h
  exact ⟨mid, h1, h2, h3.keep he (by omega), h4.keep he (by omega)⟩
theorem SpRow.pre {H H' : AH} {a b : Value} {ls : List (List Int)} {ps : List (Int × Int)} (h : SpRow H a b ls ps) (hp : H <+: H') : SpRow H' a b ls ps := ⟨h.1.imp fun _ q => q.pre hp, h.2.pre hp⟩
theorem SpRow.shape {H : AH} {a b : Value} {ls : List (List Int)} {ps : List (Int × Int)} (h : SpRow H a b ls ps) : (∃ p n c, a = .slice p n c) ∧ ∃ p n c, b = .slice p n c := by
  obtain ⟨⟨bd, us, h1, _⟩, h2⟩ := h
  obtain ⟨p, e⟩ := h1.shape
  obtain ⟨q, e2⟩ := h2.shape
  exact ⟨⟨_, _, _, e⟩, ⟨_, _, _, e2⟩⟩
theorem SpRow.box {H G : AH} {a b : Value} {ls : List (List Int)} {ps : List (Int × Int)} (h : SpRow G a b ls ps) : boxA Try.prog 28 (.agg (List.toArray [a, b])) H = some (.pointer (some ⟨H.length, 0, none⟩), H ++ [.cells [a, b] 28 false]) := by
  obtain ⟨⟨p, n, c, rfl⟩, ⟨q, m, d, rfl⟩⟩ := h.shape
  kernel_rfl
theorem SpRow.store {e : TypeId} {H G : AH} {o : Nat} {vs : List Value} {a b : Value} {ls : List (List Int)} {ps : List (Int × Int)} (h : SpRow G a b ls ps) (ho : H[o]? = some (.cells vs e false)) (hv : vs.length = 2) :
    storeA Try.prog 28 (.pointer (some ⟨o, 0, none⟩)) (.agg (List.toArray [a, b])) H = some (H.set o (.cells [a, b] e false)) := by
  obtain ⟨⟨p, n, c, rfl⟩, ⟨q, m, d, rfl⟩⟩ := h.shape
  exact st_ss ho hv p q n c m d
theorem eqSpace_c (a b c d : Value) (ls ms : List (List Int)) (ps qs : List (Int × Int)) (H : AH) (hr : SpRow H a b ls ps) (hr2 : SpRow H c d ms qs) (hl : ls.length ≤ 1099511627776) (hs : sizeL ls ≤ 1099511627776) (hp : ps.length ≤ 1099511627776) :
    ACalls Try.prog 9 [.agg (List.toArray [a, b]), .agg (List.toArray [c, d])] H fun r H' => r = .bool (decide (ls = ms ∧ ps = qs)) ∧ H <+: H' := by
  refine in9 rfl ?_
  intro Q hQ
  simp (maxSteps := 1000000) (disch := omega) only [cd9, hr.box, hr2.box, S, S1, S2, S3, S4, S5, ST, eq_self, reduceIte, reduceCtorEq, Nat.reduceEqDiff, Nat.reduceAdd]
  generalize hA : H ++ [AObj.cells [a, b] 28 false] = A
  have pA : H <+: A := by rw [← hA]; exact List.prefix_append _ _
  have a0 : A[H.length]? = some (.cells [a, b] 28 false) := by rw [← hA]; exact at_new ..
  generalize hB : A ++ [AObj.cells [c, d] 28 false] = B
  have pB : A <+: B := by rw [← hB]; exact List.prefix_append _ _
  have b0 := pre_at pB a0
  have b1 : B[A.length]? = some (.cells [c, d] 28 false) := by rw [← hB]; exact at_new ..
  have pHB := pA.trans pB
  obtain ⟨⟨bd, r1⟩, r2⟩ := hr.pre pHB
  obtain ⟨⟨bd2, r3⟩, r4⟩ := hr2.pre pHB
  simp (maxSteps := 1000000) (disch := omega) only [cell_of b0, cell_of b1, S, S1, S2, S3, S4, S5, ST, eq_self, reduceIte, reduceCtorEq, Nat.reduceEqDiff, Nat.reduceAdd]
  refine CallH.by (eqIntSS_c a c ls ms B r1 r3 hl hs) ?_
  rintro _ _ ⟨rfl, rfl⟩
  simp (maxSteps := 1000000) (disch := omega) only [S, S1, S2, S3, S4, S5, ST, eq_self, reduceIte, reduceCtorEq, Nat.reduceEqDiff, Nat.reduceAdd]
  refine brD.intro (fun g => ?_) (fun g => ?_) <;> simp (maxSteps := 1000000) (disch := omega) only [g, cell_of b0, cell_of b1, S, S1, S2, S3, S4, S5, ST, eq_self, reduceIte, reduceCtorEq, Nat.reduceEqDiff, Nat.reduceAdd]
  · refine CallH.by (eqIntA2S_c b d ps qs B r2 r4 hp) ?_
    rintro _ C ⟨rfl, pC⟩
    have pHC := pHB.trans pC
    simp (maxSteps := 1000000) (disch := omega) only [S, S1, S2, S3, S4, S5, ST, eq_self, reduceIte, reduceCtorEq, Nat.reduceEqDiff, Nat.reduceAdd]
    refine brD.intro (fun e => ?_) (fun e => ?_) <;> simp (maxSteps := 1000000) (disch := omega) only [e, S, S1, S2, S3, S4, S5, ST, eq_self, reduceIte, reduceCtorEq, Nat.reduceEqDiff, Nat.reduceAdd]
    · refine hQ _ _ _ ?_
      simp (maxSteps := 1000000) (disch := omega) only [S, S1, S2, S3, S4, S5, ST, eq_self, reduceIte, reduceCtorEq, Nat.reduceEqDiff, Nat.reduceAdd]
      exact ⟨by rw [decide_eq_true ⟨g, e⟩], pHC⟩
    · refine hQ _ _ _ ?_
      simp (maxSteps := 1000000) (disch := omega) only [S, S1, S2, S3, S4, S5, ST, eq_self, reduceIte, reduceCtorEq, Nat.reduceEqDiff, Nat.reduceAdd]
      exact ⟨by rw [decide_eq_false (fun h => e h.2)], pHC⟩
  · refine hQ _ _ _ ?_
    simp (maxSteps := 1000000) (disch := omega) only [S, S1, S2, S3, S4, S5, ST, eq_self, reduceIte, reduceCtorEq, Nat.reduceEqDiff, Nat.reduceAdd]
    exact ⟨by rw [decide_eq_false (fun h => g h.1)], pHB⟩
theorem markSpace_B (a b : Value) (ls : List (List Int)) (ps : List (Int × Int)) (k : Int) (lo hi : Nat) (H : AH) (h : SpIn lo hi H a b ls ps) (hl : ls.length ≤ 1099511627776) (hs : sizeL ls ≤ 549755813888) (hp : ps.length ≤ 1099511627776) (hk : 0 ≤ k ∧ k ≤ 1000000) (hb : hi ≤ H.length) :
    ACalls Try.prog 12 [.agg (List.toArray [a, b]), .int .i64 k] H fun r H' => r = .int .i64 (k + sizeL ls + 2 * ps.length) ∧ ∃ Hm, SpIn lo hi Hm a b (runL k ls) (runP (k + sizeL ls) ps.length) ∧ ElseR lo hi H Hm ∧ Hm <+: H' := by
  refine in12 rfl ?_
  intro Q hQ
  have hrow := h.row
  simp (maxSteps := 1000000) (disch := omega) only [cd12, hrow.box, cell_new, S, S1, S2, S3, S4, S5, ST, eq_self, reduceIte, reduceCtorEq, Nat.reduceEqDiff, Nat.reduceAdd]
  generalize hA : H ++ [AObj.cells [a, b] 28 false] = A
  have pA : H <+: A := by rw [← hA]; exact List.prefix_append _ _
  have cA : A[H.length]? = some (.cells [a, b] 28 false) := by rw [← hA]; exact at_new ..
  have lA : A.length = H.length + 1 := by rw [← hA]; simp
  obtain ⟨mid, m1, m2, m3, m4⟩ := h.pre pA
  refine CallH.by (markIntSS_B a ls k lo mid A m3 hl (by omega) (by omega)) ?_
  rintro _ B ⟨rfl, m5, e1⟩
  have m6 := m4.keep e1 (.inr (Nat.le_refl _))
  have cB := e1.2 _ _ (.inr (by omega)) cA
  simp (maxSteps := 1000000) (disch := omega) only [cell_of cB, S, S1, S2, S3, S4, S5, ST, eq_self, reduceIte, reduceCtorEq, Nat.reduceEqDiff, Nat.reduceAdd]
  refine CallH.by (markIntA2S_B b ps (k + sizeL ls) mid hi B m6 hp (by omega)) ?_
  rintro _ C ⟨rfl, m7, e2⟩
  have m8 := m5.keep e2 (.inl (Nat.le_refl _))
  simp (maxSteps := 1000000) (disch := omega) only [S, S1, S2, S3, S4, S5, ST, eq_self, reduceIte, reduceCtorEq, Nat.reduceEqDiff, Nat.reduceAdd]
  refine hQ _ _ _ ?_
  simp (maxSteps := 1000000) (disch := omega) only [S, S1, S2, S3, S4, S5, ST, eq_self, reduceIte, reduceCtorEq, Nat.reduceEqDiff, Nat.reduceAdd]
  have eAll : ElseR lo hi A C := ⟨e2.1.trans e1.1, fun o x ho hx => e2.2 o x (by omega) (e1.2 o x (by omega) hx)⟩
  have hC : ∀ o, o < H.length → (C.take H.length)[o]? = C[o]? := fun o ho => List.getElem?_take_of_lt ho
  refine ⟨C.take H.length, ⟨mid, m1, m2, ?_, ?_⟩, ⟨?_, ?_⟩, List.take_prefix _ _⟩
  · rcases m8 with q | ⟨o, us, q1, q2⟩
    · exact .inl q
    · exact .inr ⟨o, us, q1, q2.move fun j y hj1 hj2 hy => by rw [hC j (by omega)]; exact hy⟩
  · rcases m7 with q | ⟨o, zs, q1, q2, q3, q4, q5⟩
    · exact .inl q
    · exact .inr ⟨o, zs, q1, q2, q3, by rw [hC o (by omega)]; exact q4, q5⟩
  · have := eAll.1
    rw [List.length_take]; omega
  · intro o x ho hx
    rw [hC o (at_lt hx)]
    exact eAll.2 o x ho (pre_at pA hx)
theorem heldSpace_c (a b : Value) (ls : List (List Int)) (n : Nat) (k : Int) (H : AH) (h : SpRow H a b (runL k ls) (runP (k + sizeL ls) n)) (hl : ls.length ≤ 1099511627776) (hs : sizeL ls ≤ 549755813888) (hn : n ≤ 1099511627776) (hk : 0 ≤ k ∧ k ≤ 1000000) :
    ACalls Try.prog 13 [.agg (List.toArray [a, b]), .int .i64 k] H fun r H' => r = .int .i64 (k + sizeL ls + 2 * n) ∧ H <+: H' := by
  refine in13 rfl ?_
  intro Q hQ
  simp (maxSteps := 1000000) (disch := omega) only [cd13, h.box, cell_new, S, S1, S2, S3, S4, S5, ST, eq_self, reduceIte, reduceCtorEq, Nat.reduceEqDiff, Nat.reduceAdd]
  generalize hA : H ++ [AObj.cells [a, b] 28 false] = A
  have pA : H <+: A := by rw [← hA]; exact List.prefix_append _ _
  have cA : A[H.length]? = some (.cells [a, b] 28 false) := by rw [← hA]; exact at_new ..
  obtain ⟨⟨bd, r1⟩, r2⟩ := h.pre pA
  refine CallH.by (heldIntSS_c a ls k A r1 hl (by omega) (by omega)) ?_
  rintro _ _ ⟨rfl, rfl⟩
  simp (maxSteps := 1000000) (disch := omega) only [S, S1, S2, S3, S4, S5, ST, eq_self, reduceIte, reduceCtorEq, Nat.reduceEqDiff, Nat.reduceAdd]
  refine brD.intro (fun g => absurd g (by omega)) (fun g => ?_)
  simp (maxSteps := 1000000) (disch := omega) only [cell_of cA, S, S1, S2, S3, S4, S5, ST, eq_self, reduceIte, reduceCtorEq, Nat.reduceEqDiff, Nat.reduceAdd]
  refine CallH.by (heldIntA2S_c b n (k + sizeL ls) A r2 hn (by omega)) ?_
  rintro _ _ ⟨rfl, rfl⟩
  simp (maxSteps := 1000000) (disch := omega) only [S, S1, S2, S3, S4, S5, ST, eq_self, reduceIte, reduceCtorEq, Nat.reduceEqDiff, Nat.reduceAdd]
  refine brD.intro (fun g => absurd g (by omega)) (fun g => ?_)
  simp (maxSteps := 1000000) (disch := omega) only [S, S1, S2, S3, S4, S5, ST, eq_self, reduceIte, reduceCtorEq, Nat.reduceEqDiff, Nat.reduceAdd]
  refine hQ _ _ _ ?_
  simp (maxSteps := 1000000) (disch := omega) only [S, S1, S2, S3, S4, S5, ST, eq_self, reduceIte, reduceCtorEq, Nat.reduceEqDiff, Nat.reduceAdd]
  exact pA
end Go.Proofs.Ytjnefjchconebab.Ai
namespace Go.Proofs.Ytjnefjchconebab.Ai
open Go Go.RowKit
set_option linter.unusedVariables false
set_option linter.unusedSimpArgs false
/-- the places that steps join with one -/
def nbS (ps : List (Int × Int)) (x : Int) : List Int := (ps.filter fun e => decide (e.2 = x)).map (·.1) ++ (ps.filter fun e => decide (e.1 = x)).map (·.2)
theorem nbS_mem (ps : List (Int × Int)) (x y : Int) : y ∈ nbS ps x ↔ (y, x) ∈ ps ∨ (x, y) ∈ ps := by
  unfold nbS
  simp only [List.mem_append, List.mem_map, List.mem_filter, decide_eq_true_eq]
  constructor
  · rintro (⟨e, ⟨h1, h2⟩, rfl⟩ | ⟨e, ⟨h1, h2⟩, rfl⟩)
    · left; rw [← h2]; exact h1
    · right; rw [← h2]; exact h1
  · rintro (h | h)
    · exact .inl ⟨_, ⟨h, rfl⟩, rfl⟩
    · exact .inr ⟨_, ⟨h, rfl⟩, rfl⟩
/-- steps between n places, in order -/
structure StpOk (n : Nat) (ps : List (Int × Int)) : Prop where
  rng : ∀ e ∈ ps, 0 ≤ e.1 ∧ e.1 < e.2 ∧ e.2 < n
  srt : ps.Pairwise pairLt
theorem nbS_asc {n : Nat} {ps : List (Int × Int)} (h : StpOk n ps) (x : Int) : (nbS ps x).Pairwise (· < ·) := by
  unfold nbS
  rw [List.pairwise_append]
  refine ⟨?_, ?_, ?_⟩
  · rw [List.pairwise_map]
    refine List.Pairwise.imp_of_mem ?_ (h.srt.filter _)
    intro a b ha hb hab
    have h1 := (List.mem_filter.1 ha).2
    have h2 := (List.mem_filter.1 hb).2
    simp only [decide_eq_true_eq] at h1 h2
    unfold pairLt at hab; omega
  · rw [List.pairwise_map]
    refine List.Pairwise.imp_of_mem ?_ (h.srt.filter _)
    intro a b ha hb hab
    have h1 := (List.mem_filter.1 ha).2
    have h2 := (List.mem_filter.1 hb).2
    simp only [decide_eq_true_eq] at h1 h2
    unfold pairLt at hab; omega
  · intro y hy z hz
    obtain ⟨a, ha, rfl⟩ := List.mem_map.1 hy
    obtain ⟨b, hb, rfl⟩ := List.mem_map.1 hz
    have h1 := List.mem_filter.1 ha
    have h2 := List.mem_filter.1 hb
    have h3 := h1.2
    have h4 := h2.2
    simp only [decide_eq_true_eq] at h3 h4
    have := h.rng a h1.1
    have := h.rng b h2.1
    omega
theorem nbS_rng {n : Nat} {ps : List (Int × Int)} (h : StpOk n ps) {x y : Int} (hy : y ∈ nbS ps x) : 0 ≤ y ∧ y < n := by
  rcases (nbS_mem ps x y).1 hy with q | q
  · have := h.rng _ q; simp only at this; omega
  · have := h.rng _ q; simp only at this; omega
theorem StpOk.take {n : Nat} {ps : List (Int × Int)} (h : StpOk n ps) (i : Nat) : StpOk n (ps.take i) := ⟨fun e he => h.rng e (List.mem_of_mem_take he), h.srt.sublist (List.take_sublist _ _)⟩
end Go.Proofs.Ytjnefjchconebab.Ai
namespace Go.Proofs.Ytjnefjchconebab.Ai
open Go
set_option linter.unusedVariables false
theorem stpI_mem {p : List Int → List Int → Bool} {ls : List (List Int)} {i : Nat} {e : Int × Int} : ∀ k, e ∈ stpI p ls i k ↔ e.1 = i ∧ ((i : Int) < e.2 ∧ e.2 < i + 1 + k) ∧ p (ls.getD i []) (ls.getD e.2.toNat []) = true
  | 0 => by simp [stpI]; omega
  | k + 1 => by
    rw [stpI, List.mem_append, stpI_mem k]
    constructor
    · rintro (⟨h1, h2, h3⟩ | h)
      · exact ⟨h1, by omega, h3⟩
      · split at h
        · rename_i hp
          rw [List.mem_singleton] at h
          subst h
          exact ⟨rfl, by simp only; omega, by rw [Int.toNat_natCast]; exact hp⟩
        · simp at h
    · rintro ⟨h1, h2, h3⟩
      by_cases q : e.2 = ((i + 1 + k : Nat) : Int)
      · right
        rw [q, Int.toNat_natCast] at h3
        rw [if_pos h3, List.mem_singleton]
        exact Prod.ext h1 q
      · exact .inl ⟨h1, by omega, h3⟩
theorem stpI_srt (p : List Int → List Int → Bool) (ls : List (List Int)) (i : Nat) : ∀ k, (stpI p ls i k).Pairwise pairLt
  | 0 => .nil
  | k + 1 => by
    rw [stpI, List.pairwise_append]
    refine ⟨stpI_srt p ls i k, by split <;> simp, fun a ha b hb => ?_⟩
    have h1 := (stpI_mem k).1 ha
    split at hb
    · rw [List.mem_singleton] at hb
      subst hb
      unfold pairLt; simp only; omega
    · simp at hb
theorem stpO_mem {p : List Int → List Int → Bool} {ls : List (List Int)} {e : Int × Int} : ∀ i, i ≤ ls.length → (e ∈ stpO p ls i ↔ (0 ≤ e.1 ∧ e.1 < i) ∧ (e.1 < e.2 ∧ e.2 < ls.length) ∧ p (ls.getD e.1.toNat []) (ls.getD e.2.toNat []) = true)
  | 0, _ => by simp [stpO]; omega
  | i + 1, hi => by
    rw [stpO, List.mem_append, stpO_mem i (by omega), stpI_mem]
    constructor
    · rintro (⟨h1, h2, h3⟩ | ⟨h1, h2, h3⟩)
      · exact ⟨by omega, h2, h3⟩
      · refine ⟨by omega, by omega, ?_⟩
        rw [h1, Int.toNat_natCast]; exact h3
    · rintro ⟨h1, h2, h3⟩
      by_cases q : e.1 = i
      · right
        rw [q, Int.toNat_natCast] at h3
        exact ⟨q, by omega, h3⟩
      · exact .inl ⟨by omega, h2, h3⟩
theorem stpO_srt (p : List Int → List Int → Bool) (ls : List (List Int)) : ∀ i, i ≤ ls.length → (stpO p ls i).Pairwise pairLt
  | 0, _ => .nil
  | i + 1, hi => by
    rw [stpO, List.pairwise_append]
    refine ⟨stpO_srt p ls i (by omega), stpI_srt p ls i _, fun a ha b hb => ?_⟩
    have h1 := (stpO_mem i (by omega)).1 ha
    have h2 := (stpI_mem _).1 hb
    unfold pairLt; omega
theorem steps_ok (p : List Int → List Int → Bool) (ls : List (List Int)) : StpOk ls.length (steps p ls) :=
  ⟨fun e he => by have := (stpO_mem _ (Nat.le_refl _)).1 he; omega, stpO_srt p ls _ (Nat.le_refl _)⟩
theorem steps_nb (p : List Int → List Int → Bool) (ls : List (List Int)) {x y : Nat} (hx : x < ls.length) (hy : y < ls.length) : (y : Int) ∈ nbS (steps p ls) x ↔ (y < x ∧ p (ls.getD y []) (ls.getD x []) = true) ∨ (x < y ∧ p (ls.getD x []) (ls.getD y []) = true) := by
  rw [nbS_mem, stpO_mem _ (Nat.le_refl _), stpO_mem _ (Nat.le_refl _)]
  simp only [Int.toNat_natCast]
  constructor
  · rintro (⟨h1, h2, h3⟩ | ⟨h1, h2, h3⟩)
    · exact .inl ⟨by omega, h3⟩
    · exact .inr ⟨by omega, h3⟩
  · rintro (⟨h1, h2⟩ | ⟨h1, h2⟩)
    · exact .inl ⟨by omega, by omega, h2⟩
    · exact .inr ⟨by omega, by omega, h2⟩
/-- how many are joined with one -/
theorem nbS_cnt (p : List Int → List Int → Bool) (ls : List (List Int)) (x : Nat) : (nbS (steps p ls) x).length ≤ ls.countP fun m => p m (ls.getD x []) || p (ls.getD x []) m := by
  have hok := steps_ok p ls
  have hasc := nbS_asc hok (x : Int)
  have hm : (nbS (steps p ls) x).map (fun z => z.toNat) = ((List.range ls.length).filter fun y : Nat => decide ((y : Int) ∈ nbS (steps p ls) x)) := by
    have hs : ((nbS (steps p ls) x).map (fun z => z.toNat)).Pairwise (· < ·) := by
      rw [List.pairwise_map]
      refine List.Pairwise.imp_of_mem ?_ hasc
      intro a b ha hb hab
      have := nbS_rng hok ha; omega
    have hs2 := (List.pairwise_lt_range (n := ls.length)).filter (fun y : Nat => decide ((y : Int) ∈ nbS (steps p ls) x))
    refine List.Perm.eq_of_pairwise (le := (· < ·)) (fun a b _ _ h3 h4 => by omega) hs hs2 ?_
    rw [List.perm_ext_iff_of_nodup (hs.imp fun h => by omega) (hs2.imp fun h => by omega)]
    intro y
    simp only [List.mem_map, List.mem_filter, List.mem_range, decide_eq_true_eq]
    constructor
    · rintro ⟨z, hz, rfl⟩
      have := nbS_rng hok hz
      refine ⟨by omega, ?_⟩
      rw [Int.toNat_of_nonneg this.1]; exact hz
    · rintro ⟨_, h⟩
      exact ⟨_, h, by simp⟩
  have hl := congrArg List.length hm
  rw [List.length_map] at hl
  rw [hl]
  by_cases hx : x < ls.length
  · have e1 : ls = (List.range ls.length).map fun i => ls.getD i [] := by
      refine List.ext_getElem (by simp) fun i h1 h2 => ?_
      simp [h1]
    conv => rhs; rw [e1]
    rw [List.countP_map, ← List.countP_eq_length_filter]
    refine List.countP_mono_left fun y hy hd => ?_
    have hyl := List.mem_range.1 hy
    have := (steps_nb p ls hx hyl).1 (of_decide_eq_true hd)
    have e2 : ((List.range ls.length).map fun i => ls.getD i []).getD x [] = ls.getD x [] := by rw [← e1]
    simp only [Function.comp_apply, e2, Bool.or_eq_true]
    rcases this with h | h
    · exact .inl h.2
    · exact .inr h.2
  · have : ((List.range ls.length).filter fun y : Nat => decide ((y : Int) ∈ nbS (steps p ls) x)) = [] := by
      rw [List.filter_eq_nil_iff]
      intro y hy
      rw [decide_eq_true_eq, nbS_mem]
      rintro (h | h)
      · have := hok.rng _ h; simp only at this; omega
      · have := hok.rng _ h; simp only at this; omega
    rw [this]; simp
end Go.Proofs.Ytjnefjchconebab.Ai
namespace Go.Proofs.Ytjnefjchconebab.Ai
open Go
set_option linter.unusedVariables false
/-- the numbers in a bag are those below 64 in a list -/
def BagI (b : Nat) (s : List Int) : Prop := b < 2 ^ 32 ∧ ∀ z : Nat, z < 64 → b.testBit z = decide ((z : Int) ∈ s)
theorem BagI.zero : BagI 0 [] := ⟨by decide, fun z _ => by simp⟩
theorem BagI.or {b y : Nat} {s : List Int} (h : BagI b s) (hy : y < 32) : BagI (b ||| 2 ^ y) (s ++ [(y : Int)]) := by
  refine ⟨Nat.or_lt_two_pow h.1 (Nat.pow_lt_pow_right (by decide) hy), fun z hz => ?_⟩
  rw [Nat.testBit_or, h.2 z hz, Nat.testBit_two_pow]
  by_cases e : y = z
  · subst e; simp
  · have e2 : ¬ ((z : Int) = y) := by omega
    simp [e, e2]
theorem BagI.congr {b : Nat} {s t : List Int} (h : BagI b s) (he : ∀ z : Nat, z < 64 → ((z : Int) ∈ s ↔ (z : Int) ∈ t)) : BagI b t :=
  ⟨h.1, fun z hz => by rw [h.2 z hz]; exact decide_eq_decide.2 (he z hz)⟩
end Go.Proofs.Ytjnefjchconebab.Ai
namespace Go.Proofs.Ytjnefjchconebab.Ai
open Go
def ords97 : List (Nat × List (Nat × Bool)) := []
def cd97 : Cd := (.seq (.reg [⟨⟨some 4, Op.assign (Operand.const (Value.bool false)), none⟩, []⟩]) (.seq (.seq (.reg [⟨⟨some 5, Op.assign (Operand.const (Value.int IntKind.i64 0)), none⟩, []⟩]) (.block 0 (.loop (.seq (.seq (.reg [⟨⟨some 6, Op.move (Operand.tmp 5), none⟩, []⟩,
  ⟨⟨some 7, Op.move (Operand.tmp 0), none⟩, []⟩,
  ⟨⟨some 8, Op.call { callee := (Callee.builtin Builtin.len), args := #[(Operand.tmp 7)], argTypes := #[38] }, none⟩, []⟩,
  ⟨⟨some 9, Op.binOp BinOp.lss 3 (Operand.tmp 6) (Operand.tmp 8) 3, none⟩, []⟩]) (.cond (Operand.tmp 9) .skip (.exit 0))) (.seq (.block 1 (.seq (.reg [⟨⟨some 12, Op.move (Operand.tmp 0), none⟩, []⟩,
  ⟨⟨some 13, Op.move (Operand.tmp 5), none⟩, []⟩,
  ⟨⟨some 14, Op.indexAddr 38 (Operand.tmp 12) (Operand.tmp 13), none⟩, []⟩,
  ⟨⟨some 15, Op.load 3 (Operand.tmp 14), none⟩, []⟩,
  ⟨⟨some 16, Op.move (Operand.tmp 1), none⟩, []⟩,
  ⟨⟨some 17, Op.binOp BinOp.eql 3 (Operand.tmp 15) (Operand.tmp 16) 3, none⟩, []⟩]) (.cond (Operand.tmp 17) (.seq (.reg [⟨⟨some 4, Op.assign (Operand.const (Value.bool true)), none⟩, []⟩]) .ret) .skip))) (.reg [⟨⟨some 10, Op.move (Operand.tmp 5), none⟩, []⟩,
  ⟨⟨some 11, Op.binOp BinOp.add 3 (Operand.tmp 10) (Operand.const (Value.int IntKind.i64 1)) 3, none⟩, []⟩,
  ⟨⟨some 5, Op.assign (Operand.tmp 11), none⟩, []⟩])))))) (.seq (.reg [⟨⟨some 4, Op.assign (Operand.const (Value.bool false)), none⟩, []⟩]) .ret)))
theorem sl97 : slim Try.f97.ntmps ords97 (Try.f97.body.getD .skip) = some cd97 := by kernel_rfl
theorem in97 {args : List Value} {H : AH} {R : Value → AH → Prop} (hl : args.length = 2) (h : ∀ (Q : Exit → Sl → AH → Prop), (∀ e s H, endA Try.prog [ResultVar.tmp 4] R e s H → Q e s H) → wpC Try.prog cd97 Q (enterA args) H) : ACalls Try.prog 97 args H R :=
  ACalls.intro (by kernel_rfl) Try.func97 rfl (by kernel_rfl) sl97 hl (of_decide_eq_true (by kernel_rfl)) (by kernel_rfl) h
end Go.Proofs.Ytjnefjchconebab.Ai
namespace Go.Proofs.Ytjnefjchconebab.Ai
open Go Go.RowKit
set_option linter.unusedVariables false
set_option linter.unusedSimpArgs false
theorem l1Has_c (v : Value) (xs : List Int) (x : Int) (H : AH) (hr : Row 3 H v xs) (hlen : xs.length ≤ 1099511627776) : ACalls Try.prog 97 [v, .int .i64 x] H fun r H' => r = .bool (decide (x ∈ xs)) ∧ H = H' := by
  refine in97 rfl ?_
  intro Q hQ
  simp (maxSteps := 1000000) (disch := omega) only [cd97, S, S1, S2, S3, S4, S5, ST, eq_self, reduceIte, reduceCtorEq, Nat.reduceEqDiff, Nat.reduceAdd]
  refine LoopH.by (fun m s H' => ∃ i, m + i = xs.length ∧ s 0 = v ∧ s 1 = .int .i64 x ∧ s 5 = .int .i64 ((i : Nat) : Int) ∧ H = H' ∧ x ∉ xs.take i) xs.length ?_ ?_
  · exact ⟨0, by simp, rfl, rfl, rfl, rfl, by simp⟩
  · rintro m s H' ⟨i, hm, h0, h1, h5, rfl, hn⟩
    simp (maxSteps := 1000000) (disch := omega) only [h0, h1, h5, hr.len Try.underlying38, S, S1, S2, S3, S4, S5, ST, eq_self, reduceIte, reduceCtorEq, Nat.reduceEqDiff, Nat.reduceAdd]
    refine brD.intro (fun g => ?_) (fun g => ?_) <;> simp (maxSteps := 1000000) (disch := omega) only [h0, h1, h5, hr.ix Try.underlying38 cs3, hr.cell, Int.toNat_natCast, S, S1, S2, S3, S4, S5, ST, eq_self, reduceIte, reduceCtorEq, Nat.reduceEqDiff, Nat.reduceAdd]
    · have hi : i < xs.length := by omega
      have hg : xs.getD i 0 = xs[i] := by simp [hi]
      refine brD.intro (fun e => ?_) (fun e => ?_) <;> simp (maxSteps := 1000000) (disch := omega) only [h0, h1, h5, wrap64, S, S1, S2, S3, S4, S5, ST, eq_self, reduceIte, reduceCtorEq, Nat.reduceEqDiff, Nat.reduceAdd]
      · refine hQ _ _ _ ?_
        simp (maxSteps := 1000000) (disch := omega) only [S, S1, S2, S3, S4, S5, ST, eq_self, reduceIte, reduceCtorEq, Nat.reduceEqDiff, Nat.reduceAdd]
        rw [hg] at e
        have : x ∈ xs := e ▸ List.getElem_mem hi
        simp [this]
      · refine ⟨m - 1, by omega, i + 1, by omega, by simp, ?_⟩
        rw [List.take_add_one, List.getElem?_eq_getElem hi]
        rw [hg] at e
        simp only [Option.toList_some, List.mem_append, List.mem_singleton, not_or]
        exact ⟨hn, fun e' => e e'.symm⟩
    · refine hQ _ _ _ ?_
      simp (maxSteps := 1000000) (disch := omega) only [S, S1, S2, S3, S4, S5, ST, eq_self, reduceIte, reduceCtorEq, Nat.reduceEqDiff, Nat.reduceAdd]
      rw [List.take_of_length_le (by omega)] at hn
      simp [hn]
end Go.Proofs.Ytjnefjchconebab.Ai
namespace Go.Proofs.Ytjnefjchconebab.Ai
open Go Go.RowKit Go.Shelf
set_option linter.unusedVariables false
set_option linter.unusedSimpArgs false
attribute [local go_sem] Oper.semAt_some
/-- a slice value that holds ints, in a block below n₀; or it is nil -/
def SlInts (n₀ : Nat) (W : World) (sv : Value) (zs : List Int) : Prop :=
  (∃ a c, sv = .slice a 0 c ∧ zs = []) ∨ ∃ b off cap, sv = .slice (some ⟨b, off, none⟩) zs.length cap ∧ b < n₀ ∧ ∀ j, j < zs.length → W.cell? ⟨b, off + j, none⟩ = some (.int .i64 (zs[j]?.getD 0))
theorem SlInts.below {n₀ : Nat} {A B : World} (h : Below n₀ A B) {sv : Value} {zs : List Int} : SlInts n₀ A sv zs → SlInts n₀ B sv zs
  | .inl e => .inl e
  | .inr ⟨b, off, cap, e, hb, hc⟩ => .inr ⟨b, off, cap, e, hb, fun j hj => (h.cell (p := ⟨b, off + j, none⟩) hb).trans (hc j hj)⟩
end Go.Proofs.Ytjnefjchconebab.Ai
namespace Go.Proofs.Ytjnefjchconebab.Ai
open Go Go.RowKit
set_option linter.unusedVariables false
set_option linter.unusedSimpArgs false
instance (n : Int) (ys : List Int) : Decidable (Rsg n ys) := by unfold Rsg; infer_instance
end Go.Proofs.Ytjnefjchconebab.Ai
namespace Go.Proofs.Ytjnefjchconebab.Ai
open Go
def ords72 : List (Nat × List (Nat × Bool)) := []
def cd72 : Cd := (.seq (.reg [⟨⟨some 2, Op.assign (Operand.const (Value.int IntKind.u64 0)), none⟩, []⟩]) (.seq (.reg [⟨⟨some 3, Op.assign (Operand.const (Value.int IntKind.u64 0)), none⟩, []⟩]) (.seq (.seq (.reg [⟨⟨some 6, Op.move (Operand.tmp 0), none⟩, []⟩,
  ⟨⟨some 7, Op.call { callee := (Callee.builtin Builtin.len), args := #[(Operand.tmp 6)], argTypes := #[38] }, none⟩, []⟩,
  ⟨⟨some 8, Op.move (Operand.const (Value.int IntKind.i64 0)), none⟩, []⟩]) (.block 0 (.loop (.seq (.reg [⟨⟨some 9, Op.binOp BinOp.lss 3 (Operand.tmp 8) (Operand.tmp 7) 3, none⟩, []⟩]) (.seq (.cond (Operand.tmp 9) .skip (.exit 0)) (.seq (.block 1 (.seq (.reg [⟨⟨some 10, Op.indexAddr 38 (Operand.tmp 6) (Operand.tmp 8), none⟩, []⟩,
  ⟨⟨some 11, Op.load 3 (Operand.tmp 10), none⟩, []⟩,
  ⟨⟨some 5, Op.assign (Operand.tmp 11), none⟩, []⟩]) (.reg [⟨⟨some 12, Op.move (Operand.tmp 3), none⟩, []⟩,
  ⟨⟨some 13, Op.move (Operand.tmp 5), none⟩, []⟩,
  ⟨⟨some 14, Op.binOp BinOp.shl 70 (Operand.const (Value.int IntKind.u64 1)) (Operand.tmp 13) 3, none⟩, []⟩,
  ⟨⟨some 15, Op.binOp BinOp.or 70 (Operand.tmp 12) (Operand.tmp 14) 70, none⟩, []⟩,
  ⟨⟨some 3, Op.assign (Operand.tmp 15), none⟩, []⟩]))) (.reg [⟨⟨some 16, Op.binOp BinOp.add 3 (Operand.tmp 8) (Operand.const (Value.int IntKind.i64 1)) 3, none⟩, []⟩,
  ⟨⟨some 8, Op.move (Operand.tmp 16), none⟩, []⟩]))))))) (.seq (.reg [⟨⟨some 17, Op.move (Operand.tmp 3), none⟩, []⟩,
  ⟨⟨some 2, Op.assign (Operand.tmp 17), none⟩, []⟩]) .ret))))
theorem sl72 : slim Try.f72.ntmps ords72 (Try.f72.body.getD .skip) = some cd72 := by kernel_rfl
theorem in72 {args : List Value} {H : AH} {R : Value → AH → Prop} (hl : args.length = 1) (h : ∀ (Q : Exit → Sl → AH → Prop), (∀ e s H, endA Try.prog [ResultVar.tmp 2] R e s H → Q e s H) → wpC Try.prog cd72 Q (enterA args) H) : ACalls Try.prog 72 args H R :=
  ACalls.intro (by kernel_rfl) Try.func72 rfl (by kernel_rfl) sl72 hl (of_decide_eq_true (by kernel_rfl)) (by kernel_rfl) h
def ords49 : List (Nat × List (Nat × Bool)) := []
def cd49 : Cd := (.seq (.reg [⟨⟨some 4, Op.assign (Operand.const (Value.int IntKind.u64 0)), none⟩, []⟩,
  ⟨⟨some 5, Op.assign (Operand.const (Value.int IntKind.u64 0)), none⟩, []⟩]) (.seq (.reg [⟨⟨some 8, Op.move (Operand.tmp 0), none⟩, []⟩,
  ⟨⟨some 9, Op.call { callee := (Callee.value (Operand.func 72)), args := #[(Operand.tmp 8)], argTypes := #[38] }, none⟩, []⟩,
  ⟨⟨some 10, Op.move (Operand.tmp 1), none⟩, []⟩,
  ⟨⟨some 11, Op.call { callee := (Callee.value (Operand.func 72)), args := #[(Operand.tmp 10)], argTypes := #[38] }, none⟩, []⟩,
  ⟨⟨some 6, Op.assign (Operand.tmp 9), none⟩, []⟩,
  ⟨⟨some 7, Op.assign (Operand.tmp 11), none⟩, []⟩]) (.seq (.reg [⟨⟨some 12, Op.move (Operand.tmp 6), none⟩, []⟩,
  ⟨⟨some 13, Op.move (Operand.tmp 7), none⟩, []⟩,
  ⟨⟨some 14, Op.binOp BinOp.andNot 70 (Operand.tmp 12) (Operand.tmp 13) 70, none⟩, []⟩,
  ⟨⟨some 15, Op.move (Operand.tmp 7), none⟩, []⟩,
  ⟨⟨some 16, Op.move (Operand.tmp 6), none⟩, []⟩,
  ⟨⟨some 17, Op.binOp BinOp.andNot 70 (Operand.tmp 15) (Operand.tmp 16) 70, none⟩, []⟩,
  ⟨⟨some 4, Op.assign (Operand.tmp 14), none⟩, []⟩,
  ⟨⟨some 5, Op.assign (Operand.tmp 17), none⟩, []⟩]) .ret)))
theorem sl49 : slim Try.f49.ntmps ords49 (Try.f49.body.getD .skip) = some cd49 := by kernel_rfl
theorem in49 {args : List Value} {H : AH} {R : Value → AH → Prop} (hl : args.length = 2) (h : ∀ (Q : Exit → Sl → AH → Prop), (∀ e s H, endA Try.prog [ResultVar.tmp 4, ResultVar.tmp 5] R e s H → Q e s H) → wpC Try.prog cd49 Q (enterA args) H) : ACalls Try.prog 49 args H R :=
  ACalls.intro (by kernel_rfl) Try.func49 rfl (by kernel_rfl) sl49 hl (of_decide_eq_true (by kernel_rfl)) (by kernel_rfl) h
end Go.Proofs.Ytjnefjchconebab.Ai
namespace Go.Proofs.Ytjnefjchconebab.Ai
open Go Go.RowKit
set_option linter.unusedVariables false
set_option linter.unusedSimpArgs false
/-- one without another -/
def anN (a b : Nat) : Nat := (BitVec.ofNat 64 a &&& ~~~ BitVec.ofNat 64 b).toNat
theorem anN_bit (a b z : Nat) (hz : z < 64) : (anN a b).testBit z = (a.testBit z && !b.testBit z) := by
  unfold anN
  rw [BitVec.testBit_toNat, BitVec.getLsbD_and, BitVec.getLsbD_not, BitVec.getLsbD_ofNat, BitVec.getLsbD_ofNat]
  simp [hz]
theorem anN_le (a b : Nat) : anN a b ≤ a := by
  unfold anN
  rw [BitVec.toNat_and]
  refine Nat.le_trans Nat.and_le_left ?_
  rw [BitVec.toNat_ofNat]
  exact Nat.mod_le _ _
theorem bin_andNot (P : Program) (t : TypeId) (a b : Nat) (ha : a < 2 ^ 64) : binA P .andNot t (.int .u64 (a : Int)) (.int .u64 (b : Int)) = some (.int .u64 ((anN a b : Nat) : Int)) := by
  have e : bitsA .andNot .u64 (a : Int) (b : Int) = ((anN a b : Nat) : Int) := by
    show IntKind.u64.wrap (((BitVec.ofInt 64 (a : Int) &&& ~~~ BitVec.ofInt 64 (b : Int)).toNat : Nat) : Int) = _
    rw [BitVec.ofInt_natCast, BitVec.ofInt_natCast]
    show IntKind.u64.wrap ((anN a b : Nat) : Int) = _
    have := anN_le a b
    rw [IntKind.wrap_u64]; omega
  simp only [binA, intA, e]
  simp
set_option maxHeartbeats 1000000 in
theorem bagOf_c (w : Value) (xs : List Int) (H : AH) (hr : Row 3 H w xs) (hlen : xs.length ≤ 1048576) (hx : ∀ x ∈ xs, 0 ≤ x ∧ x < 32) :
    ACalls Try.prog 72 [w] H fun r H' => ∃ b : Nat, r = .int .u64 (b : Int) ∧ BagI b xs ∧ H = H' := by
  refine in72 rfl ?_
  intro Q hQ
  simp (maxSteps := 1000000) (disch := omega) only [cd72, hr.len Try.underlying38, S, S1, S2, S3, S4, S5, ST, eq_self, reduceIte, reduceCtorEq, Nat.reduceEqDiff, Nat.reduceAdd]
  refine LoopH.by (fun m s H' => ∃ (i b : Nat), m + i = xs.length ∧ s 3 = .int .u64 (b : Int) ∧ s 6 = w ∧ s 7 = .int .i64 (xs.length : Int) ∧ s 8 = .int .i64 ((i : Nat) : Int) ∧ BagI b (xs.take i) ∧ H' = H) xs.length ?_ ?_
  · exact ⟨0, 0, by simp, rfl, rfl, rfl, rfl, by simpa using BagI.zero, rfl⟩
  rintro m s H' ⟨i, b, hm, h3, h6, h7, h8, hb, rfl⟩
  simp (maxSteps := 1000000) (disch := omega) only [h3, h6, h7, h8, S, S1, S2, S3, S4, S5, ST, eq_self, reduceIte, reduceCtorEq, Nat.reduceEqDiff, Nat.reduceAdd]
  refine brD.intro (fun g => ?_) (fun g => ?_)
  · have hi : i < xs.length := by omega
    have hxm : xs.getD i 0 ∈ xs := by simp [hi]
    have hxr := hx _ hxm
    obtain ⟨x, hxe⟩ : ∃ x : Nat, xs.getD i 0 = x := ⟨(xs.getD i 0).toNat, by omega⟩
    have hc := hr.cell hi
    rw [hxe] at hc
    have hb64 : b < 2 ^ 64 := Nat.lt_of_lt_of_le hb.1 (by decide)
    have hx64 : 2 ^ x < 2 ^ 64 := Nat.pow_lt_pow_right (by decide) (by omega)
    have k1 := bin_shl Try.prog 70 x (by omega)
    have k2 := bin_or Try.prog 70 b (2 ^ x) hb64 hx64
    have f1 : BagI (b ||| 2 ^ x) (xs.take (i + 1)) := by
      have e : xs.take (i + 1) = xs.take i ++ [(x : Int)] := by
        rw [List.take_add_one, List.getElem?_eq_getElem hi, ← hxe]
        simp [hi]
      rw [e]; exact hb.or (by omega)
    simp (maxSteps := 1000000) (disch := omega) only [h3, h6, h7, h8, hr.ix Try.underlying38 cs3, Int.toNat_natCast, hc, k1, k2, wrap64, S, S1, S2, S3, S4, S5, ST, eq_self, reduceIte, reduceCtorEq, Nat.reduceEqDiff, Nat.reduceAdd]
    refine ⟨m - 1, by omega, i + 1, b ||| 2 ^ x, ?_⟩
    (repeat' first | exact f1 | apply And.intro) <;> first | (simp only [Value.int.injEq, true_and]; omega) | omega | rfl | assumption | (simp; done) | (simp; omega)
  · simp (maxSteps := 1000000) (disch := omega) only [h3, S, S1, S2, S3, S4, S5, ST, eq_self, reduceIte, reduceCtorEq, Nat.reduceEqDiff, Nat.reduceAdd]
    refine hQ _ _ _ ?_
    simp (maxSteps := 1000000) (disch := omega) only [S, S1, S2, S3, S4, S5, ST, eq_self, reduceIte, reduceCtorEq, Nat.reduceEqDiff, Nat.reduceAdd]
    rw [List.take_of_length_le (by omega)] at hb
    exact ⟨b, rfl, hb⟩
theorem moves_c (v w : Value) (xs ys : List Int) (H : AH) (hr : Row 3 H v xs) (hs : Row 3 H w ys) (hlx : xs.length ≤ 1048576) (hly : ys.length ≤ 1048576) (hx : ∀ x ∈ xs, 0 ≤ x ∧ x < 32) (hy : ∀ x ∈ ys, 0 ≤ x ∧ x < 32) :
    ACalls Try.prog 49 [v, w] H fun r H' => ∃ a b : Nat, r = .tuple (List.toArray [.int .u64 (a : Int), .int .u64 (b : Int)]) ∧ BagI a (xs.filter fun x => !decide (x ∈ ys)) ∧ BagI b (ys.filter fun x => !decide (x ∈ xs)) ∧ H = H' := by
  refine in49 rfl ?_
  intro Q hQ
  simp (maxSteps := 1000000) (disch := omega) only [cd49, S, S1, S2, S3, S4, S5, ST, eq_self, reduceIte, reduceCtorEq, Nat.reduceEqDiff, Nat.reduceAdd]
  refine CallH.by (bagOf_c v xs H hr hlx hx) ?_
  rintro _ _ ⟨a, rfl, ha, rfl⟩
  simp (maxSteps := 1000000) (disch := omega) only [S, S1, S2, S3, S4, S5, ST, eq_self, reduceIte, reduceCtorEq, Nat.reduceEqDiff, Nat.reduceAdd]
  refine CallH.by (bagOf_c w ys H hs hly hy) ?_
  rintro _ _ ⟨b, rfl, hb, rfl⟩
  have ha64 : a < 2 ^ 64 := Nat.lt_of_lt_of_le ha.1 (by decide)
  have hb64 : b < 2 ^ 64 := Nat.lt_of_lt_of_le hb.1 (by decide)
  have k1 := bin_andNot Try.prog 70 a b ha64
  have k2 := bin_andNot Try.prog 70 b a hb64
  simp (maxSteps := 1000000) (disch := omega) only [k1, k2, S, S1, S2, S3, S4, S5, ST, eq_self, reduceIte, reduceCtorEq, Nat.reduceEqDiff, Nat.reduceAdd]
  refine hQ _ _ _ ?_
  simp (maxSteps := 1000000) (disch := omega) only [S, S1, S2, S3, S4, S5, ST, eq_self, reduceIte, reduceCtorEq, Nat.reduceEqDiff, Nat.reduceAdd]
  refine ⟨_, _, rfl, ⟨Nat.lt_of_le_of_lt (anN_le a b) ha.1, fun z hz => ?_⟩, ⟨Nat.lt_of_le_of_lt (anN_le b a) hb.1, fun z hz => ?_⟩⟩
  · rw [anN_bit a b z hz, ha.2 z hz, hb.2 z hz]
    by_cases h1 : (z : Int) ∈ xs <;> by_cases h2 : (z : Int) ∈ ys <;> simp [h1, h2]
  · rw [anN_bit b a z hz, ha.2 z hz, hb.2 z hz]
    by_cases h1 : (z : Int) ∈ xs <;> by_cases h2 : (z : Int) ∈ ys <;> simp [h1, h2]
end Go.Proofs.Ytjnefjchconebab.Ai
namespace Go.Proofs.Ytjnefjchconebab.Ai
open Go
def ords27 : List (Nat × List (Nat × Bool)) := []
def cd27 : Cd := (.seq (.reg [⟨⟨some 4, Op.assign (Operand.const (Value.bool false)), none⟩, []⟩]) (.seq (.reg [⟨⟨some 8, Op.move (Operand.tmp 0), none⟩, []⟩,
  ⟨⟨some 9, Op.move (Operand.tmp 1), none⟩, []⟩,
  ⟨⟨some 10, Op.call { callee := (Callee.value (Operand.func 49)), args := #[(Operand.tmp 8), (Operand.tmp 9)], argTypes := #[38, 38] }, none⟩, []⟩,
  ⟨⟨some 7, Op.move (Operand.tmp 10), none⟩, []⟩,
  ⟨⟨some 11, Op.extract (Operand.tmp 7) 0, none⟩, []⟩,
  ⟨⟨some 12, Op.extract (Operand.tmp 7) 1, none⟩, []⟩,
  ⟨⟨some 5, Op.assign (Operand.tmp 11), none⟩, []⟩,
  ⟨⟨some 6, Op.assign (Operand.tmp 12), none⟩, []⟩]) (.seq (.reg [⟨⟨some 13, Op.move (Operand.tmp 5), none⟩, []⟩,
  ⟨⟨some 14, Op.call { callee := (Callee.value (Operand.func 50)), args := #[(Operand.tmp 13)], argTypes := #[70] }, none⟩, []⟩,
  ⟨⟨some 15, Op.binOp BinOp.eql 3 (Operand.tmp 14) (Operand.const (Value.int IntKind.i64 1)) 3, none⟩, []⟩,
  ⟨⟨some 16, Op.move (Operand.tmp 15), none⟩, []⟩,
  ⟨⟨some 17, Op.move (Operand.tmp 6), some (16, true)⟩, []⟩,
  ⟨⟨some 18, Op.call { callee := (Callee.value (Operand.func 50)), args := #[(Operand.tmp 17)], argTypes := #[70] }, some (16, true)⟩, []⟩,
  ⟨⟨some 19, Op.binOp BinOp.eql 3 (Operand.tmp 18) (Operand.const (Value.int IntKind.i64 1)) 3, some (16, true)⟩, []⟩,
  ⟨⟨some 20, Op.pick (Operand.tmp 16) (Operand.tmp 19) (Operand.const (Value.bool false)), none⟩, []⟩,
  ⟨⟨some 4, Op.assign (Operand.tmp 20), none⟩, []⟩]) .ret)))
theorem sl27 : slim Try.f27.ntmps ords27 (Try.f27.body.getD .skip) = some cd27 := by kernel_rfl
theorem in27 {args : List Value} {H : AH} {R : Value → AH → Prop} (hl : args.length = 2) (h : ∀ (Q : Exit → Sl → AH → Prop), (∀ e s H, endA Try.prog [ResultVar.tmp 4] R e s H → Q e s H) → wpC Try.prog cd27 Q (enterA args) H) : ACalls Try.prog 27 args H R :=
  ACalls.intro (by kernel_rfl) Try.func27 rfl (by kernel_rfl) sl27 hl (of_decide_eq_true (by kernel_rfl)) (by kernel_rfl) h
end Go.Proofs.Ytjnefjchconebab.Ai
namespace Go.Proofs.Ytjnefjchconebab.Ai
open Go Go.RowKit
set_option linter.unusedVariables false
set_option linter.unusedSimpArgs false
/-- one edge of each is not in the other -/
def jmpB (x y : List Int) : Bool := decide ((x.filter fun e => !decide (e ∈ y)).length = 1) && decide ((y.filter fun e => !decide (e ∈ x)).length = 1)
end Go.Proofs.Ytjnefjchconebab.Ai
namespace Go.Proofs.Ytjnefjchconebab.Ai
open Go
set_option linter.unusedVariables false
theorem nbS_cons (e : Int × Int) (ps : List (Int × Int)) (hne : e.1 ≠ e.2) (h1 : 0 ≤ e.1) (h2 : 0 ≤ e.2) (x : Nat) : (nbS (e :: ps) (x : Int)).length = (nbS ps (x : Int)).length + if (decide (e.1.toNat = x ∨ e.2.toNat = x)) = true then 1 else 0 := by
  unfold nbS
  simp only [List.length_append, List.length_map, List.filter_cons]
  by_cases a : e.1 = (x : Int)
  · have b : ¬ e.2 = (x : Int) := fun q => hne (a.trans q.symm)
    have c : decide (e.1.toNat = x ∨ e.2.toNat = x) = true := decide_eq_true (.inl (by omega))
    rw [c, decide_eq_false b, decide_eq_true a]
    simp only [Bool.false_eq_true, if_false, if_true, List.length_cons]; omega
  · by_cases b : e.2 = (x : Int)
    · have c : decide (e.1.toNat = x ∨ e.2.toNat = x) = true := decide_eq_true (.inr (by omega))
      rw [c, decide_eq_true b, decide_eq_false a]
      simp only [Bool.false_eq_true, if_false, if_true, List.length_cons]; omega
    · have c : decide (e.1.toNat = x ∨ e.2.toNat = x) = false := decide_eq_false (by omega)
      rw [c, decide_eq_false b, decide_eq_false a]
      simp only [Bool.false_eq_true, if_false]; omega
theorem nbS_sum (n : Nat) : ∀ ps : List (Int × Int), (∀ e ∈ ps, 0 ≤ e.1 ∧ e.1 < e.2 ∧ e.2 < n) → sumL (fun x => (nbS ps (x : Int)).length) (List.range n) = 2 * ps.length
  | [], _ => by
    have := sumL_cnt (fun _ => false) (List.range n)
    have e : (fun x : Nat => (nbS [] (x : Int)).length) = fun v => if (fun _ : Nat => false) v = true then 1 else 0 := by funext v; rfl
    rw [e, this, List.countP_eq_zero.2 (by simp)]; rfl
  | e :: ps, h => by
    have he := h e (by simp)
    have ih := nbS_sum n ps fun f hf => h f (by simp [hf])
    have hf : (fun x : Nat => (nbS (e :: ps) (x : Int)).length) = fun x : Nat => (nbS ps (x : Int)).length + if (fun v => decide (e.1.toNat = v ∨ e.2.toNat = v)) x = true then 1 else 0 := by
      funext x
      exact nbS_cons e ps (by omega) he.1 (by omega) x
    rw [hf, sumL_add, ih, sumL_cnt, two_ends List.nodup_range (List.mem_range.2 (by omega)) (List.mem_range.2 (by omega)) (by omega), List.length_cons]
    omega
theorem sumL_le (f : Nat → Nat) (m : Nat) : ∀ V : List Nat, (∀ v ∈ V, f v ≤ m) → sumL f V ≤ m * V.length
  | [], _ => by simp [sumL]
  | v :: V, h => by
    have := sumL_le f m V fun x hx => h x (by simp [hx])
    have := h v (by simp)
    unfold sumL at *
    rw [List.map_cons, List.foldr_cons, List.length_cons, Nat.mul_succ]; omega
theorem steps_le {p : List Int → List Int → Bool} {ls : List (List Int)} {m : Nat} (h : ∀ x, x < ls.length → (nbS (steps p ls) (x : Int)).length ≤ m) : 2 * (steps p ls).length ≤ m * ls.length := by
  rw [← nbS_sum ls.length (steps p ls) (steps_ok p ls).rng]
  have := sumL_le (fun x => (nbS (steps p ls) (x : Int)).length) m (List.range ls.length) fun v hv => h v (List.mem_range.1 hv)
  rw [List.length_range] at this
  exact this
theorem grd_pwT {n : Int} {es : List (Int × Int)} (hg : Grd n es) : es.Pairwise pairLt := by
  rw [List.pairwise_iff_getElem]
  have at_ : ∀ i (h : i < es.length), es.getD i (0, 0) = es[i] := fun i h => by simp [h]
  have key : ∀ (k i : Nat), i + k + 1 < es.length → pairLt (es.getD i (0, 0)) (es.getD (i + k + 1) (0, 0)) := by
    intro k
    induction k with
    | zero =>
      intro i hi
      have := (hg.2 (i + 1) hi).2.2.2 (by omega)
      simpa using this
    | succ k ih =>
      intro i hi
      have h1 := ih i (by omega)
      have h2 := (hg.2 (i + (k + 1) + 1) hi).2.2.2 (by omega)
      have e : i + (k + 1) + 1 - 1 = i + k + 1 := by omega
      rw [e] at h2
      unfold pairLt at *
      omega
  intro i j hi hj hij
  have := key (j - i - 1) i (by omega)
  rw [show i + (j - i - 1) + 1 = j by omega, at_ i hi, at_ j hj] at this
  exact this
theorem en_inj {n : Int} {es : List (Int × Int)} (hg : Grd n es) {e f : Int} (he : 0 ≤ e ∧ e < es.length) (hf : 0 ≤ f ∧ f < es.length) (h1 : enA es e = enA es f) (h2 : enB es e = enB es f) : e = f := by
  have a := (en_eq hg he).1
  have b := (en_eq hg hf).1
  rw [h1, h2, ← b] at a
  have hp := List.pairwise_iff_getElem.1 (grd_pwT hg)
  have le : e.toNat < es.length := by omega
  have lf : f.toNat < es.length := by omega
  have ea : es.getD e.toNat (0, 0) = es[e.toNat] := by simp [le]
  have eb : es.getD f.toNat (0, 0) = es[f.toNat] := by simp [lf]
  rw [ea, eb] at a
  rcases Nat.lt_trichotomy e.toNat f.toNat with q | q | q
  · have := hp _ _ le lf q
    rw [a] at this
    unfold pairLt at this; omega
  · omega
  · have := hp _ _ lf le q
    rw [a] at this
    unfold pairLt at this; omega
theorem SG.of {n : Nat} {es : List (Int × Int)} (hg : Grd (n : Int) es) {A : List Int} (ha : A.Pairwise (· < ·)) (hA : EdIn es A) : SG es A (List.range n) := by
  refine ⟨ha, List.nodup_range, fun e he => ?_, fun e he f hf h1 h2 => en_inj hg (hA e he) (hA f hf) h1 h2⟩
  have := en_eq hg (hA e he)
  exact ⟨⟨List.mem_range.2 (by omega), List.mem_range.2 (by omega)⟩, this.2.1⟩
theorem LB.tre {n : Nat} (hn : 1 ≤ n) {es : List (Int × Int)} (hg : Grd (n : Int) es) {A : List Int} (hA : EdIn es A) {k : Nat} (h : LB es A (List.range n) k) : k ≤ (treA n es).length := by
  obtain ⟨L, l1, l2, l3⟩ := h
  refine Nat.le_trans l2 (nodup_leB L _ l1 fun T hT => (treA_iff hn hg T).2 ?_)
  have t := l3 T hT
  have hl := t.len
  rw [List.length_range] at hl
  exact ⟨hl, t.asc, fun e he => hA e (t.sub e he), fun x y hx hy => t.con x (List.mem_range.2 hx) y (List.mem_range.2 hy)⟩
theorem alls_asc (m : Nat) : (alls m).Pairwise (· < ·) := by
  unfold alls
  rw [List.pairwise_map]
  exact List.pairwise_lt_range.imp fun q => by omega
/-- a graph of seven or eight nodes with many edges has many trees -/
theorem many_trees {n : Nat} {es : List (Int × Int)} (hg : Grd (n : Int) es) (hb : (n = 8 ∧ 15 ≤ es.length) ∨ (n = 7 ∧ 17 ≤ es.length)) {T0 : List Int} (hT : T0 ∈ treA n es) : 301 ≤ (treA n es).length := by
  have hn : 1 ≤ n := by omega
  have t0 := (treA_iff hn hg T0).1 hT
  have hall : EdIn es (alls es.length) := fun e he => (alls_mem _ _).1 he
  rcases hb with ⟨rfl, hm⟩ | ⟨rfl, hm⟩
  · have hsp := flt_len (fun e : Int => decide (e ∈ T0)) (alls es.length)
    generalize hR : (alls es.length).filter (fun e => !decide (e ∈ T0)) = R at *
    have hRm : ∀ e, e ∈ R ↔ e ∈ alls es.length ∧ e ∉ T0 := fun e => by rw [← hR, List.mem_filter, Bool.not_eq_true', decide_eq_false_iff_not]
    have tn : T0.Nodup := t0.2.1.imp fun q e => by omega
    have an : (alls es.length).Nodup := (alls_asc _).imp fun q e => by omega
    have al : (alls es.length).length = es.length := by simp [alls]
    have hin : ((alls es.length).filter fun e => decide (e ∈ T0)).length ≤ T0.length := nodup_leB _ _ (an.sublist List.filter_sublist) fun e he => of_decide_eq_true (List.mem_filter.1 he).2
    have hTl := t0.1
    have hRl : 8 ≤ R.length := by omega
    have bn : (T0 ++ R.take 8).Nodup := by
      rw [List.nodup_append]
      refine ⟨tn, (an.sublist (by rw [← hR]; exact List.filter_sublist)).sublist (List.take_sublist _ _), fun a ha b hb e => ?_⟩
      subst e
      exact ((hRm a).1 (List.mem_of_mem_take hb)).2 ha
    have bl : (T0 ++ R.take 8).length = 15 := by rw [List.length_append, List.length_take]; omega
    have bsub : ∀ e ∈ T0 ++ R.take 8, e ∈ alls es.length := fun e he => by
      rcases List.mem_append.1 he with q | q
      · exact (alls_mem _ _).2 (t0.2.2.1 e q)
      · exact ((hRm e).1 (List.mem_of_mem_take q)).1
    generalize hB : T0 ++ R.take 8 = B at *
    have hTB : ∀ e ∈ T0, e ∈ B := fun e he => by rw [← hB]; exact List.mem_append_left _ he
    have Al : ((alls es.length).filter fun e => decide (e ∈ B)).length = 15 := by
      have h1 := nodup_leB ((alls es.length).filter fun e => decide (e ∈ B)) B (an.sublist List.filter_sublist) fun e he => of_decide_eq_true (List.mem_filter.1 he).2
      have h2 := nodup_leB B ((alls es.length).filter fun e => decide (e ∈ B)) bn fun e he => List.mem_filter.2 ⟨bsub e he, decide_eq_true he⟩
      omega
    have hAE : EdIn es ((alls es.length).filter fun e => decide (e ∈ B)) := fun e he => hall e (List.mem_filter.1 he).1
    refine LB.tre hn hg hAE (lb8 (SG.of hg ((alls_asc _).sublist List.filter_sublist) hAE) (by simp) Al fun x hx y hy => ?_)
    exact (t0.2.2.2 x y (List.mem_range.1 hx) (List.mem_range.1 hy)).mono fun e he => List.mem_filter.2 ⟨(alls_mem _ _).2 (t0.2.2.1 e he), decide_eq_true (hTB e he)⟩
  · have hAE : EdIn es ((alls es.length).take 17) := fun e he => hall e (List.mem_of_mem_take he)
    refine LB.tre hn hg hAE ((lb7 (SG.of hg ((alls_asc _).sublist (List.take_sublist _ _)) hAE) (by simp)).2.2.2 ?_)
    rw [List.length_take]
    have al : (alls es.length).length = es.length := by simp [alls]
    omega
def farOk : Bool := (List.range 9).all fun n => (List.range 29).all fun m => (decide (n = 8 ∧ 15 ≤ m) || decide (n = 7 ∧ 17 ≤ m)) || Nat.ble (farS n (m + 1 - n)) 40
theorem farOk_ok : farOk = true := by decide +kernel
/-- from a tree lead at most 40 exchanges, but in such graphs -/
theorem tre_deg {n : Nat} (hn : 1 ≤ n) {es : List (Int × Int)} (hg : Grd (n : Int) es) (h28 : es.length ≤ 28) (hb : ¬ ((n = 8 ∧ 15 ≤ es.length) ∨ (n = 7 ∧ 17 ≤ es.length))) {T : List Int} (hT : T ∈ treA n es) :
    (treA n es).countP (fun U => jmpB U T || jmpB T U) ≤ 40 := by
  have tL := (treA_iff hn hg T).1 hT
  have tr := tL.tree hg
  have hn8 : n ≤ 8 := by have := hg.1; omega
  let F : List Int := (alls es.length).filter fun e => !decide (e ∈ T)
  have hFm : ∀ e, e ∈ F ↔ e ∈ alls es.length ∧ e ∉ T := fun e => by
    show e ∈ (alls es.length).filter _ ↔ _
    rw [List.mem_filter, Bool.not_eq_true', decide_eq_false_iff_not]
  have an : (alls es.length).Nodup := (alls_asc _).imp fun q e => by omega
  have al : (alls es.length).length = es.length := by simp [alls]
  have hFl : F.length = es.length + 1 - n := by
    have hsp := flt_len (fun e : Int => decide (e ∈ T)) (alls es.length)
    have h1 := nodup_leB ((alls es.length).filter fun e => decide (e ∈ T)) T (an.sublist List.filter_sublist) fun e he => of_decide_eq_true (List.mem_filter.1 he).2
    have h2 := nodup_leB T ((alls es.length).filter fun e => decide (e ∈ T)) tr.nd fun e he => List.mem_filter.2 ⟨(alls_mem _ _).2 (tL.2.2.1 e he), decide_eq_true he⟩
    have := tL.1
    show ((alls es.length).filter fun e => !decide (e ∈ T)).length = _
    omega
  have hfs := far_sum tr (by omega) hn8 (F := F) (an.sublist List.filter_sublist) (fun f hf => by
      have := en_eq hg ((alls_mem _ _).1 ((hFm f).1 hf).1)
      omega) (fun f hf g hgF h1 h2 => en_inj hg ((alls_mem _ _).1 ((hFm f).1 hf).1) ((alls_mem _ _).1 ((hFm g).1 hgF).1) h1 h2)
  have hok := farOk_ok
  unfold farOk at hok
  rw [List.all_eq_true] at hok
  have hok := hok n (List.mem_range.2 (by omega))
  rw [List.all_eq_true] at hok
  have hok := hok es.length (List.mem_range.2 (by omega))
  rw [Bool.or_eq_true, Bool.or_eq_true, decide_eq_true_eq, decide_eq_true_eq] at hok
  have h40 := Nat.le_of_ble_eq_true (hok.resolve_left hb)
  rw [hFl] at hfs
  refine Nat.le_trans ?_ (Nat.le_trans hfs h40)
  -- an exchange is told by what comes and what goes
  let prs : List (Int × Int) := F.flatMap fun f => (T.filter fun e => pdc (¬ Jn es (wo1 T e) (enA es f) (enB es f))).map fun e => (f, e)
  have hpl : prs.length = (F.map fun f => sepC es T (enA es f) (enB es f)).foldr (· + ·) 0 := by
    show (F.flatMap _).length = _
    generalize F = G
    induction G with
    | nil => rfl
    | cons f G ih =>
      rw [List.flatMap_cons, List.length_append, List.length_map, List.map_cons, List.foldr_cons, ih]
      unfold sepC
      rw [List.countP_eq_length_filter]
  rw [← hpl, List.countP_eq_length_filter]
  let g : List Int → Int × Int := fun U => ((U.filter fun e => !decide (e ∈ T)).getD 0 0, (T.filter fun e => !decide (e ∈ U)).getD 0 0)
  have one : ∀ {l : List Int}, l.length = 1 → l = [l.getD 0 0] := fun {l} h => by
    match l, h with
    | [a], _ => rfl
  have jb : ∀ U, (jmpB U T || jmpB T U) = true → (U.filter fun e => !decide (e ∈ T)).length = 1 ∧ (T.filter fun e => !decide (e ∈ U)).length = 1 := by
    intro U h
    unfold jmpB at h
    rw [Bool.or_eq_true, Bool.and_eq_true, Bool.and_eq_true] at h
    simp only [decide_eq_true_eq] at h
    omega
  have mem1 : ∀ U, (jmpB U T || jmpB T U) = true → ∀ x, (x ∈ U ∧ x ∉ T ↔ x = (g U).1) ∧ (x ∈ T ∧ x ∉ U ↔ x = (g U).2) := by
    intro U h x
    obtain ⟨h1, h2⟩ := jb U h
    have a : x ∈ (U.filter fun e => !decide (e ∈ T)) ↔ x ∈ [(g U).1] := by rw [← one h1]
    have b : x ∈ (T.filter fun e => !decide (e ∈ U)) ↔ x ∈ [(g U).2] := by rw [← one h2]
    rw [List.mem_filter, Bool.not_eq_true', decide_eq_false_iff_not, List.mem_singleton] at a b
    exact ⟨a, b⟩
  have := nodup_leB (((treA n es).filter fun U => jmpB U T || jmpB T U).map g) prs ?_ ?_
  · rw [List.length_map] at this; exact this
  · rw [List.Nodup, List.pairwise_map]
    have hnd : (treA n es).Pairwise (· ≠ ·) := (treA_pw hn hg).imp fun q e => by rw [e, cmpL_self] at q; omega
    refine List.Pairwise.imp_of_mem ?_ (hnd.sublist List.filter_sublist)
    intro U W hU hW hne heq
    obtain ⟨u1, u2⟩ := List.mem_filter.1 hU
    obtain ⟨w1, w2⟩ := List.mem_filter.1 hW
    have uL := (treA_iff hn hg U).1 u1
    have wL := (treA_iff hn hg W).1 w1
    refine hne (asc_ext uL.2.1 wL.2.1 fun x => ?_)
    have mu := mem1 U u2 x
    have mw := mem1 W w2 x
    rw [heq] at mu
    by_cases hx : x ∈ T
    · have k1 : x ∈ U ↔ ¬ x = (g W).2 := ⟨fun q r => (mu.2.2 r).2 q, fun q => Classical.byContradiction fun r => q (mu.2.1 ⟨hx, r⟩)⟩
      have k2 : x ∈ W ↔ ¬ x = (g W).2 := ⟨fun q r => (mw.2.2 r).2 q, fun q => Classical.byContradiction fun r => q (mw.2.1 ⟨hx, r⟩)⟩
      rw [k1, k2]
    · have k1 : x ∈ U ↔ x = (g W).1 := ⟨fun q => mu.1.1 ⟨q, hx⟩, fun q => (mu.1.2 q).1⟩
      have k2 : x ∈ W ↔ x = (g W).1 := ⟨fun q => mw.1.1 ⟨q, hx⟩, fun q => (mw.1.2 q).1⟩
      rw [k1, k2]
  · intro p hp
    obtain ⟨U, hU, rfl⟩ := List.mem_map.1 hp
    obtain ⟨u1, u2⟩ := List.mem_filter.1 hU
    have uL := (treA_iff hn hg U).1 u1
    have m1 := (mem1 U u2 (g U).1).1.2 rfl
    have m2 := (mem1 U u2 (g U).2).2.2 rfl
    show g U ∈ F.flatMap _
    rw [List.mem_flatMap]
    refine ⟨(g U).1, (hFm _).2 ⟨(alls_mem _ _).2 (uL.2.2.1 _ m1.1), m1.2⟩, ?_⟩
    rw [List.mem_map]
    refine ⟨(g U).2, List.mem_filter.2 ⟨m2.1, pdc_iff.2 ?_⟩, rfl⟩
    refine Classical.byContradiction fun hc => ?_
    refine tr.noswap (U := U) m2.1 (f := (g U).1) (fun w => hc w.2) (fun x hx => ?_) uL.2.2.2
    by_cases hxT : x ∈ T
    · refine .inl (wo1_mem.2 ⟨hxT, fun e => ?_⟩)
      rw [e] at hx
      exact m2.2 hx
    · exact .inr ((mem1 U u2 x).1.1 ⟨hx, hxT⟩)
theorem tre_steps {n : Nat} (hn : 1 ≤ n) {es : List (Int × Int)} (hg : Grd (n : Int) es) (h28 : es.length ≤ 28) (h300 : (treA n es).length ≤ 300) : (steps jmpB (treA n es)).length ≤ 6000 := by
  by_cases hb : (n = 8 ∧ 15 ≤ es.length) ∨ (n = 7 ∧ 17 ≤ es.length)
  · have hnil : treA n es = [] := List.eq_nil_iff_forall_not_mem.2 fun T hT => by have := many_trees hg hb hT; omega
    rw [hnil]; exact Nat.zero_le _
  · have := steps_le (p := jmpB) (ls := treA n es) (m := 40) fun x hx => by
      refine Nat.le_trans (nbS_cnt jmpB (treA n es) x) ?_
      exact tre_deg hn hg h28 hb (by simp [hx])
    omega
end Go.Proofs.Ytjnefjchconebab.Ai
namespace Go.Proofs.Ytjnefjchconebab.Ai
open Go
def ords61 : List (Nat × List (Nat × Bool)) := []
def cd61 : Cd := (.seq (.reg [⟨⟨some 2, Op.assign (Operand.const (Value.slice none 0 0)), none⟩, []⟩]) (.seq (.seq (.reg [⟨⟨some 3, Op.move (Operand.tmp 0), none⟩, []⟩,
  ⟨⟨some 4, Op.binOp BinOp.eql 38 (Operand.tmp 3) (Operand.const (Value.slice none 0 0)) 38, none⟩, []⟩]) (.cond (Operand.tmp 4) (.seq (.reg [⟨⟨some 2, Op.assign (Operand.const (Value.slice none 0 0)), none⟩, []⟩]) .ret) .skip)) (.seq (.reg [⟨⟨some 5, Op.buildSlice 38 0 #[], none⟩, []⟩,
  ⟨⟨some 6, Op.move (Operand.tmp 0), none⟩, []⟩,
  ⟨⟨some 7, Op.call { callee := (Callee.builtin Builtin.append), args := #[(Operand.tmp 5), (Operand.tmp 6)], argTypes := #[38, 38] }, none⟩, []⟩,
  ⟨⟨some 2, Op.assign (Operand.tmp 7), none⟩, []⟩]) .ret)))
theorem sl61 : slim Try.f61.ntmps ords61 (Try.f61.body.getD .skip) = some cd61 := by kernel_rfl
theorem in61 {args : List Value} {H : AH} {R : Value → AH → Prop} (hl : args.length = 1) (h : ∀ (Q : Exit → Sl → AH → Prop), (∀ e s H, endA Try.prog [ResultVar.tmp 2] R e s H → Q e s H) → wpC Try.prog cd61 Q (enterA args) H) : ACalls Try.prog 61 args H R :=
  ACalls.intro (by kernel_rfl) Try.func61 rfl (by kernel_rfl) sl61 hl (of_decide_eq_true (by kernel_rfl)) (by kernel_rfl) h
end Go.Proofs.Ytjnefjchconebab.Ai
namespace Go.Proofs.Ytjnefjchconebab.Ai
open Go Go.RowKit
set_option linter.unusedVariables false
set_option linter.unusedSimpArgs false
set_option maxRecDepth 20000 in
theorem Clone_c (v : Value) (xs : List Int) (H : AH) (hr : Row 3 H v xs) (hlen : xs.length ≤ 1099511627776) : ACalls Try.prog 61 [v] H fun r H' => Own 3 H H' r xs ∧ H <+: H' := by
  refine in61 rfl ?_
  intro Q hQ
  obtain ⟨p, e⟩ := hr.shape
  subst e
  simp (maxSteps := 1000000) (disch := omega) only [cd61, S, S1, S2, S3, S4, S5, ST, eq_self, reduceIte, reduceCtorEq, Nat.reduceEqDiff, Nat.reduceAdd]
  refine brH.intro (fun g => ?_) (fun g => ?_) <;> simp (maxSteps := 1000000) (disch := omega) only [S, S1, S2, S3, S4, S5, ST, eq_self, reduceIte, reduceCtorEq, Nat.reduceEqDiff, Nat.reduceAdd]
  · refine hQ _ _ _ ?_
    simp (maxSteps := 1000000) (disch := omega) only [S, S1, S2, S3, S4, S5, ST, eq_self, reduceIte, reduceCtorEq, Nat.reduceEqDiff, Nat.reduceAdd]
    have : xs = [] := by
      rcases hr with h | ⟨o, k, vs, ro, h1, _⟩
      · exact h.2
      · cases p with
        | none => cases h1
        | some p => cases g
    exact ⟨.inl ⟨rfl, this⟩, List.prefix_refl _⟩
  · have hp := List.prefix_append H [AObj.cells [] 3 false]
    have ho : Own 3 H (H ++ [AObj.cells [] 3 false]) (.slice (some ⟨H.length, 0, none⟩) 0 0) [] := .inr ⟨H.length, rfl, Nat.le_refl _, at_new ..⟩
    obtain ⟨v', H2, k1, k2, k3, _⟩ := ho.app (P := Try.prog) (t := 38) Try.underlying38 cs3 (by rw [by3]; decide) zk3 (hr.pre hp) hp (by simp; omega)
    simp (maxSteps := 1000000) (disch := omega) only [k1, S, S1, S2, S3, S4, S5, ST, eq_self, reduceIte, reduceCtorEq, Nat.reduceEqDiff, Nat.reduceAdd]
    refine hQ _ _ _ ?_
    simp (maxSteps := 1000000) (disch := omega) only [k2.row.tup, S, S1, S2, S3, S4, S5, ST, eq_self, reduceIte, reduceCtorEq, Nat.reduceEqDiff, Nat.reduceAdd]
    exact ⟨k2, k3⟩
end Go.Proofs.Ytjnefjchconebab.Ai
namespace Go.Proofs.Ytjnefjchconebab.Ai
open Go Go.RowKit
set_option linter.unusedVariables false
set_option linter.unusedSimpArgs false
/-- the list so far in the variable pe, and what stays (fx) -/
structure LSt (HB : AH) (fx : List (Nat × AObj)) (pe : Nat) (F : Nat → Prop) (H : AH) (ed : List Int) : Prop where
  fix : ∀ q ∈ fx, H[q.1]? = some q.2 ∧ ¬ F q.1 ∧ q.1 ≠ pe
  e : ∃ oe zs, H[pe]? = some (.cells [.slice (some ⟨oe, 0, none⟩) ed.length ed.length] 38 false) ∧ H[oe]? = some (.cells (ints zs) 3 false) ∧ zs.take ed.length = ed ∧ ¬ F oe ∧ oe ≠ pe ∧ (∀ q ∈ fx, q.1 ≠ oe) ∧ HB.length ≤ oe
  out : ¬ F pe
  lo : HB.length ≤ pe
  pre : HB <+: H
section
variable {HB : AH} {fx : List (Nat × AObj)} {pe : Nat} {F F' : Nat → Prop} {H H' : AH} {ed : List Int}
/-- what changes other objects leaves all this -/
theorem LSt.cb (h : LSt HB fx pe F H ed) (hlive : ∀ o, F o → HB.length ≤ o) (hF : ∀ o, F' o → F o ∨ H.length ≤ o) (hk : ∀ o y, ¬ F o → H[o]? = some y → H'[o]? = some y) : LSt HB fx pe F' H' ed := by
  obtain ⟨oe, zs, e1, e2, e3, e4, e5⟩ := h.e
  have no : ∀ {o x}, ¬ F o → H[o]? = some x → ¬ F' o := fun ho hx hf => by
    rcases hF _ hf with g | g
    · exact ho g
    · have := at_lt hx; omega
  refine ⟨fun q hq => ?_, ⟨oe, zs, hk _ _ h.out e1, hk _ _ e4 e2, e3, no e4 e2, e5⟩, no h.out e1, h.lo, ?_⟩
  · obtain ⟨q1, q2, q3⟩ := h.fix q hq
    exact ⟨hk _ _ q2 q1, no q2 q1, q3⟩
  · exact prefix_of fun o x hx => hk o x (fun hf => by have := hlive o hf; have := at_lt hx; omega) (pre_at h.pre hx)
theorem LSt.row (h : LSt HB fx pe F H ed) : ∃ w, cellA H pe 0 = some w ∧ Row 3 H w ed ∧ ¬ F (rowO w) ∧ isTup w = false := by
  obtain ⟨oe, zs, e1, e2, e3, e4, e5⟩ := h.e
  refine ⟨_, cell_of e1 0, ?_, e4, rfl⟩
  have hzl : ed.length ≤ zs.length := by
    have := congrArg List.length e3
    rw [List.length_take] at this; omega
  refine .inr ⟨oe, 0, ints zs, false, rfl, e2, by rw [ints_len]; omega, ?_⟩
  rw [List.drop_zero]
  have : (ints zs).take ed.length = ints (zs.take ed.length) := by simp [ints, List.map_take]
  rw [this, e3]
/-- one more -/
theorem LSt.push (h : LSt HB fx pe F H ed) (hlive : ∀ o, F o → o < H.length) (hb : ed.length ≤ 1048576) (x : Int) :
    ∃ w H2 H3, cellA H pe 0 = some (.slice (some w) ed.length ed.length) ∧ appendA Try.prog 38 38 (.slice (some w) ed.length ed.length) (.slice (some ⟨H.length, 0, none⟩) 1 1) (H ++ [.cells [.int .i64 x] 3 false]) = some (.slice (some ⟨H.length + 1, 0, none⟩) (ed.length + 1) (ed.length + 1), H2) ∧
      storeA Try.prog 38 (.pointer (some ⟨pe, 0, none⟩)) (.slice (some ⟨H.length + 1, 0, none⟩) (ed.length + 1) (ed.length + 1)) H2 = some H3 ∧ LSt HB fx pe F H3 (ed ++ [x]) ∧ (∀ o y, F o → H[o]? = some y → H3[o]? = some y) ∧ H.length ≤ H3.length ∧
      ∀ o y, o ≠ pe → (∀ w', cellA H pe 0 = some w' → o ≠ rowO w') → H[o]? = some y → H3[o]? = some y := by
  obtain ⟨oe, zs, e1, e2, e3, e4, e8, e5, e9⟩ := h.e
  have hzl : ed.length ≤ zs.length := by
    have := congrArg List.length e3
    rw [List.length_take] at this; omega
  have k1 := app_q (P := Try.prog) (t := 38) (k := 0) (n := ed.length) (c := ed.length) (x := x) Try.underlying38 cs3 (by rw [by3]; decide) zk3 e2 (by omega) (by omega)
  rw [List.drop_zero, e3] at k1
  have at_ : ∀ {o y}, o ≠ oe → H[o]? = some y → (H.set oe .dead ++ [AObj.cells [.int .i64 x] 3 false, .cells (ints (ed ++ [x])) 3 false])[o]? = some y := by
    intro o y ho hy
    rw [List.getElem?_append_left (by simpa using at_lt hy), List.getElem?_set_ne (fun e => ho e.symm)]
    exact hy
  have a1 := at_ (fun e => e8 e.symm) e1
  have hst := st_at (P := Try.prog) (t := 38) (i := 0) (y := .slice (some ⟨H.length + 1, 0, none⟩) (ed.length + 1) (ed.length + 1)) cs38 a1 (by show 0 < 1; decide) rfl rfl
  have l1 := at_lt e1
  have l2 := at_lt e2
  have aw : ∀ {o y}, o ≠ oe → o ≠ pe → H[o]? = some y → ((H.set oe .dead ++ [AObj.cells [.int .i64 x] 3 false, .cells (ints (ed ++ [x])) 3 false]).set pe (.cells ([Value.slice (some ⟨oe, 0, none⟩) ed.length ed.length].set 0 (.slice (some ⟨H.length + 1, 0, none⟩) (ed.length + 1) (ed.length + 1))) 38 false))[o]? = some y := by
    intro o y ho1 ho2 hy
    rw [List.getElem?_set_ne (fun e => ho2 e.symm)]
    exact at_ ho1 hy
  have lo := h.lo
  refine ⟨_, _, _, cell_of e1 0, k1, hst, ⟨fun q hq => ?_, ⟨H.length + 1, ed ++ [x], ?_, ?_, ?_, ?_, by omega, fun q hq => ?_, by have := h.pre.length_le; omega⟩, h.out, h.lo, ?_⟩, ?_, by simp, ?_⟩
  · obtain ⟨q1, q2, q3⟩ := h.fix q hq
    exact ⟨aw (e5 q hq) q3 q1, q2, q3⟩
  · rw [List.getElem?_set_self (by simp; omega)]
    simp
  · rw [List.getElem?_set_ne (by omega), List.getElem?_append_right (by simp)]
    simp
  · rw [List.take_of_length_le (Nat.le_refl _)]
  · intro hf; have := hlive _ hf; omega
  · have := at_lt (h.fix q hq).1; omega
  · exact prefix_of fun o y hy => aw (by have := at_lt hy; omega) (by have := at_lt hy; omega) (pre_at h.pre hy)
  · intro o y hf hy
    exact aw (fun e => e4 (e ▸ hf)) (fun e => h.out (e ▸ hf)) hy
  · intro o y ho1 ho2 hy
    exact aw (ho2 _ (cell_of e1 0)) ho1 hy
/-- the last one away -/
theorem LSt.pop {x : Int} (h : LSt HB fx pe F H (ed ++ [x])) :
    ∃ w c, cellA H pe 0 = some (.slice (some w) (ed.length + 1) c) ∧ sliceA Try.prog 38 (.slice (some w) (ed.length + 1) c) none (some (.int .i64 (ed.length : Int))) none H = some (.slice (some w) ed.length ed.length) ∧
      ∃ H3, storeA Try.prog 38 (.pointer (some ⟨pe, 0, none⟩)) (.slice (some w) ed.length ed.length) H = some H3 ∧ LSt HB fx pe F H3 ed ∧ (∀ o y, F o → H[o]? = some y → H3[o]? = some y) ∧ H3.length = H.length := by
  obtain ⟨oe, zs, e1, e2, e3, e4, e8, e5, e9⟩ := h.e
  have hl : (ed ++ [x]).length = ed.length + 1 := by simp
  rw [hl] at e1 e3
  have hz : zs.take ed.length = ed := by
    have := congrArg (List.take ed.length) e3
    rw [List.take_take, Nat.min_eq_left (by omega)] at this
    simpa using this
  have hsl := sl_own (P := Try.prog) (t := 38) (k := 0) (n := ed.length + 1) (c := ed.length + 1) Try.underlying38 cs3 e2 lo_none (bound_some (k := .i64) (i := (ed.length : Int)) (by omega) (ed.length + 1)) (Nat.zero_le _) (by omega)
  simp only [Int.toNat_natCast, Nat.add_zero, Nat.sub_zero] at hsl
  have hst := st_at (P := Try.prog) (t := 38) (i := 0) (y := .slice (some ⟨oe, 0, none⟩) ed.length ed.length) cs38 e1 (by show 0 < 1; decide) rfl rfl
  have aw : ∀ {o y}, o ≠ pe → H[o]? = some y → (H.set pe (.cells ([Value.slice (some ⟨oe, 0, none⟩) (ed.length + 1) (ed.length + 1)].set 0 (.slice (some ⟨oe, 0, none⟩) ed.length ed.length)) 38 false))[o]? = some y := by
    intro o y ho hy
    rw [List.getElem?_set_ne (fun e => ho e.symm)]; exact hy
  have lo := h.lo
  refine ⟨_, _, cell_of e1 0, hsl, _, hst, ⟨fun q hq => ?_, ⟨oe, zs, ?_, aw e8 e2, hz, e4, e8, e5, e9⟩, h.out, h.lo, ?_⟩, fun o y hf hy => aw (fun e => h.out (e ▸ hf)) hy, by simp⟩
  · obtain ⟨q1, q2, q3⟩ := h.fix q hq
    exact ⟨aw q3 q1, q2, q3⟩
  · rw [List.getElem?_set_self (at_lt e1)]; rfl
  · exact prefix_of fun o y hy => aw (by have := at_lt hy; omega) (pre_at h.pre hy)
end
/-- the objects of a list of lists -/
def Obs (o : Nat) (us : List Value) (ls : List (List Int)) (j : Nat) : Prop := j = o ∨ ∃ i, i < ls.length ∧ us.getD i undef ≠ .slice none 0 0 ∧ j = rowO (us.getD i undef)
theorem InU.refit2 {lo hi : Nat} {e2 e : TypeId} {H H' : AH} {o : Nat} {us : List Value} {ls : List (List Int)} (h : InU lo hi e2 e H o us ls) (hk : ∀ j y, Obs o us ls j → H[j]? = some y → H'[j]? = some y) : InU lo H'.length e2 e H' o us ls := by
  obtain ⟨h1, h2, h3, h4, h5, h6⟩ := h
  have k3 := hk _ _ (.inl rfl) h3
  refine ⟨h1, at_lt k3, k3, h4, fun i hi => ⟨?_, (h5 i hi).2⟩, h6⟩
  rcases (h5 i hi).1 with g | ⟨oo, zs, g1, g2, g3, g4, g5⟩
  · exact .inl g
  · have := hk oo _ (.inr ⟨i, hi, (by rw [g1]; intro e; cases e), (by rw [g1]; rfl)⟩) g4
    exact .inr ⟨oo, zs, g1, g2, at_lt this, this, g5⟩
theorem InU.obs {lo hi : Nat} {e2 e : TypeId} {H : AH} {o : Nat} {us : List Value} {ls : List (List Int)} (h : InU lo hi e2 e H o us ls) {j : Nat} (hj : Obs o us ls j) : lo ≤ j ∧ j < hi := by
  obtain ⟨h1, h2, h3, h4, h5, h6⟩ := h
  rcases hj with rfl | ⟨i, hi, hn, rfl⟩
  · exact ⟨h1, h2⟩
  · rcases (h5 i hi).1.at_ with g | g
    · exact absurd g hn
    · exact g
theorem getD_snoc {us : List Value} {n i : Nat} {c : Value} (hn : n ≤ us.length) : (us.take n ++ [c]).getD i undef = if i < n then us.getD i undef else if i = n then c else undef := by
  rw [List.getD_eq_getElem?_getD, List.getElem?_append]
  have hl : (us.take n).length = n := by simp; omega
  rw [hl]
  split
  · rw [List.getElem?_take, if_pos (by assumption), List.getD_eq_getElem?_getD]
  · split
    · rename_i h; subst h; simp
    · rw [List.getElem?_eq_none (by simp; omega)]; rfl
/-- the lists found so far, in the variable po -/
def IOut (HB : AH) (po : Nat) (out : List (List Int)) (F : Nat → Prop) (H : AH) : Prop :=
  ∃ o us, H[po]? = some (.cells [.slice (some ⟨o, 0, none⟩) out.length out.length] 26 false) ∧ InU HB.length H.length 38 3 H o us out ∧ HB.length ≤ po ∧ ¬ Obs o us out po ∧ F = fun j => j = po ∨ Obs o us out j
theorem IOut.live {HB H : AH} {po : Nat} {out : List (List Int)} {F : Nat → Prop} (h : IOut HB po out F H) {o : Nat} (ho : F o) : o < H.length ∧ HB.length ≤ o := by
  obtain ⟨oo, us, h1, h2, h3, h4, rfl⟩ := h
  have ho' : o = po ∨ Obs oo us out o := ho
  rcases ho' with rfl | hj
  · exact ⟨at_lt h1, h3⟩
  · have := h2.obs hj
    exact ⟨this.2, this.1⟩
theorem IOut.keep {HB H H' : AH} {po : Nat} {out : List (List Int)} {F : Nat → Prop} (h : IOut HB po out F H) (hk : ∀ o y, F o → H[o]? = some y → H'[o]? = some y) : IOut HB po out F H' := by
  obtain ⟨oo, us, h1, h2, h3, h4, rfl⟩ := h
  exact ⟨oo, us, hk _ _ (.inl rfl) h1, h2.refit2 fun j y hj hy => hk _ _ (.inr hj) hy, h3, h4, rfl⟩
/-- one more list, a copy -/
theorem IOut.push {HB H C : AH} {po : Nat} {out : List (List Int)} {F : Nat → Prop} (h : IOut HB po out F H) (hp : HB <+: H) {c : Value} {xs : List Int} (pC : H <+: C) (hc : Own 3 H C c xs) (hb : out.length ≤ 1000000000) :
    ∃ w H3 H4, cellA H po 0 = some (.slice (some w) out.length out.length) ∧ cellA C po 0 = some (.slice (some w) out.length out.length) ∧ buildSliceA Try.prog 26 1 [(0, c)] C = some (.slice (some ⟨C.length, 0, none⟩) 1 1, C ++ [.cells [c] 38 false]) ∧
      appendA Try.prog 26 26 (.slice (some w) out.length out.length) (.slice (some ⟨C.length, 0, none⟩) 1 1) (C ++ [.cells [c] 38 false]) = some (.slice (some ⟨C.length + 1, 0, none⟩) (out.length + 1) (out.length + 1), H3) ∧
      storeA Try.prog 26 (.pointer (some ⟨po, 0, none⟩)) (.slice (some ⟨C.length + 1, 0, none⟩) (out.length + 1) (out.length + 1)) H3 = some H4 ∧
      ∃ F', IOut HB po (out ++ [xs]) F' H4 ∧ (∀ o, F' o → F o ∨ H.length ≤ o) ∧ ∀ o y, ¬ F o → H[o]? = some y → H4[o]? = some y := by
  obtain ⟨o, us, h2, h3, h4, h7, rfl⟩ := h
  have c2 := pre_at pC h2
  have hinw := InI.of hc.mine
  obtain ⟨H3, k1, k2, k3, k4⟩ := (h3.pre pC).app1 (P := Try.prog) (t2 := 26) Try.underlying26 cs38 (by rw [by38]; decide) zk38 hinw hp.length_le pC.length_le (Nat.le_refl _) (by omega)
  have hbs : buildSliceA Try.prog 26 1 [(0, c)] C = some (.slice (some ⟨C.length, 0, none⟩) 1 1, C ++ [.cells [c] 38 false]) := by
    obtain ⟨q, eq⟩ := hc.row.shape
    rw [eq]
    exact bs1 Try.underlying26 cs38 ze38 ⟨by kernel_rfl, by kernel_rfl⟩ C rfl
  have lC := pC.length_le
  have l2 := at_lt h2
  have d2 := k4 po _ (fun e => h7 (.inl e)) c2
  have hst := st_at (P := Try.prog) (t := 26) (i := 0) (y := .slice (some ⟨C.length + 1, 0, none⟩) (out.length + 1) (out.length + 1)) cs26 d2 (by show 0 < 1; decide) rfl rfl
  have e2 : (H3.set po (.cells ([Value.slice (some ⟨o, 0, none⟩) out.length out.length].set 0 (.slice (some ⟨C.length + 1, 0, none⟩) (out.length + 1) (out.length + 1))) 26 false))[po]? = some (.cells [.slice (some ⟨C.length + 1, 0, none⟩) (out.length + 1) (out.length + 1)] 26 false) := by
    rw [List.getElem?_set_self (by omega)]; rfl
  have hal : (out ++ [xs]).length = out.length + 1 := by simp
  have hcO : c = .slice none 0 0 ∨ H.length ≤ rowO c := by
    rcases hc with ⟨q, _⟩ | ⟨oc, q, hoc, _⟩
    · exact .inl q
    · exact .inr (by rw [q]; exact hoc)
  have hul := h3.2.2.2.1
  have aw2 : Away po (C.length + 1) (us.take out.length ++ [c]) (out ++ [xs]) := by
    refine ⟨by omega, fun i hi => ?_⟩
    rw [hal] at hi
    rw [getD_snoc hul]
    split
    · rename_i hi2
      by_cases hn : us.getD i undef = .slice none 0 0
      · exact .inl hn
      · exact .inr fun e => h7 (.inr ⟨i, hi2, hn, e.symm⟩)
    · rw [if_pos (by omega)]
      exact hcO.imp id fun q => by omega
  have k2' := (k2.wide (Nat.le_refl _) (Nat.le_of_eq k3.symm) : InU HB.length H3.length 38 3 H3 _ _ _)
  refine ⟨_, H3, _, cell_of h2 0, cell_of c2 0, hbs, k1, hst, fun j => j = po ∨ Obs (C.length + 1) (us.take out.length ++ [c]) (out ++ [xs]) j, ⟨C.length + 1, us.take out.length ++ [c], by rw [hal]; exact e2, ?_, h4, ?_, rfl⟩, ?_, ?_⟩
  · have := k2'.moveq aw2 (H' := H3.set po (.cells ([Value.slice (some ⟨o, 0, none⟩) out.length out.length].set 0 (.slice (some ⟨C.length + 1, 0, none⟩) (out.length + 1) (out.length + 1))) 26 false)) (fun j y hj hy => by rw [List.getElem?_set_ne (fun e => hj e.symm)]; exact hy)
    simpa using this
  · rintro (e | ⟨i, hi, hn, e⟩)
    · omega
    · rcases aw2.2 i hi with q | q
      · exact hn q
      · exact q e.symm
  · rintro j (e | e | ⟨i, hi, hn, e⟩)
    · exact .inl (.inl e)
    · exact .inr (by omega)
    · rw [getD_snoc hul] at hn e
      rw [hal] at hi
      by_cases hi2 : i < out.length
      · rw [if_pos hi2] at hn e
        exact .inl (.inr (.inr ⟨i, hi2, hn, e⟩))
      · rw [if_neg hi2, if_pos (by omega)] at hn e
        rcases hcO with q | q
        · exact absurd q hn
        · exact .inr (by omega)
  · intro j y hj hy
    rw [List.getElem?_set_ne (fun e => hj (.inl e.symm))]
    exact k4 j y (fun e => hj (.inr (.inl e))) (pre_at pC hy)
end Go.Proofs.Ytjnefjchconebab.Ai
namespace Go.Proofs.Ytjnefjchconebab.Ai
open Go Go.RowKit
set_option linter.unusedVariables false
/-- all but one object stays -/
def Keeps (o : Nat) (H H' : AH) : Prop := H.length ≤ H'.length ∧ ∀ (j : Nat) (y : AObj), j ≠ o → H[j]? = some y → H'[j]? = some y
theorem Keeps.trans {o : Nat} {H H' H'' : AH} (h : Keeps o H H') (k : Keeps o H' H'') : Keeps o H H'' := ⟨Nat.le_trans h.1 k.1, fun j y hj hy => k.2 j y hj (h.2 j y hj hy)⟩
theorem Keeps.of_pre {o : Nat} {H H' : AH} (h : H <+: H') : Keeps o H H' := ⟨h.length_le, fun j y _ hy => pre_at h hy⟩
theorem cutC {P : Program} {a b : Cd} {Q : Exit → Sl → AH → Prop} {s : Sl} {H : AH} (R : Sl → AH → Prop) (h1 : ∀ c, (∀ s H, R s H → wpC P c Q s H) → wpC P a (thenA (wpC P c Q) Q) s H) (h2 : ∀ s H, R s H → wpC P b Q s H) : wpC P (.seq a b) Q s H := h1 b h2
end Go.Proofs.Ytjnefjchconebab.Ai
namespace Go.Proofs.Ytjnefjchconebab.Ai
open Go
def ords64 : List (Nat × List (Nat × Bool)) := []
def cd64 : Cd := (.seq (.reg [⟨⟨some 2, Op.assign (Operand.const (Value.slice none 0 0)), none⟩, []⟩]) (.seq (.reg [⟨⟨some 5, Op.buildSlice 80 0 #[], none⟩, []⟩,
  ⟨⟨some 3, Op.assign (Operand.tmp 5), none⟩, []⟩]) (.seq (.seq (.reg [⟨⟨some 6, Op.move (Operand.tmp 0), none⟩, []⟩,
  ⟨⟨some 7, Op.move (Operand.const (Value.int IntKind.i64 0)), none⟩, []⟩]) (.block 0 (.loop (.seq (.reg [⟨⟨some 8, Op.binOp BinOp.lss 3 (Operand.tmp 7) (Operand.tmp 6) 3, none⟩, []⟩]) (.seq (.cond (Operand.tmp 8) .skip (.exit 0)) (.seq (.block 1 (.seq (.reg [⟨⟨some 9, Op.move (Operand.tmp 7), none⟩, []⟩,
  ⟨⟨some 4, Op.assign (Operand.tmp 9), none⟩, []⟩]) (.reg [⟨⟨some 10, Op.move (Operand.tmp 3), none⟩, []⟩,
  ⟨⟨some 11, Op.move (Operand.tmp 4), none⟩, []⟩,
  ⟨⟨some 12, Op.buildSlice 80 1 #[(0, (Operand.tmp 11))], none⟩, []⟩,
  ⟨⟨some 13, Op.call { callee := (Callee.builtin Builtin.append), args := #[(Operand.tmp 10), (Operand.tmp 12)], argTypes := #[80, 80] }, none⟩, []⟩,
  ⟨⟨some 3, Op.assign (Operand.tmp 13), none⟩, []⟩]))) (.reg [⟨⟨some 14, Op.binOp BinOp.add 3 (Operand.tmp 7) (Operand.const (Value.int IntKind.i64 1)) 3, none⟩, []⟩,
  ⟨⟨some 7, Op.move (Operand.tmp 14), none⟩, []⟩]))))))) (.seq (.reg [⟨⟨some 15, Op.move (Operand.tmp 3), none⟩, []⟩,
  ⟨⟨some 2, Op.assign (Operand.tmp 15), none⟩, []⟩]) .ret))))
theorem sl64 : slim Try.f64.ntmps ords64 (Try.f64.body.getD .skip) = some cd64 := by kernel_rfl
theorem in64 {args : List Value} {H : AH} {R : Value → AH → Prop} (hl : args.length = 1) (h : ∀ (Q : Exit → Sl → AH → Prop), (∀ e s H, endA Try.prog [ResultVar.tmp 2] R e s H → Q e s H) → wpC Try.prog cd64 Q (enterA args) H) : ACalls Try.prog 64 args H R :=
  ACalls.intro (by kernel_rfl) Try.func64 rfl (by kernel_rfl) sl64 hl (of_decide_eq_true (by kernel_rfl)) (by kernel_rfl) h
def ords77 : List (Nat × List (Nat × Bool)) := []
def cd77 : Cd := (.seq (.reg [⟨⟨some 4, Op.assign (Operand.const (Value.int IntKind.i64 0)), none⟩, []⟩]) (.seq (.block 0 (.loop (.seq (.seq (.reg [⟨⟨some 5, Op.move (Operand.tmp 0), none⟩, []⟩,
  ⟨⟨some 6, Op.move (Operand.tmp 1), none⟩, []⟩,
  ⟨⟨some 7, Op.indexAddr 80 (Operand.tmp 5) (Operand.tmp 6), none⟩, []⟩,
  ⟨⟨some 8, Op.load 3 (Operand.tmp 7), none⟩, []⟩,
  ⟨⟨some 9, Op.move (Operand.tmp 1), none⟩, []⟩,
  ⟨⟨some 10, Op.binOp BinOp.neq 3 (Operand.tmp 8) (Operand.tmp 9) 3, none⟩, []⟩]) (.cond (Operand.tmp 10) .skip (.exit 0))) (.block 1 (.reg [⟨⟨some 11, Op.move (Operand.tmp 0), none⟩, []⟩,
  ⟨⟨some 12, Op.move (Operand.tmp 1), none⟩, []⟩,
  ⟨⟨some 13, Op.indexAddr 80 (Operand.tmp 11) (Operand.tmp 12), none⟩, []⟩,
  ⟨⟨some 14, Op.load 3 (Operand.tmp 13), none⟩, []⟩,
  ⟨⟨some 1, Op.assign (Operand.tmp 14), none⟩, []⟩]))))) (.seq (.reg [⟨⟨some 15, Op.move (Operand.tmp 1), none⟩, []⟩,
  ⟨⟨some 4, Op.assign (Operand.tmp 15), none⟩, []⟩]) .ret)))
theorem sl77 : slim Try.f77.ntmps ords77 (Try.f77.body.getD .skip) = some cd77 := by kernel_rfl
theorem in77 {args : List Value} {H : AH} {R : Value → AH → Prop} (hl : args.length = 2) (h : ∀ (Q : Exit → Sl → AH → Prop), (∀ e s H, endA Try.prog [ResultVar.tmp 4] R e s H → Q e s H) → wpC Try.prog cd77 Q (enterA args) H) : ACalls Try.prog 77 args H R :=
  ACalls.intro (by kernel_rfl) Try.func77 rfl (by kernel_rfl) sl77 hl (of_decide_eq_true (by kernel_rfl)) (by kernel_rfl) h
def ords63 : List (Nat × List (Nat × Bool)) := [(1, [(0, false), (1, false), (2, false), (4, false), (5, false), (6, false), (3, true), (7, true), (8, false), (9, false)])]
def cd63 : Cd := (.seq (.reg [⟨⟨some 3, Op.box 66 (Operand.tmp 1), none⟩, []⟩,
  ⟨⟨some 4, Op.assign (Operand.const (Value.bool false)), none⟩, []⟩]) (.seq (.reg [⟨⟨some 7, Op.move (Operand.tmp 0), none⟩, []⟩,
  ⟨⟨some 8, Op.indexAddr 66 (Operand.tmp 3) (Operand.const (Value.int IntKind.i64 0)), none⟩, []⟩,
  ⟨⟨some 9, Op.load 3 (Operand.tmp 8), none⟩, []⟩,
  ⟨⟨some 11, Op.move (Operand.tmp 0), none⟩, []⟩,
  ⟨⟨some 12, Op.indexAddr 66 (Operand.tmp 3) (Operand.const (Value.int IntKind.i64 1)), none⟩, []⟩,
  ⟨⟨some 13, Op.load 3 (Operand.tmp 12), none⟩, []⟩,
  ⟨⟨some 10, Op.call { callee := (Callee.value (Operand.func 77)), args := #[(Operand.tmp 7), (Operand.tmp 9)], argTypes := #[80, 3] }, none⟩, [⟨some 13, Op.load 3 (Operand.tmp 12), none⟩]⟩,
  ⟨⟨some 14, Op.call { callee := (Callee.value (Operand.func 77)), args := #[(Operand.tmp 11), (Operand.tmp 13)], argTypes := #[80, 3] }, none⟩, []⟩,
  ⟨⟨some 5, Op.assign (Operand.tmp 10), none⟩, []⟩,
  ⟨⟨some 6, Op.assign (Operand.tmp 14), none⟩, []⟩]) (.seq (.reg [⟨⟨some 15, Op.move (Operand.tmp 0), none⟩, []⟩,
  ⟨⟨some 16, Op.move (Operand.tmp 5), none⟩, []⟩,
  ⟨⟨some 17, Op.move (Operand.tmp 6), none⟩, []⟩,
  ⟨⟨some 18, Op.indexAddr 80 (Operand.tmp 15) (Operand.tmp 16), none⟩, []⟩,
  ⟨⟨none, Op.store 3 (Operand.tmp 18) (Operand.tmp 17), none⟩, []⟩]) (.seq (.reg [⟨⟨some 19, Op.move (Operand.tmp 5), none⟩, []⟩,
  ⟨⟨some 20, Op.move (Operand.tmp 6), none⟩, []⟩,
  ⟨⟨some 21, Op.binOp BinOp.neq 3 (Operand.tmp 19) (Operand.tmp 20) 3, none⟩, []⟩,
  ⟨⟨some 4, Op.assign (Operand.tmp 21), none⟩, []⟩]) .ret))))
theorem sl63 : slim Try.f63.ntmps ords63 (Try.f63.body.getD .skip) = some cd63 := by kernel_rfl
theorem in63 {args : List Value} {H : AH} {R : Value → AH → Prop} (hl : args.length = 2) (h : ∀ (Q : Exit → Sl → AH → Prop), (∀ e s H, endA Try.prog [ResultVar.tmp 4] R e s H → Q e s H) → wpC Try.prog cd63 Q (enterA args) H) : ACalls Try.prog 63 args H R :=
  ACalls.intro (by kernel_rfl) Try.func63 rfl (by kernel_rfl) sl63 hl (of_decide_eq_true (by kernel_rfl)) (by kernel_rfl) h
end Go.Proofs.Ytjnefjchconebab.Ai
namespace Go.Proofs.Ytjnefjchconebab.Ai
open Go Go.RowKit
set_option linter.unusedVariables false
set_option linter.unusedSimpArgs false
/-- a forest: whither each node points, its root, its height -/
structure JS (n : Nat) (J : List Int) (rt d : Nat → Nat) : Prop where
  len : J.length = n
  nxt : ∀ x, x < n → ∃ y : Nat, J.getD x 0 = (y : Int) ∧ y < n ∧ rt y = rt x ∧ (y = x → rt x = x) ∧ (y ≠ x → d y < d x)
  top : ∀ x, x < n → rt x < n ∧ J.getD (rt x) 0 = (rt x : Int)
theorem JS.rr {n : Nat} {J : List Int} {rt d : Nat → Nat} (h : JS n J rt d) {x : Nat} (hx : x < n) : rt (rt x) = rt x := by
  obtain ⟨t1, t2⟩ := h.top x hx
  obtain ⟨y, y1, _, y3, y4, _⟩ := h.nxt (rt x) t1
  exact y4 (by rw [t2] at y1; omega)
theorem alls_at {n x : Nat} (h : x < n) : (alls n).getD x 0 = (x : Int) := by simp [alls, h]
theorem JS.zero (n : Nat) : JS n (alls n) id fun _ => 0 :=
  ⟨by simp [alls], fun x hx => ⟨x, alls_at hx, hx, rfl, fun _ => rfl, fun q => absurd rfl q⟩, fun x hx => ⟨hx, alls_at hx⟩⟩
theorem getD_setI (xs : List Int) (j v : Nat) (d : Int) (hj : j < xs.length) : (xs.set j d).getD v 0 = if j = v then d else xs.getD v 0 := by
  simp only [List.getD_eq_getElem?_getD, List.getElem?_set]
  split
  · rename_i e
    subst e
    first | rfl | (rw [if_pos hj]; rfl)
  · rfl
theorem JS.join {n : Nat} {J : List Int} {rt d : Nat → Nat} (h : JS n J rt d) {a b : Nat} (ha : a < n) (hb : b < n) :
    ∃ d', JS n (J.set (rt a) (rt b : Int)) (fun x => if rt x = rt a then rt b else rt x) d' := by
  have ra := h.rr ha
  have rb := h.rr hb
  have ta := h.top a ha
  have tb := h.top b hb
  have hl : rt a < J.length := by rw [h.len]; exact ta.1
  refine ⟨fun x => if rt x = rt a ∧ rt a ≠ rt b then d x + d (rt b) + 1 else d x, by rw [List.length_set]; exact h.len, fun x hx => ?_, fun x hx => ?_⟩
  · rw [getD_setI _ _ _ _ hl]
    by_cases e : rt a = x
    · refine ⟨rt b, if_pos e, tb.1, ?_, fun q => ?_, fun q => ?_⟩
      · show (if rt (rt b) = rt a then rt b else rt (rt b)) = if rt x = rt a then rt b else rt x
        rw [rb, ← e, ra, if_pos rfl]
        split <;> rfl
      · show (if rt x = rt a then rt b else rt x) = x
        rw [← e, ra, if_pos rfl, q, e]
      · show (if rt (rt b) = rt a ∧ rt a ≠ rt b then _ else _) < (if rt x = rt a ∧ rt a ≠ rt b then _ else _)
        have hne : rt a ≠ rt b := fun g => q (by rw [← g, e])
        rw [rb, if_neg (fun g => hne g.1.symm), ← e, ra, if_pos ⟨rfl, hne⟩]
        omega
    · obtain ⟨y, y1, y2, y3, y4, y5⟩ := h.nxt x hx
      refine ⟨y, by rw [if_neg e]; exact y1, y2, ?_, fun q => ?_, fun q => ?_⟩
      · show (if rt y = rt a then rt b else rt y) = if rt x = rt a then rt b else rt x
        rw [y3]
      · show (if rt x = rt a then rt b else rt x) = x
        have := y4 q
        rw [this, if_neg fun g => e g.symm]
      · show (if rt y = rt a ∧ rt a ≠ rt b then _ else _) < (if rt x = rt a ∧ rt a ≠ rt b then _ else _)
        have := y5 q
        rw [y3]
        split <;> omega
  · show (if rt x = rt a then rt b else rt x) < n ∧ (J.set (rt a) (rt b : Int)).getD (if rt x = rt a then rt b else rt x) 0 = ((if rt x = rt a then rt b else rt x : Nat) : Int)
    rw [getD_setI _ _ _ _ hl]
    have tx := h.top x hx
    by_cases e : rt x = rt a
    · rw [if_pos e]
      refine ⟨tb.1, ?_⟩
      split
      · rfl
      · exact tb.2
    · rw [if_neg e, if_neg fun g => e g.symm]
      exact tx
/-- a joiner after some edges -/
def JR (es : List (Int × Int)) (T : List Int) (n : Nat) (J : List Int) : Prop := ∃ rt d, JS n J rt d ∧ ∀ u v, u < n → v < n → (Jn es T u v ↔ rt u = rt v)
theorem JR.zero (es : List (Int × Int)) (n : Nat) : JR es [] n (alls n) := ⟨_, _, JS.zero n, fun u v _ _ => ⟨fun h => h.nil, fun h => by have : u = v := h; subst this; exact .refl u⟩⟩
theorem JR.congr {es : List (Int × Int)} {T U : List Int} {n : Nat} {J : List Int} (h : JR es T n J) (hs : ∀ x, x ∈ T ↔ x ∈ U) : JR es U n J := by
  obtain ⟨rt, d, h1, h2⟩ := h
  exact ⟨rt, d, h1, fun u v hu hv => ⟨fun q => (h2 u v hu hv).1 (q.mono fun x hx => (hs x).2 hx), fun q => ((h2 u v hu hv).2 q).mono fun x hx => (hs x).1 hx⟩⟩
theorem JS.rel {es : List (Int × Int)} {T U : List Int} {n : Nat} {J : List Int} {rt d : Nat → Nat} (h : JS n J rt d) (hr : ∀ u v, u < n → v < n → (Jn es T u v ↔ rt u = rt v)) {e : Int} (ha : enA es e < n) (hb : enB es e < n) (hs : ∀ x, x ∈ U ↔ x ∈ T ∨ x = e) :
    JR es U n (J.set (rt (enA es e)) (rt (enB es e) : Int)) := by
  obtain ⟨d', hj⟩ := h.join ha hb
  refine ⟨_, d', hj, fun u v hu hv => ?_⟩
  show _ ↔ (if rt u = rt (enA es e) then rt (enB es e) else rt u) = if rt v = rt (enA es e) then rt (enB es e) else rt v
  have sub : ∀ x ∈ T, x ∈ U := fun x hx => (hs x).2 (.inl hx)
  constructor
  · intro hj
    rcases Jn.add (fun x hx => (hs x).1 hx) hj with q | ⟨q1, q2⟩ | ⟨q1, q2⟩
    · rw [(hr u v hu hv).1 q]
    · rw [if_pos ((hr _ _ hu ha).1 q1), ← (hr _ _ hb hv).1 q2]
      split <;> rfl
    · have e2 := (hr _ _ ha hv).1 q2
      rw [if_pos e2.symm, (hr _ _ hu hb).1 q1]
      split <;> rfl
  · intro hq
    have ed : Jn es U (enA es e) (enB es e) := .edge e ((hs e).2 (.inr rfl))
    split at hq <;> split at hq
    · rename_i g1 g2
      exact ((hr u v hu hv).2 (g1.trans g2.symm)).mono sub
    · rename_i g1 g2
      exact (((hr _ _ hu ha).2 g1).mono sub).trans (ed.trans (((hr _ _ hb hv).2 hq).mono sub))
    · rename_i g1 g2
      exact (((hr _ _ hu hb).2 hq).mono sub).trans (ed.symm.trans (((hr _ _ ha hv).2 g2.symm).mono sub))
    · exact ((hr u v hu hv).2 hq).mono sub
theorem newJoiner_c (n : Nat) (H : AH) (hn : n ≤ 1000) : ACalls Try.prog 64 [.int .i64 (n : Int)] H fun r H' => Own 3 H H' r (alls n) ∧ H <+: H' := by
  refine in64 rfl ?_
  intro Q hQ
  simp (maxSteps := 1000000) (disch := omega) only [cd64, S, S1, S2, S3, S4, S5, ST, eq_self, reduceIte, reduceCtorEq, Nat.reduceEqDiff, Nat.reduceAdd]
  have hp := List.prefix_append H [AObj.cells [] 3 false]
  have own0 : Own 3 H (H ++ [AObj.cells [] 3 false]) (.slice (some ⟨H.length, 0, none⟩) 0 0) (alls 0) := .inr ⟨H.length, rfl, Nat.le_refl _, at_new ..⟩
  refine LoopH.by (fun m s H' => ∃ i : Nat, m + i = n ∧ s 6 = .int .i64 (n : Int) ∧ s 7 = .int .i64 ((i : Nat) : Int) ∧ Own 3 H H' (s 3) (alls i) ∧ H <+: H') n ?_ ?_
  · refine ⟨0, ?_⟩
    simp (maxSteps := 1000000) (disch := omega) only [S, S1, S2, S3, S4, S5, ST, eq_self, reduceIte, reduceCtorEq, Nat.reduceEqDiff, Nat.reduceAdd]
    (repeat' first | exact own0 | exact hp | apply And.intro) <;> first | (simp only [Value.int.injEq, true_and]; omega) | omega | rfl | assumption | (simp; done) | (simp; omega)
  rintro m s H' ⟨i, hm, h6, h7, hO, pH⟩
  generalize hU : s 3 = U at *
  simp (maxSteps := 1000000) (disch := omega) only [h6, h7, hU, S, S1, S2, S3, S4, S5, ST, eq_self, reduceIte, reduceCtorEq, Nat.reduceEqDiff, Nat.reduceAdd]
  refine brD.intro (fun g => ?_) (fun g => ?_)
  · obtain ⟨w, K, a1, a2, a3, a4, a5, a6⟩ := own1_80 hO pH (by simp [alls]; omega) (i : Int)
    have e1 : alls (i + 1) = alls i ++ [(i : Int)] := by simp [alls, List.range_succ]
    rw [← e1] at a2
    simp (maxSteps := 1000000) (disch := omega) only [h6, h7, hU, a1, wrap64, S, S1, S2, S3, S4, S5, ST, eq_self, reduceIte, reduceCtorEq, Nat.reduceEqDiff, Nat.reduceAdd]
    refine ⟨m - 1, by omega, i + 1, ?_⟩
    (repeat' first | exact a2 | exact a3 | apply And.intro) <;> first | (simp only [Value.int.injEq, true_and]; omega) | omega | rfl | assumption | (simp; done) | (simp; omega)
  · have hin : i = n := by omega
    subst hin
    simp (maxSteps := 1000000) (disch := omega) only [hU, S, S1, S2, S3, S4, S5, ST, eq_self, reduceIte, reduceCtorEq, Nat.reduceEqDiff, Nat.reduceAdd]
    refine hQ _ _ _ ?_
    simp (maxSteps := 1000000) (disch := omega) only [hO.row.tup, S, S1, S2, S3, S4, S5, ST, eq_self, reduceIte, reduceCtorEq, Nat.reduceEqDiff, Nat.reduceAdd]
    exact ⟨hO, pH⟩
theorem root_c {n : Nat} {J : List Int} {rt d : Nat → Nat} (hj : JS n J rt d) (v : Value) (H : AH) (hr : Row 3 H v J) (x : Nat) (hx : x < n) : ACalls Try.prog 77 [v, .int .i64 (x : Int)] H fun r H' => r = .int .i64 (rt x : Int) ∧ H = H' := by
  refine in77 rfl ?_
  intro Q hQ
  simp (maxSteps := 1000000) (disch := omega) only [cd77, S, S1, S2, S3, S4, S5, ST, eq_self, reduceIte, reduceCtorEq, Nat.reduceEqDiff, Nat.reduceAdd]
  refine LoopH.by (fun m s H' => ∃ z : Nat, m = d z ∧ z < n ∧ rt z = rt x ∧ s 0 = v ∧ s 1 = .int .i64 (z : Int) ∧ H = H') (d x) ?_ ?_
  · exact ⟨x, rfl, hx, rfl, rfl, rfl, rfl⟩
  rintro m s H' ⟨z, rfl, hz, hzr, h0, h1, rfl⟩
  obtain ⟨y, y1, y2, y3, y4, y5⟩ := hj.nxt z hz
  have hzl : z < J.length := by rw [hj.len]; exact hz
  have cc := hr.cell hzl
  rw [y1] at cc
  simp (maxSteps := 1000000) (disch := omega) only [h0, h1, hr.ix Try.underlying80 cs3, Int.toNat_natCast, cc, S, S1, S2, S3, S4, S5, ST, eq_self, reduceIte, reduceCtorEq, Nat.reduceEqDiff, Nat.reduceAdd]
  refine brD.intro (fun g => ?_) (fun g => ?_)
  · simp (maxSteps := 1000000) (disch := omega) only [h0, h1, hr.ix Try.underlying80 cs3, Int.toNat_natCast, cc, S, S1, S2, S3, S4, S5, ST, eq_self, reduceIte, reduceCtorEq, Nat.reduceEqDiff, Nat.reduceAdd]
    have f1 := y3.trans hzr
    refine ⟨d y, y5 (by omega), y, ?_⟩
    (repeat' first | exact rfl | exact y2 | exact f1 | apply And.intro) <;> first | (simp only [Value.int.injEq, true_and]; omega) | omega | rfl | assumption | (simp; done) | (simp; omega)
  · have e : y = z := by omega
    have := y4 e
    simp (maxSteps := 1000000) (disch := omega) only [h1, S, S1, S2, S3, S4, S5, ST, eq_self, reduceIte, reduceCtorEq, Nat.reduceEqDiff, Nat.reduceAdd]
    refine hQ _ _ _ ?_
    simp (maxSteps := 1000000) (disch := omega) only [S, S1, S2, S3, S4, S5, ST, eq_self, reduceIte, reduceCtorEq, Nat.reduceEqDiff, Nat.reduceAdd]
    rw [← hzr, this]
set_option maxHeartbeats 1000000 in
theorem joinS_c {n : Nat} {J : List Int} {rt d : Nat → Nat} (hj : JS n J rt d) (o : Nat) (H : AH) (ho : H[o]? = some (.cells (ints J) 3 false)) (a b : Nat) (ha : a < n) (hb : b < n) : ACalls Try.prog 63 [.slice (some ⟨o, 0, none⟩) n n, .agg (List.toArray [.int .i64 (a : Int), .int .i64 (b : Int)])] H fun r H' => r = .bool (decide (rt a ≠ rt b)) ∧ H'[o]? = some (.cells (ints (J.set (rt a) (rt b : Int))) 3 false) ∧ Keeps o H H' := by
  refine in63 rfl ?_
  intro Q hQ
  have bx : ∀ H : AH, boxA Try.prog 66 (.agg (List.toArray [.int .i64 (a : Int), .int .i64 (b : Int)])) H = some (.pointer (some ⟨H.length, 0, none⟩), H ++ [.cells [.int .i64 (a : Int), .int .i64 (b : Int)] 66 false]) := fun H => by kernel_rfl
  simp (maxSteps := 1000000) (disch := omega) only [cd63, bx, S, S1, S2, S3, S4, S5, ST, eq_self, reduceIte, reduceCtorEq, Nat.reduceEqDiff, Nat.reduceAdd]
  generalize hA : H ++ [AObj.cells [.int .i64 (a : Int), .int .i64 (b : Int)] 66 false] = A
  have pA : H <+: A := by rw [← hA]; exact List.prefix_append _ _
  have cA : A[H.length]? = some (.cells [.int .i64 (a : Int), .int .i64 (b : Int)] 66 false) := by rw [← hA]; exact at_new ..
  have oA := pre_at pA ho
  have rA : Row 3 A (.slice (some ⟨o, 0, none⟩) n n) J := .inr ⟨o, 0, _, false, by rw [hj.len], oA, by simp [ints_len], by rw [List.drop_zero, List.take_of_length_le (by simp [ints_len])]⟩
  simp (maxSteps := 1000000) (disch := omega) only [cell_of cA, S, S1, S2, S3, S4, S5, ST, eq_self, reduceIte, reduceCtorEq, Nat.reduceEqDiff, Nat.reduceAdd]
  refine CallH.by (root_c hj _ A rA a ha) ?_
  rintro _ _ ⟨rfl, rfl⟩
  simp (maxSteps := 1000000) (disch := omega) only [cell_of cA, S, S1, S2, S3, S4, S5, ST, eq_self, reduceIte, reduceCtorEq, Nat.reduceEqDiff, Nat.reduceAdd]
  refine CallH.by (root_c hj _ A rA b hb) ?_
  rintro _ _ ⟨rfl, rfl⟩
  have hra : rt a < J.length := by rw [hj.len]; exact (hj.top a ha).1
  have hran : rt a < n := (hj.top a ha).1
  have ix := rA.ix Try.underlying80 cs3 .i64 (i := (rt a : Int)) (by omega) (by omega)
  have st := st_ints (P := Try.prog) (t := 3) (x := (rt b : Int)) cs3 oA hra
  simp (maxSteps := 1000000) (disch := omega) only [ix, rowO, rowK, Int.toNat_natCast, Nat.zero_add, st, S, S1, S2, S3, S4, S5, ST, eq_self, reduceIte, reduceCtorEq, Nat.reduceEqDiff, Nat.reduceAdd]
  refine hQ _ _ _ ?_
  simp (maxSteps := 1000000) (disch := omega) only [S, S1, S2, S3, S4, S5, ST, eq_self, reduceIte, reduceCtorEq, Nat.reduceEqDiff, Nat.reduceAdd]
  refine ⟨?_, ?_, ?_⟩
  · rw [Value.bool.injEq, decide_eq_decide]
    omega
  · rw [List.getElem?_set_self (at_lt oA)]
  · exact (Keeps.of_pre pA).trans ⟨by simp, fun j y hj hy => by rw [List.getElem?_set_ne (fun e => hj e.symm)]; exact hy⟩
/-- one edge more -/
theorem join_c {es : List (Int × Int)} {T : List Int} {n : Nat} {J : List Int} (hj : JR es T n J) (o : Nat) (H : AH) (ho : H[o]? = some (.cells (ints J) 3 false)) (e : Int) (ha : enA es e < n) (hb : enB es e < n) (h1 : (es.getD e.toNat (0, 0)).1 = (enA es e : Int)) (h2 : (es.getD e.toNat (0, 0)).2 = (enB es e : Int)) :
    ACalls Try.prog 63 [.slice (some ⟨o, 0, none⟩) n n, .agg (List.toArray [.int .i64 (es.getD e.toNat (0, 0)).1, .int .i64 (es.getD e.toNat (0, 0)).2])] H fun r H' => ∃ (b : Bool) (J' : List Int), r = .bool b ∧ (b = true ↔ ¬ Jn es T (enA es e) (enB es e)) ∧ H'[o]? = some (.cells (ints J') 3 false) ∧ JR es (T ++ [e]) n J' ∧ Keeps o H H' := by
  obtain ⟨rt, d, hs, hr⟩ := hj
  rw [h1, h2]
  refine (joinS_c hs o H ho _ _ ha hb).mono fun r H' h => ?_
  refine ⟨_, _, h.1, ?_, h.2.1, hs.rel hr ha hb fun x => by simp, h.2.2⟩
  rw [decide_eq_true_eq, hr _ _ ha hb]
end Go.Proofs.Ytjnefjchconebab.Ai
