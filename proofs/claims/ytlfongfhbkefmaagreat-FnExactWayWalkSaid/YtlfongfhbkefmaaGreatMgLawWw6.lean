/- Texts of this claim, joined: WyS, SpP, SpR, EqI, SpW, StpP, SpK. -/
import Derived.Test.YtlfongfhbkefmaaGreatProg
import Derived.KernelRfl
import Derived.Test.YtlfongfhbkefmaaGreatMgLawWw5
namespace Go.Proofs.YtlfongfhbkefmaaGreat.Ai
open Go
def ords48 : List (Nat × List (Nat × Bool)) := []
def cd48 : Cd := (.seq (.reg [⟨⟨some 3, Op.box 31 (Operand.tmp 0), none⟩, []⟩,
  ⟨⟨some 6, Op.assign (Operand.const (Value.bool false)), none⟩, []⟩]) (.seq (.reg [⟨⟨some 7, Op.load 31 (Operand.tmp 3), none⟩, []⟩,
  ⟨⟨some 8, Op.call { callee := (Callee.value (Operand.func 36)), args := #[(Operand.tmp 7)], argTypes := #[31] }, none⟩, []⟩,
  ⟨⟨some 9, Op.move (Operand.tmp 8), none⟩, []⟩,
  ⟨⟨some 10, Op.move (Operand.tmp 1), some (9, true)⟩, []⟩,
  ⟨⟨some 11, Op.fieldAddr 31 (Operand.tmp 3) 0, some (9, true)⟩, []⟩,
  ⟨⟨some 12, Op.load 3 (Operand.tmp 11), some (9, true)⟩, []⟩,
  ⟨⟨some 13, Op.binOp BinOp.sub 3 (Operand.tmp 12) (Operand.const (Value.int IntKind.i64 1)) 3, some (9, true)⟩, []⟩,
  ⟨⟨some 14, Op.call { callee := (Callee.value (Operand.func 83)), args := #[(Operand.tmp 10), (Operand.const (Value.int IntKind.i64 0)), (Operand.tmp 13)], argTypes := #[3, 3, 3] }, some (9, true)⟩, []⟩,
  ⟨⟨some 15, Op.pick (Operand.tmp 9) (Operand.tmp 14) (Operand.const (Value.bool false)), none⟩, []⟩,
  ⟨⟨some 16, Op.move (Operand.tmp 15), none⟩, []⟩,
  ⟨⟨some 17, Op.move (Operand.tmp 2), some (16, true)⟩, []⟩,
  ⟨⟨some 18, Op.fieldAddr 31 (Operand.tmp 3) 0, some (16, true)⟩, []⟩,
  ⟨⟨some 19, Op.load 3 (Operand.tmp 18), some (16, true)⟩, []⟩,
  ⟨⟨some 20, Op.binOp BinOp.sub 3 (Operand.tmp 19) (Operand.const (Value.int IntKind.i64 1)) 3, some (16, true)⟩, []⟩,
  ⟨⟨some 21, Op.call { callee := (Callee.value (Operand.func 83)), args := #[(Operand.tmp 17), (Operand.const (Value.int IntKind.i64 0)), (Operand.tmp 20)], argTypes := #[3, 3, 3] }, some (16, true)⟩, []⟩,
  ⟨⟨some 22, Op.pick (Operand.tmp 16) (Operand.tmp 21) (Operand.const (Value.bool false)), none⟩, []⟩,
  ⟨⟨some 6, Op.assign (Operand.tmp 22), none⟩, []⟩]) .ret))
theorem sl48 : slim Tryz.f48.ntmps ords48 (Tryz.f48.body.getD .skip) = some cd48 := by kernel_rfl
theorem in48 {args : List Value} {H : AH} {R : Value → AH → Prop} (hl : args.length = 3) (h : ∀ (Q : Exit → Sl → AH → Prop), (∀ e s H, endA Tryz.prog [ResultVar.tmp 6] R e s H → Q e s H) → wpC Tryz.prog cd48 Q (enterA args) H) : ACalls Tryz.prog 48 args H R :=
  ACalls.intro (by kernel_rfl) Tryz.func48 rfl (by kernel_rfl) sl48 hl (of_decide_eq_true (by kernel_rfl)) (by kernel_rfl) h
def ords104 : List (Nat × List (Nat × Bool)) := [(8, [(0, false), (1, false), (2, false), (3, false), (4, false), (5, false), (6, false), (7, false), (8, false), (9, false), (10, false), (11, false), (12, false), (13, false), (14, false), (15, false), (16, false), (17, false), (18, false), (19, false)]), (9, [(0, false), (1, false), (2, false), (3, false), (4, false), (5, false), (6, false), (7, true), (8, false), (9, true)])]
def cd104 : Cd := (.seq (.reg [⟨⟨some 3, Op.box 31 (Operand.tmp 0), none⟩, []⟩,
  ⟨⟨some 6, Op.assign (Operand.const (Value.int IntKind.i64 0)), none⟩, []⟩]) (.seq (.seq (.reg [⟨⟨some 10, Op.move (Operand.tmp 1), none⟩, []⟩,
  ⟨⟨some 11, Op.move (Operand.tmp 2), none⟩, []⟩,
  ⟨⟨some 12, Op.indexAddr 38 (Operand.tmp 10) (Operand.tmp 11), none⟩, []⟩,
  ⟨⟨some 13, Op.load 3 (Operand.tmp 12), none⟩, []⟩,
  ⟨⟨some 14, Op.binOp BinOp.eql 3 (Operand.tmp 13) (Operand.const (Value.int IntKind.i64 0)) 3, none⟩, []⟩]) (.cond (Operand.tmp 14) (.seq (.reg [⟨⟨some 6, Op.assign (Operand.const (Value.int IntKind.i64 1)), none⟩, []⟩]) .ret) .skip)) (.seq (.reg [⟨⟨some 7, Op.assign (Operand.const (Value.int IntKind.i64 0)), none⟩, []⟩]) (.seq (.reg [⟨⟨some 15, Op.load 31 (Operand.tmp 3), none⟩, []⟩,
  ⟨⟨some 16, Op.move (Operand.tmp 2), none⟩, []⟩,
  ⟨⟨some 17, Op.call { callee := (Callee.value (Operand.func 74)), args := #[(Operand.tmp 15), (Operand.tmp 16)], argTypes := #[31, 3] }, none⟩, []⟩,
  ⟨⟨some 8, Op.assign (Operand.tmp 17), none⟩, []⟩]) (.seq (.seq (.reg [⟨⟨some 9, Op.assign (Operand.const (Value.int IntKind.i64 0)), none⟩, []⟩]) (.block 0 (.loop (.seq (.seq (.reg [⟨⟨some 18, Op.move (Operand.tmp 9), none⟩, []⟩,
  ⟨⟨some 19, Op.move (Operand.tmp 8), none⟩, []⟩,
  ⟨⟨some 20, Op.call { callee := (Callee.builtin Builtin.len), args := #[(Operand.tmp 19)], argTypes := #[38] }, none⟩, []⟩,
  ⟨⟨some 21, Op.binOp BinOp.lss 3 (Operand.tmp 18) (Operand.tmp 20) 3, none⟩, []⟩]) (.cond (Operand.tmp 21) .skip (.exit 0))) (.seq (.block 1 (.seq (.reg [⟨⟨some 24, Op.move (Operand.tmp 1), none⟩, []⟩,
  ⟨⟨some 25, Op.move (Operand.tmp 2), none⟩, []⟩,
  ⟨⟨some 26, Op.indexAddr 38 (Operand.tmp 24) (Operand.tmp 25), none⟩, []⟩,
  ⟨⟨some 27, Op.load 3 (Operand.tmp 26), none⟩, []⟩,
  ⟨⟨some 28, Op.binOp BinOp.gtr 3 (Operand.tmp 27) (Operand.const (Value.int IntKind.i64 0)) 3, none⟩, []⟩,
  ⟨⟨some 29, Op.move (Operand.tmp 28), none⟩, []⟩,
  ⟨⟨some 30, Op.move (Operand.tmp 1), some (29, true)⟩, []⟩,
  ⟨⟨some 31, Op.move (Operand.tmp 8), some (29, true)⟩, []⟩,
  ⟨⟨some 32, Op.move (Operand.tmp 9), some (29, true)⟩, []⟩,
  ⟨⟨some 33, Op.indexAddr 38 (Operand.tmp 31) (Operand.tmp 32), some (29, true)⟩, []⟩,
  ⟨⟨some 34, Op.load 3 (Operand.tmp 33), some (29, true)⟩, []⟩,
  ⟨⟨some 35, Op.indexAddr 38 (Operand.tmp 30) (Operand.tmp 34), some (29, true)⟩, []⟩,
  ⟨⟨some 36, Op.load 3 (Operand.tmp 35), some (29, true)⟩, []⟩,
  ⟨⟨some 37, Op.move (Operand.tmp 1), some (29, true)⟩, []⟩,
  ⟨⟨some 38, Op.move (Operand.tmp 2), some (29, true)⟩, []⟩,
  ⟨⟨some 39, Op.indexAddr 38 (Operand.tmp 37) (Operand.tmp 38), some (29, true)⟩, []⟩,
  ⟨⟨some 40, Op.load 3 (Operand.tmp 39), some (29, true)⟩, []⟩,
  ⟨⟨some 41, Op.binOp BinOp.sub 3 (Operand.tmp 40) (Operand.const (Value.int IntKind.i64 1)) 3, some (29, true)⟩, []⟩,
  ⟨⟨some 42, Op.binOp BinOp.eql 3 (Operand.tmp 36) (Operand.tmp 41) 3, some (29, true)⟩, []⟩,
  ⟨⟨some 43, Op.pick (Operand.tmp 29) (Operand.tmp 42) (Operand.const (Value.bool false)), none⟩, []⟩]) (.cond (Operand.tmp 43) (.reg [⟨⟨some 44, Op.move (Operand.tmp 7), none⟩, []⟩,
  ⟨⟨some 45, Op.load 31 (Operand.tmp 3), none⟩, []⟩,
  ⟨⟨some 46, Op.move (Operand.tmp 1), none⟩, []⟩,
  ⟨⟨some 47, Op.move (Operand.tmp 8), none⟩, []⟩,
  ⟨⟨some 48, Op.move (Operand.tmp 9), none⟩, []⟩,
  ⟨⟨some 49, Op.indexAddr 38 (Operand.tmp 47) (Operand.tmp 48), none⟩, []⟩,
  ⟨⟨some 50, Op.load 3 (Operand.tmp 49), none⟩, []⟩,
  ⟨⟨some 51, Op.call { callee := (Callee.value (Operand.func 104)), args := #[(Operand.tmp 45), (Operand.tmp 46), (Operand.tmp 50)], argTypes := #[31, 38, 3] }, none⟩, []⟩,
  ⟨⟨some 52, Op.binOp BinOp.add 3 (Operand.tmp 44) (Operand.tmp 51) 3, none⟩, []⟩,
  ⟨⟨some 7, Op.assign (Operand.tmp 52), none⟩, []⟩]) .skip))) (.reg [⟨⟨some 22, Op.move (Operand.tmp 9), none⟩, []⟩,
  ⟨⟨some 23, Op.binOp BinOp.add 3 (Operand.tmp 22) (Operand.const (Value.int IntKind.i64 1)) 3, none⟩, []⟩,
  ⟨⟨some 9, Op.assign (Operand.tmp 23), none⟩, []⟩])))))) (.seq (.reg [⟨⟨some 53, Op.move (Operand.tmp 7), none⟩, []⟩,
  ⟨⟨some 6, Op.assign (Operand.tmp 53), none⟩, []⟩]) .ret))))))
theorem sl104 : slim Tryz.f104.ntmps ords104 (Tryz.f104.body.getD .skip) = some cd104 := by kernel_rfl
theorem in104 {args : List Value} {H : AH} {R : Value → AH → Prop} (hl : args.length = 3) (h : ∀ (Q : Exit → Sl → AH → Prop), (∀ e s H, endA Tryz.prog [ResultVar.tmp 6] R e s H → Q e s H) → wpC Tryz.prog cd104 Q (enterA args) H) : ACalls Tryz.prog 104 args H R :=
  ACalls.intro (by kernel_rfl) Tryz.func104 rfl (by kernel_rfl) sl104 hl (of_decide_eq_true (by kernel_rfl)) (by kernel_rfl) h
def ords105 : List (Nat × List (Nat × Bool)) := [(8, [(0, false), (1, false), (2, false), (3, false), (4, false), (5, false), (6, false), (7, false), (8, false), (9, false), (10, false), (11, false), (12, false)]), (9, [(0, false), (1, false), (2, false), (4, false), (5, false), (6, false), (7, false), (8, false), (10, false), (3, true), (9, true), (11, true), (12, true)])]
def cd105 : Cd := (.seq (.reg [⟨⟨some 4, Op.box 31 (Operand.tmp 0), none⟩, []⟩,
  ⟨⟨some 8, Op.assign (Operand.const (Value.slice none 0 0)), none⟩, []⟩]) (.seq (.reg [⟨⟨some 12, Op.move (Operand.tmp 2), none⟩, []⟩,
  ⟨⟨some 13, Op.move (Operand.tmp 2), none⟩, []⟩,
  ⟨⟨some 14, Op.call { callee := (Callee.builtin Builtin.len), args := #[(Operand.tmp 13)], argTypes := #[38] }, none⟩, []⟩,
  ⟨⟨some 15, Op.binOp BinOp.sub 3 (Operand.tmp 14) (Operand.const (Value.int IntKind.i64 1)) 3, none⟩, []⟩,
  ⟨⟨some 16, Op.indexAddr 38 (Operand.tmp 12) (Operand.tmp 15), none⟩, []⟩,
  ⟨⟨some 17, Op.load 3 (Operand.tmp 16), none⟩, []⟩,
  ⟨⟨some 9, Op.assign (Operand.tmp 17), none⟩, []⟩]) (.seq (.seq (.reg [⟨⟨some 18, Op.move (Operand.tmp 1), none⟩, []⟩,
  ⟨⟨some 19, Op.move (Operand.tmp 9), none⟩, []⟩,
  ⟨⟨some 20, Op.indexAddr 38 (Operand.tmp 18) (Operand.tmp 19), none⟩, []⟩,
  ⟨⟨some 21, Op.load 3 (Operand.tmp 20), none⟩, []⟩,
  ⟨⟨some 22, Op.binOp BinOp.eql 3 (Operand.tmp 21) (Operand.const (Value.int IntKind.i64 0)) 3, none⟩, []⟩]) (.cond (Operand.tmp 22) (.seq (.reg [⟨⟨some 23, Op.move (Operand.tmp 3), none⟩, []⟩,
  ⟨⟨some 24, Op.move (Operand.tmp 2), none⟩, []⟩,
  ⟨⟨some 25, Op.buildSlice 26 1 #[(0, (Operand.tmp 24))], none⟩, []⟩,
  ⟨⟨some 26, Op.call { callee := (Callee.builtin Builtin.append), args := #[(Operand.tmp 23), (Operand.tmp 25)], argTypes := #[26, 26] }, none⟩, []⟩,
  ⟨⟨some 8, Op.assign (Operand.tmp 26), none⟩, []⟩]) .ret) .skip)) (.seq (.reg [⟨⟨some 27, Op.load 31 (Operand.tmp 4), none⟩, []⟩,
  ⟨⟨some 28, Op.move (Operand.tmp 9), none⟩, []⟩,
  ⟨⟨some 29, Op.call { callee := (Callee.value (Operand.func 74)), args := #[(Operand.tmp 27), (Operand.tmp 28)], argTypes := #[31, 3] }, none⟩, []⟩,
  ⟨⟨some 10, Op.assign (Operand.tmp 29), none⟩, []⟩]) (.seq (.seq (.reg [⟨⟨some 11, Op.assign (Operand.const (Value.int IntKind.i64 0)), none⟩, []⟩]) (.block 0 (.loop (.seq (.seq (.reg [⟨⟨some 30, Op.move (Operand.tmp 11), none⟩, []⟩,
  ⟨⟨some 31, Op.move (Operand.tmp 10), none⟩, []⟩,
  ⟨⟨some 32, Op.call { callee := (Callee.builtin Builtin.len), args := #[(Operand.tmp 31)], argTypes := #[38] }, none⟩, []⟩,
  ⟨⟨some 33, Op.binOp BinOp.lss 3 (Operand.tmp 30) (Operand.tmp 32) 3, none⟩, []⟩]) (.cond (Operand.tmp 33) .skip (.exit 0))) (.seq (.block 1 (.seq (.reg [⟨⟨some 36, Op.move (Operand.tmp 1), none⟩, []⟩,
  ⟨⟨some 37, Op.move (Operand.tmp 10), none⟩, []⟩,
  ⟨⟨some 38, Op.move (Operand.tmp 11), none⟩, []⟩,
  ⟨⟨some 39, Op.indexAddr 38 (Operand.tmp 37) (Operand.tmp 38), none⟩, []⟩,
  ⟨⟨some 40, Op.load 3 (Operand.tmp 39), none⟩, []⟩,
  ⟨⟨some 41, Op.indexAddr 38 (Operand.tmp 36) (Operand.tmp 40), none⟩, []⟩,
  ⟨⟨some 42, Op.load 3 (Operand.tmp 41), none⟩, []⟩,
  ⟨⟨some 43, Op.move (Operand.tmp 1), none⟩, []⟩,
  ⟨⟨some 44, Op.move (Operand.tmp 9), none⟩, []⟩,
  ⟨⟨some 45, Op.indexAddr 38 (Operand.tmp 43) (Operand.tmp 44), none⟩, []⟩,
  ⟨⟨some 46, Op.load 3 (Operand.tmp 45), none⟩, []⟩,
  ⟨⟨some 47, Op.binOp BinOp.sub 3 (Operand.tmp 46) (Operand.const (Value.int IntKind.i64 1)) 3, none⟩, []⟩,
  ⟨⟨some 48, Op.binOp BinOp.eql 3 (Operand.tmp 42) (Operand.tmp 47) 3, none⟩, []⟩]) (.cond (Operand.tmp 48) (.reg [⟨⟨some 49, Op.load 31 (Operand.tmp 4), none⟩, []⟩,
  ⟨⟨some 50, Op.move (Operand.tmp 1), none⟩, []⟩,
  ⟨⟨some 51, Op.move (Operand.tmp 2), none⟩, []⟩,
  ⟨⟨some 53, Op.move (Operand.tmp 10), none⟩, []⟩,
  ⟨⟨some 54, Op.move (Operand.tmp 11), none⟩, []⟩,
  ⟨⟨some 55, Op.indexAddr 38 (Operand.tmp 53) (Operand.tmp 54), none⟩, []⟩,
  ⟨⟨some 56, Op.load 3 (Operand.tmp 55), none⟩, []⟩,
  ⟨⟨some 57, Op.buildSlice 38 1 #[(0, (Operand.tmp 56))], none⟩, []⟩,
  ⟨⟨some 59, Op.move (Operand.tmp 3), none⟩, []⟩,
  ⟨⟨some 52, Op.call { callee := (Callee.value (Operand.func 79)), args := #[(Operand.tmp 51)], argTypes := #[38] }, none⟩, [⟨some 57, Op.buildSlice 38 1 #[(0, (Operand.tmp 56))], none⟩, ⟨some 56, Op.load 3 (Operand.tmp 55), none⟩, ⟨some 49, Op.load 31 (Operand.tmp 4), none⟩]⟩,
  ⟨⟨some 58, Op.call { callee := (Callee.builtin Builtin.append), args := #[(Operand.tmp 52), (Operand.tmp 57)], argTypes := #[38, 38] }, none⟩, [⟨some 49, Op.load 31 (Operand.tmp 4), none⟩]⟩,
  ⟨⟨some 60, Op.call { callee := (Callee.value (Operand.func 105)), args := #[(Operand.tmp 49), (Operand.tmp 50), (Operand.tmp 58), (Operand.tmp 59)], argTypes := #[31, 38, 38, 26] }, none⟩, []⟩,
  ⟨⟨some 3, Op.assign (Operand.tmp 60), none⟩, []⟩]) .skip))) (.reg [⟨⟨some 34, Op.move (Operand.tmp 11), none⟩, []⟩,
  ⟨⟨some 35, Op.binOp BinOp.add 3 (Operand.tmp 34) (Operand.const (Value.int IntKind.i64 1)) 3, none⟩, []⟩,
  ⟨⟨some 11, Op.assign (Operand.tmp 35), none⟩, []⟩])))))) (.seq (.reg [⟨⟨some 61, Op.move (Operand.tmp 3), none⟩, []⟩,
  ⟨⟨some 8, Op.assign (Operand.tmp 61), none⟩, []⟩]) .ret))))))
theorem sl105 : slim Tryz.f105.ntmps ords105 (Tryz.f105.body.getD .skip) = some cd105 := by kernel_rfl
theorem in105 {args : List Value} {H : AH} {R : Value → AH → Prop} (hl : args.length = 4) (h : ∀ (Q : Exit → Sl → AH → Prop), (∀ e s H, endA Tryz.prog [ResultVar.tmp 8] R e s H → Q e s H) → wpC Tryz.prog cd105 Q (enterA args) H) : ACalls Tryz.prog 105 args H R :=
  ACalls.intro (by kernel_rfl) Tryz.func105 rfl (by kernel_rfl) sl105 hl (of_decide_eq_true (by kernel_rfl)) (by kernel_rfl) h
def ords52 : List (Nat × List (Nat × Bool)) := []
def cd52 : Cd := (.seq (.reg [⟨⟨some 3, Op.box 31 (Operand.tmp 0), none⟩, []⟩,
  ⟨⟨some 6, Op.assign (Operand.const (Value.slice none 0 0)), none⟩, []⟩]) (.seq (.reg [⟨⟨some 8, Op.load 31 (Operand.tmp 3), none⟩, []⟩,
  ⟨⟨some 9, Op.move (Operand.tmp 2), none⟩, []⟩,
  ⟨⟨some 10, Op.call { callee := (Callee.value (Operand.func 103)), args := #[(Operand.tmp 8), (Operand.tmp 9)], argTypes := #[31, 3] }, none⟩, []⟩,
  ⟨⟨some 7, Op.assign (Operand.tmp 10), none⟩, []⟩]) (.seq (.seq (.reg [⟨⟨some 11, Op.move (Operand.tmp 7), none⟩, []⟩,
  ⟨⟨some 12, Op.move (Operand.tmp 1), none⟩, []⟩,
  ⟨⟨some 13, Op.indexAddr 38 (Operand.tmp 11) (Operand.tmp 12), none⟩, []⟩,
  ⟨⟨some 14, Op.load 3 (Operand.tmp 13), none⟩, []⟩,
  ⟨⟨some 15, Op.binOp BinOp.lss 3 (Operand.tmp 14) (Operand.const (Value.int IntKind.i64 0)) 3, none⟩, []⟩,
  ⟨⟨some 16, Op.move (Operand.tmp 15), none⟩, []⟩,
  ⟨⟨some 17, Op.load 31 (Operand.tmp 3), some (16, false)⟩, []⟩,
  ⟨⟨some 18, Op.move (Operand.tmp 7), some (16, false)⟩, []⟩,
  ⟨⟨some 19, Op.move (Operand.tmp 1), some (16, false)⟩, []⟩,
  ⟨⟨some 20, Op.call { callee := (Callee.value (Operand.func 104)), args := #[(Operand.tmp 17), (Operand.tmp 18), (Operand.tmp 19)], argTypes := #[31, 38, 3] }, some (16, false)⟩, []⟩,
  ⟨⟨some 21, Op.binOp BinOp.gtr 3 (Operand.tmp 20) (Operand.const (Value.int IntKind.i64 300)) 3, some (16, false)⟩, []⟩,
  ⟨⟨some 22, Op.pick (Operand.tmp 16) (Operand.const (Value.bool true)) (Operand.tmp 21), none⟩, []⟩]) (.cond (Operand.tmp 22) (.seq (.reg [⟨⟨some 23, Op.buildSlice 26 0 #[], none⟩, []⟩,
  ⟨⟨some 6, Op.assign (Operand.tmp 23), none⟩, []⟩]) .ret) .skip)) (.seq (.reg [⟨⟨some 24, Op.load 31 (Operand.tmp 3), none⟩, []⟩,
  ⟨⟨some 25, Op.move (Operand.tmp 7), none⟩, []⟩,
  ⟨⟨some 26, Op.move (Operand.tmp 1), none⟩, []⟩,
  ⟨⟨some 27, Op.buildSlice 38 1 #[(0, (Operand.tmp 26))], none⟩, []⟩,
  ⟨⟨some 28, Op.buildSlice 26 0 #[], none⟩, []⟩,
  ⟨⟨some 29, Op.call { callee := (Callee.value (Operand.func 105)), args := #[(Operand.tmp 24), (Operand.tmp 25), (Operand.tmp 27), (Operand.tmp 28)], argTypes := #[31, 38, 38, 26] }, none⟩, []⟩,
  ⟨⟨some 6, Op.assign (Operand.tmp 29), none⟩, []⟩]) .ret))))
theorem sl52 : slim Tryz.f52.ntmps ords52 (Tryz.f52.body.getD .skip) = some cd52 := by kernel_rfl
theorem in52 {args : List Value} {H : AH} {R : Value → AH → Prop} (hl : args.length = 3) (h : ∀ (Q : Exit → Sl → AH → Prop), (∀ e s H, endA Tryz.prog [ResultVar.tmp 6] R e s H → Q e s H) → wpC Tryz.prog cd52 Q (enterA args) H) : ACalls Tryz.prog 52 args H R :=
  ACalls.intro (by kernel_rfl) Tryz.func52 rfl (by kernel_rfl) sl52 hl (of_decide_eq_true (by kernel_rfl)) (by kernel_rfl) h
def ords51 : List (Nat × List (Nat × Bool)) := [(8, [(0, false), (1, false), (2, false), (3, false), (4, false), (5, false), (6, false), (7, false), (8, true), (9, false), (10, false)])]
def cd51 : Cd := (.seq (.reg [⟨⟨some 2, Op.alloc 28, none⟩, []⟩]) (.seq (.reg [⟨⟨some 6, Op.move (Operand.tmp 0), none⟩, []⟩,
  ⟨⟨some 7, Op.buildSlice 22 0 #[], none⟩, []⟩,
  ⟨⟨some 8, Op.build 28 #[(0, (Operand.tmp 6)), (1, (Operand.tmp 7))], none⟩, []⟩,
  ⟨⟨some 3, Op.alloc 28, none⟩, []⟩,
  ⟨⟨none, Op.store 28 (Operand.tmp 3) (Operand.tmp 8), none⟩, []⟩]) (.seq (.seq (.reg [⟨⟨some 4, Op.assign (Operand.const (Value.int IntKind.i64 0)), none⟩, []⟩]) (.block 0 (.loop (.seq (.seq (.reg [⟨⟨some 9, Op.move (Operand.tmp 4), none⟩, []⟩,
  ⟨⟨some 10, Op.move (Operand.tmp 0), none⟩, []⟩,
  ⟨⟨some 11, Op.call { callee := (Callee.builtin Builtin.len), args := #[(Operand.tmp 10)], argTypes := #[26] }, none⟩, []⟩,
  ⟨⟨some 12, Op.binOp BinOp.lss 3 (Operand.tmp 9) (Operand.tmp 11) 3, none⟩, []⟩]) (.cond (Operand.tmp 12) .skip (.exit 0))) (.seq (.block 1 (.seq (.reg [⟨⟨some 15, Op.move (Operand.tmp 4), none⟩, []⟩,
  ⟨⟨some 16, Op.binOp BinOp.add 3 (Operand.tmp 15) (Operand.const (Value.int IntKind.i64 1)) 3, none⟩, []⟩,
  ⟨⟨some 5, Op.assign (Operand.tmp 16), none⟩, []⟩]) (.block 2 (.loop (.seq (.seq (.reg [⟨⟨some 17, Op.move (Operand.tmp 5), none⟩, []⟩,
  ⟨⟨some 18, Op.move (Operand.tmp 0), none⟩, []⟩,
  ⟨⟨some 19, Op.call { callee := (Callee.builtin Builtin.len), args := #[(Operand.tmp 18)], argTypes := #[26] }, none⟩, []⟩,
  ⟨⟨some 20, Op.binOp BinOp.lss 3 (Operand.tmp 17) (Operand.tmp 19) 3, none⟩, []⟩]) (.cond (Operand.tmp 20) .skip (.exit 2))) (.seq (.block 3 (.seq (.reg [⟨⟨some 23, Op.move (Operand.tmp 0), none⟩, []⟩,
  ⟨⟨some 24, Op.move (Operand.tmp 4), none⟩, []⟩,
  ⟨⟨some 25, Op.indexAddr 26 (Operand.tmp 23) (Operand.tmp 24), none⟩, []⟩,
  ⟨⟨some 26, Op.load 38 (Operand.tmp 25), none⟩, []⟩,
  ⟨⟨some 27, Op.move (Operand.tmp 0), none⟩, []⟩,
  ⟨⟨some 28, Op.move (Operand.tmp 5), none⟩, []⟩,
  ⟨⟨some 29, Op.indexAddr 26 (Operand.tmp 27) (Operand.tmp 28), none⟩, []⟩,
  ⟨⟨some 30, Op.load 38 (Operand.tmp 29), none⟩, []⟩,
  ⟨⟨some 31, Op.call { callee := (Callee.value (Operand.func 102)), args := #[(Operand.tmp 26), (Operand.tmp 30)], argTypes := #[38, 38] }, none⟩, []⟩,
  ⟨⟨some 32, Op.call { callee := (Callee.builtin Builtin.len), args := #[(Operand.tmp 31)], argTypes := #[38] }, none⟩, []⟩,
  ⟨⟨some 33, Op.binOp BinOp.eql 3 (Operand.tmp 32) (Operand.const (Value.int IntKind.i64 1)) 3, none⟩, []⟩]) (.cond (Operand.tmp 33) (.reg [⟨⟨some 34, Op.fieldAddr 28 (Operand.tmp 3) 1, none⟩, []⟩,
  ⟨⟨some 35, Op.load 22 (Operand.tmp 34), none⟩, []⟩,
  ⟨⟨some 36, Op.move (Operand.tmp 4), none⟩, []⟩,
  ⟨⟨some 37, Op.move (Operand.tmp 5), none⟩, []⟩,
  ⟨⟨some 38, Op.build 83 #[(0, (Operand.tmp 36)), (1, (Operand.tmp 37))], none⟩, []⟩,
  ⟨⟨some 39, Op.buildSlice 22 1 #[(0, (Operand.tmp 38))], none⟩, []⟩,
  ⟨⟨some 40, Op.call { callee := (Callee.builtin Builtin.append), args := #[(Operand.tmp 35), (Operand.tmp 39)], argTypes := #[22, 22] }, none⟩, []⟩,
  ⟨⟨some 41, Op.fieldAddr 28 (Operand.tmp 3) 1, none⟩, []⟩,
  ⟨⟨none, Op.store 22 (Operand.tmp 41) (Operand.tmp 40), none⟩, []⟩]) .skip))) (.reg [⟨⟨some 21, Op.move (Operand.tmp 5), none⟩, []⟩,
  ⟨⟨some 22, Op.binOp BinOp.add 3 (Operand.tmp 21) (Operand.const (Value.int IntKind.i64 1)) 3, none⟩, []⟩,
  ⟨⟨some 5, Op.assign (Operand.tmp 22), none⟩, []⟩]))))))) (.reg [⟨⟨some 13, Op.move (Operand.tmp 4), none⟩, []⟩,
  ⟨⟨some 14, Op.binOp BinOp.add 3 (Operand.tmp 13) (Operand.const (Value.int IntKind.i64 1)) 3, none⟩, []⟩,
  ⟨⟨some 4, Op.assign (Operand.tmp 14), none⟩, []⟩])))))) (.seq (.reg [⟨⟨some 42, Op.load 28 (Operand.tmp 3), none⟩, []⟩,
  ⟨⟨none, Op.store 28 (Operand.tmp 2) (Operand.tmp 42), none⟩, []⟩]) .ret))))
theorem sl51 : slim Tryz.f51.ntmps ords51 (Tryz.f51.body.getD .skip) = some cd51 := by kernel_rfl
set_option maxRecDepth 20000 in
theorem in51 {args : List Value} {H : AH} {R : Value → AH → Prop} (hl : args.length = 1) (h : ∀ (Q : Exit → Sl → AH → Prop), (∀ e s H, endA Tryz.prog [ResultVar.cell 2 28] R e s H → Q e s H) → wpC Tryz.prog cd51 Q (enterA args) H) : ACalls Tryz.prog 51 args H R :=
  ACalls.intro (by kernel_rfl) Tryz.func51 rfl (by kernel_rfl) sl51 hl (of_decide_eq_true (by kernel_rfl)) (by kernel_rfl) h
end Go.Proofs.YtlfongfhbkefmaaGreat.Ai
namespace Go.Proofs.YtlfongfhbkefmaaGreat.Ai
open Go Go.RowKit
set_option linter.unusedVariables false
set_option linter.unusedSimpArgs false
theorem bsRowS {H0 : AH} {v : Value} {xs : List Int} (h : Row 3 H0 v xs) (K : AH) : buildSliceA Tryz.prog 26 1 [(0, v)] K = some (.slice (some ⟨K.length, 0, none⟩) 1 1, K ++ [.cells [v] 38 false]) := by
  obtain ⟨q, eq⟩ := h.shape
  rw [eq]
  exact bs1 Tryz.underlying26 cs38 ze38 ⟨by kernel_rfl, by kernel_rfl⟩ K rfl
theorem InU.app1w {P : Program} {t2 e2 e : TypeId} (hu : P.underlying t2 = some (.slice e2)) (hc : P.cellsOf e2 = 1) (hby : P.bytesOf e2 ≤ 64) (hz : zeroOk P e2 = true) {lo hi hi2 : Nat} {H : AH} {o : Nat} {us : List Value} {w : Value} {ls : List (List Int)} {l : List Int}
    (h : InU lo hi e2 e H o us ls) (hw : InI lo hi2 e H w l) (hwo : w = .slice none 0 0 ∨ rowO w ≠ o) (aw : ∀ i, i < ls.length → Apart (us.getD i undef) w) (hl2 : hi ≤ H.length) (hl3 : hi2 ≤ H.length) (hb : ls.length ≤ 1099511627775) :
    ∃ H', appendA P t2 t2 (.slice (some ⟨o, 0, none⟩) ls.length ls.length) (.slice (some ⟨H.length, 0, none⟩) 1 1) (H ++ [.cells [w] e2 false]) = some (.slice (some ⟨H.length + 1, 0, none⟩) (ls.length + 1) (ls.length + 1), H') ∧
      InU lo (H.length + 2) e2 e H' (H.length + 1) (us.take ls.length ++ [w]) (ls ++ [l]) ∧ H'.length = H.length + 2 ∧ (∀ (j : Nat) (y : AObj), j ≠ o → H[j]? = some y → H'[j]? = some y) := by
  have bb : ∀ n : Nat, n ≤ 1099511627776 → n * P.bytesOf e2 ≤ 140737488355328 := fun n hn => by
    refine Nat.le_trans (Nat.mul_le_mul_left _ hby) ?_
    omega
  have hsc : sliceCells P e2 (.slice (some ⟨H.length, 0, none⟩) 1 1) (H ++ [.cells [w] e2 false]) = some (1, [w]) := by
    simp only [sliceCells, at_new, hc]; simp
  obtain ⟨h2, h3, h4, h5, h6, h7⟩ := h
  have ho := at_lt h4
  have hlt : o < (H ++ [AObj.cells [w] e2 false]).length := by simp; omega
  have keep : ∀ (j : Nat) (y : AObj), j ≠ o → H[j]? = some y → ((H ++ [AObj.cells [w] e2 false]).set o AObj.dead ++ [AObj.cells (us.take ls.length ++ [w]) e2 false])[j]? = some y := by
    intro j y hj hy
    exact at_old (at_app hy _) (fun e => hj e.symm) _
  refine ⟨(H ++ [AObj.cells [w] e2 false]).set o AObj.dead ++ [AObj.cells (us.take ls.length ++ [w]) e2 false], ?_, ?_, by simp, keep⟩
  · have ho2 : (H ++ [AObj.cells [w] e2 false])[o]? = some (.cells us e2 false) := at_app h4 _
    simp only [appendA, hu, hc, hsc, hz, ho2]
    rw [if_pos (by simp), if_neg (by simp), if_pos ⟨trivial, by omega, bb _ (by omega), by omega, trivial⟩]
    simp
  · have hul : (us.take ls.length).length = ls.length := by simp; omega
    have uat : ∀ i, i < ls.length → (us.take ls.length ++ [w]).getD i undef = us.getD i undef := by
      intro i hi'
      rw [List.getD_eq_getElem?_getD, List.getD_eq_getElem?_getD, List.getElem?_append_left (by omega), List.getElem?_take, if_pos hi']
    have ulast : (us.take ls.length ++ [w]).getD ls.length undef = w := by
      rw [List.getD_eq_getElem?_getD, List.getElem?_append_right (by omega), hul]; simp
    have lat : ∀ i, i < ls.length → (ls ++ [l]).getD i [] = ls.getD i [] := by
      intro i hi'
      rw [List.getD_eq_getElem?_getD, List.getD_eq_getElem?_getD, List.getElem?_append_left hi']
    have llast : (ls ++ [l]).getD ls.length [] = l := by
      rw [List.getD_eq_getElem?_getD, List.getElem?_append_right (by omega)]; simp
    refine ⟨by omega, by omega, ?_, by simp; omega, ?_, ?_⟩
    · rw [List.getElem?_append_right (by simp)]; simp
    · intro i hi'
      simp only [List.length_append, List.length_cons, List.length_nil] at hi'
      by_cases hc' : i < ls.length
      · rw [uat i hc', lat i hc']
        obtain ⟨k1, k2⟩ := h6 i hc'
        refine ⟨(k1.move fun y hn hy => ?_).wide (Nat.le_refl _) (by omega), ?_⟩
        · rcases k2 with g | g
          · exact absurd g hn
          · exact keep _ _ g hy
        · rcases k1.at_ with g | g
          · exact .inl g
          · exact .inr (by omega)
      · obtain rfl : i = ls.length := by omega
        rw [ulast, llast]
        refine ⟨(hw.move fun y hn hy => ?_).wide (Nat.le_refl _) (by omega), ?_⟩
        · rcases hwo with g | g
          · exact absurd g hn
          · exact keep _ _ g hy
        · rcases hw.at_ with g | g
          · exact .inl g
          · exact .inr (by omega)
    · intro i j hij hi' hj'
      simp only [List.length_append, List.length_cons, List.length_nil] at hi' hj'
      by_cases ci : i < ls.length <;> by_cases cj : j < ls.length
      · rw [uat i ci, uat j cj]; exact h7 i j hij ci cj
      · obtain rfl : j = ls.length := by omega
        rw [uat i ci, ulast]; exact aw i ci
      · obtain rfl : i = ls.length := by omega
        rw [uat j cj, ulast]
        rcases aw j cj with g | g | g
        · exact .inr (.inl g)
        · exact .inl g
        · exact .inr (.inr fun e => g e.symm)
      · omega
set_option maxHeartbeats 2000000 in
theorem l7Ends_c (n : Int) (v : Value) (es : List (Int × Int)) (s t : Int) (H : AH) (hr : RowP 83 H v es) (hlen : es.length ≤ 1099511627776) :
    ACalls Tryz.prog 48 [.agg (List.toArray [.int .i64 n, v]), .int .i64 s, .int .i64 t] H fun r H' => r = .bool (decide (WsOk n es s t)) ∧ H <+: H' := by
  refine in48 rfl ?_
  intro Q hQ
  simp (maxSteps := 1000000) (disch := omega) only [cd48, hr.boxG, S, S1, S2, S3, S4, S5, ST, eq_self, reduceIte, reduceCtorEq, Nat.reduceEqDiff, Nat.reduceAdd]
  generalize hA : H ++ [AObj.cells [.int .i64 n, v] 31 false] = A
  have pA : H <+: A := by rw [← hA]; exact List.prefix_append _ _
  have cA : A[H.length]? = some (.cells [.int .i64 n, v] 31 false) := by rw [← hA]; exact at_new ..
  have rA := hr.pre pA
  simp (maxSteps := 1000000) (disch := omega) only [ld_agg ag31 cs31 cA, S, S1, S2, S3, S4, S5, ST, eq_self, reduceIte, reduceCtorEq, Nat.reduceEqDiff, Nat.reduceAdd]
  refine CallH.by (l2Good_c n v es A rA hlen) ?_
  rintro _ B ⟨rfl, pB⟩
  have cB := pre_at pB cA
  have pHB := pA.trans pB
  by_cases e : Grd n es
  rotate_left
  · simp (maxSteps := 1000000) (disch := omega) only [decide_eq_false e, S, S1, S2, S3, S4, S5, ST, eq_self, reduceIte, reduceCtorEq, Nat.reduceEqDiff, Nat.reduceAdd]
    refine hQ _ _ _ ?_
    simp (maxSteps := 1000000) (disch := omega) only [S, S1, S2, S3, S4, S5, ST, eq_self, reduceIte, reduceCtorEq, Nat.reduceEqDiff, Nat.reduceAdd]
    exact ⟨by rw [decide_eq_false (fun h => e h.1)], pHB⟩
  have hn := e.1
  have hw : IntKind.i64.wrap (n - 1) = n - 1 := wrap64 (by omega) (by omega)
  simp (maxSteps := 1000000) (disch := omega) only [decide_eq_true e, cell_of cB, hw, S, S1, S2, S3, S4, S5, ST, eq_self, reduceIte, reduceCtorEq, Nat.reduceEqDiff, Nat.reduceAdd]
  refine CallH.by (l1In_c s 0 (n - 1) B) ?_
  rintro _ _ ⟨rfl, rfl⟩
  by_cases e1 : 0 ≤ s ∧ s ≤ n - 1
  rotate_left
  · simp (maxSteps := 1000000) (disch := omega) only [decide_eq_false e1, S, S1, S2, S3, S4, S5, ST, eq_self, reduceIte, reduceCtorEq, Nat.reduceEqDiff, Nat.reduceAdd]
    refine hQ _ _ _ ?_
    simp (maxSteps := 1000000) (disch := omega) only [S, S1, S2, S3, S4, S5, ST, eq_self, reduceIte, reduceCtorEq, Nat.reduceEqDiff, Nat.reduceAdd]
    exact ⟨by rw [decide_eq_false (fun h => e1 ⟨h.2.1.1, by have := h.2.1.2; omega⟩)], pHB⟩
  simp (maxSteps := 1000000) (disch := omega) only [decide_eq_true e1, cell_of cB, hw, S, S1, S2, S3, S4, S5, ST, eq_self, reduceIte, reduceCtorEq, Nat.reduceEqDiff, Nat.reduceAdd]
  refine CallH.by (l1In_c t 0 (n - 1) B) ?_
  rintro _ _ ⟨rfl, rfl⟩
  simp (maxSteps := 1000000) (disch := omega) only [S, S1, S2, S3, S4, S5, ST, eq_self, reduceIte, reduceCtorEq, Nat.reduceEqDiff, Nat.reduceAdd]
  refine hQ _ _ _ ?_
  simp (maxSteps := 1000000) (disch := omega) only [S, S1, S2, S3, S4, S5, ST, eq_self, reduceIte, reduceCtorEq, Nat.reduceEqDiff, Nat.reduceAdd]
  refine ⟨?_, pHB⟩
  rw [Value.bool.injEq, decide_eq_decide]
  exact ⟨fun h => ⟨e, by omega, by omega⟩, fun h => by have := h.2.2; omega⟩
set_option maxRecDepth 20000 in
set_option maxHeartbeats 4000000 in
theorem l7Count_c (n : Int) (v vf : Value) (es : List (Int × Int)) (hg : Grd n es) (hlen : es.length ≤ 1099511627776) {far : List Int} {t : Nat} (hF : FarOk n.toNat (roadsL n.toNat es) far t) : ∀ (d x : Nat) (H : AH), x < n.toNat → far.getD x 0 = (d : Int) → RowP 83 H v es → Row 3 H vf far →
    ACalls Tryz.prog 104 [.agg (List.toArray [.int .i64 n, v]), vf, .int .i64 (x : Int)] H fun r H' => r = .int .i64 ((wN (roadsL n.toNat es) far d (x : Int) : Nat) : Int) ∧ H <+: H' := by
  intro d
  have h8 := hg.1
  have hfl := hF.fl
  induction d with
  | zero =>
    intro x H hx hd hr hf
    refine in104 rfl ?_
    intro Q hQ
    have hc := hf.cell (show x < far.length by omega)
    rw [hd] at hc
    simp (maxSteps := 1000000) (disch := omega) only [cd104, hr.boxG, S, S1, S2, S3, S4, S5, ST, eq_self, reduceIte, reduceCtorEq, Nat.reduceEqDiff, Nat.reduceAdd]
    generalize hA : H ++ [AObj.cells [.int .i64 n, v] 31 false] = A
    have pA : H <+: A := by rw [← hA]; exact List.prefix_append _ _
    have cA : A[H.length]? = some (.cells [.int .i64 n, v] 31 false) := by rw [← hA]; exact at_new ..
    have rA := hr.pre pA
    have hcA := (hf.pre pA).cell (show x < far.length by omega)
    rw [hd] at hcA
    have h00 : ((0 : Nat) : Int) = 0 := rfl
    simp (maxSteps := 1000000) (disch := omega) only [hf.ix Tryz.underlying38 cs3, Int.toNat_natCast, hcA, decide_eq_true h00, S, S1, S2, S3, S4, S5, ST, eq_self, reduceIte, reduceCtorEq, Nat.reduceEqDiff, Nat.reduceAdd]
    refine hQ _ _ _ ?_
    simp (maxSteps := 1000000) (disch := omega) only [S, S1, S2, S3, S4, S5, ST, eq_self, reduceIte, reduceCtorEq, Nat.reduceEqDiff, Nat.reduceAdd]
    exact ⟨rfl, pA⟩
  | succ d ih =>
    intro x H hx hd hr hf
    have h9 := hF.nine (by omega) hx hd
    have hdb := hF.lo x hx
    rw [hd] at hdb
    refine in104 rfl ?_
    intro Q hQ
    simp (maxSteps := 1000000) (disch := omega) only [cd104, hr.boxG, S, S1, S2, S3, S4, S5, ST, eq_self, reduceIte, reduceCtorEq, Nat.reduceEqDiff, Nat.reduceAdd]
    generalize hA : H ++ [AObj.cells [.int .i64 n, v] 31 false] = A
    have pA : H <+: A := by rw [← hA]; exact List.prefix_append _ _
    have cA : A[H.length]? = some (.cells [.int .i64 n, v] 31 false) := by rw [← hA]; exact at_new ..
    have rA := hr.pre pA
    have hcA := (hf.pre pA).cell (show x < far.length by omega)
    rw [hd] at hcA
    have hne : ¬ (((d + 1 : Nat) : Int) = 0) := by omega
    simp (maxSteps := 1000000) (disch := omega) only [hf.ix Tryz.underlying38 cs3, Int.toNat_natCast, hcA, decide_eq_false hne, ld_agg ag31 cs31 cA, S, S1, S2, S3, S4, S5, ST, eq_self, reduceIte, reduceCtorEq, Nat.reduceEqDiff, Nat.reduceAdd]
    refine CallH.by (l2Neighbors_c n v es (x : Int) A rA hlen h8) ?_
    rintro w B ⟨hw, pB⟩
    rw [← roadsL_at n.toNat es x hx] at hw
    have eN : wN (roadsL n.toNat es) far (d + 1) (x : Int) = wNT far (wN (roadsL n.toNat es) far d) (d : Int) ((roadsL n.toNat es).getD x []) := by rw [wN, Int.toNat_natCast]
    rw [eN] at hQ h9
    have hlx := hF.lok x
    have hsm := roadsL_small n.toNat es (by omega) x
    have hw0 := hw.row
    generalize roadsL n.toNat es = L at *
    generalize hxs : L.getD x [] = xs at *
    have pHB := pA.trans pB
    simp (maxSteps := 1000000) (disch := omega) only [S, S1, S2, S3, S4, S5, ST, eq_self, reduceIte, reduceCtorEq, Nat.reduceEqDiff, Nat.reduceAdd]
    refine LoopH.by (fun m s H' => ∃ (k : Nat), m + k = xs.length ∧ s 1 = vf ∧ s 2 = .int .i64 (x : Int) ∧ s 3 = .pointer (some ⟨H.length, 0, none⟩) ∧ s 7 = .int .i64 ((wNT far (wN L far d) (d : Int) (xs.take k) : Nat) : Int) ∧ s 8 = w ∧ s 9 = .int .i64 ((k : Nat) : Int) ∧ B <+: H') xs.length ?_ ?_
    · exact ⟨0, by simp, rfl, rfl, rfl, rfl, rfl, rfl, List.prefix_refl _⟩
    rintro m s H' ⟨k, hm, h1, h2, h3, h7, h8s, h9s, pp⟩
    have hwH := hw0.pre pp
    have hfH := hf.pre (pHB.trans pp)
    have cH := pre_at (pB.trans pp) cA
    simp (maxSteps := 1000000) (disch := omega) only [h1, h2, h3, h7, h8s, h9s, hwH.len Tryz.underlying38, S, S1, S2, S3, S4, S5, ST, eq_self, reduceIte, reduceCtorEq, Nat.reduceEqDiff, Nat.reduceAdd]
    refine brD.intro (fun g => ?_) (fun g => ?_)
    rotate_left
    · have hk : k = xs.length := by omega
      subst hk
      simp (maxSteps := 1000000) (disch := omega) only [h7, S, S1, S2, S3, S4, S5, ST, eq_self, reduceIte, reduceCtorEq, Nat.reduceEqDiff, Nat.reduceAdd]
      refine hQ _ _ _ ?_
      simp (maxSteps := 1000000) (disch := omega) only [S, S1, S2, S3, S4, S5, ST, eq_self, reduceIte, reduceCtorEq, Nat.reduceEqDiff, Nat.reduceAdd]
      rw [List.take_length]
      exact ⟨rfl, pHB.trans pp⟩
    have hk : k < xs.length := by omega
    have hym : xs.getD k 0 ∈ xs := by simp [hk]
    have hyr := hlx _ hym
    have hck := hwH.cell hk
    have htk : xs.take (k + 1) = xs.take k ++ [xs.getD k 0] := by
      rw [List.take_add_one, List.getElem?_eq_getElem hk]
      simp [hk]
    have htot : wNT far (wN L far d) (d : Int) (xs.take (k + 1)) ≤ 9 := by
      refine Nat.le_trans ?_ h9
      conv => rhs; rw [← List.take_append_drop (k + 1) xs]
      rw [wNT_append]; omega
    obtain ⟨y, hy⟩ : ∃ y : Nat, xs.getD k 0 = y := ⟨(xs.getD k 0).toNat, by omega⟩
    rw [hy] at hck hyr htk
    have hstep : wNT far (wN L far d) (d : Int) (xs.take (k + 1)) = wNT far (wN L far d) (d : Int) (xs.take k) + if far.getD y 0 = (d : Int) then wN L far d (y : Int) else 0 := by
      rw [htk, wNT_append]
      simp only [wNT, Int.toNat_natCast, Nat.add_zero]
    have hcy := hfH.cell (show y < far.length by omega)
    have hcx := hfH.cell (show x < far.length by omega)
    rw [hd] at hcx
    have hw1 : IntKind.i64.wrap (((d + 1 : Nat) : Int) - 1) = (d : Int) := by rw [wrap64 (by omega) (by omega)]; omega
    have hgt : (0 : Int) < ((d + 1 : Nat) : Int) := by omega
    simp (maxSteps := 1000000) (disch := omega) only [h1, h2, h3, h7, h8s, h9s, hwH.ix Tryz.underlying38 cs3, hfH.ix Tryz.underlying38 cs3, Int.toNat_natCast, hck, hcx, hcy, decide_eq_true hgt, hw1, S, S1, S2, S3, S4, S5, ST, eq_self, reduceIte, reduceCtorEq, Nat.reduceEqDiff, Nat.reduceAdd]
    by_cases e : far.getD y 0 = (d : Int)
    · rw [if_pos e] at hstep
      simp (maxSteps := 1000000) (disch := omega) only [decide_eq_true e, h1, h2, h3, h7, h8s, h9s, hwH.ix Tryz.underlying38 cs3, Int.toNat_natCast, hck, ld_agg ag31 cs31 cH, S, S1, S2, S3, S4, S5, ST, eq_self, reduceIte, reduceCtorEq, Nat.reduceEqDiff, Nat.reduceAdd]
      refine CallH.by (ih y H' (by omega) e (hr.pre (pHB.trans pp)) hfH) ?_
      rintro _ K ⟨rfl, pK⟩
      have hwr : IntKind.i64.wrap (((wNT far (wN L far d) (d : Int) (xs.take k) : Nat) : Int) + ((wN L far d (y : Int) : Nat) : Int)) = ((wNT far (wN L far d) (d : Int) (xs.take (k + 1)) : Nat) : Int) := by
        rw [wrap64 (by omega) (by omega)]; omega
      have pK2 := pp.trans pK
      simp (maxSteps := 1000000) (disch := omega) only [h1, h2, h3, h7, h8s, h9s, hwr, wrap64, S, S1, S2, S3, S4, S5, ST, eq_self, reduceIte, reduceCtorEq, Nat.reduceEqDiff, Nat.reduceAdd]
      refine ⟨m - 1, by omega, k + 1, ?_⟩
      (repeat' first | exact pK2 | apply And.intro) <;> first | (simp only [Value.int.injEq, true_and]; omega) | omega | rfl | assumption | (simp; done) | (simp; omega)
    · rw [if_neg e, Nat.add_zero] at hstep
      simp (maxSteps := 1000000) (disch := omega) only [decide_eq_false e, h1, h2, h3, h7, h8s, h9s, ← hstep, wrap64, S, S1, S2, S3, S4, S5, ST, eq_self, reduceIte, reduceCtorEq, Nat.reduceEqDiff, Nat.reduceAdd]
      refine ⟨m - 1, by omega, k + 1, ?_⟩
      (repeat' first | exact pp | apply And.intro) <;> first | (simp only [Value.int.injEq, true_and]; omega) | omega | rfl | assumption | (simp; done) | (simp; omega)
set_option maxRecDepth 20000 in
set_option maxHeartbeats 4000000 in
theorem l7More_c (n : Int) (v vf : Value) (es : List (Int × Int)) (hg : Grd n es) (hlen : es.length ≤ 1099511627776) {far : List Int} {t : Nat} (hF : FarOk n.toNat (roadsL n.toNat es) far t) (B0 : AH) (hr : RowP 83 B0 v es) (hf : Row 3 B0 vf far) :
    ∀ (d x : Nat) (w : Value) (b : List Int) (o hi : Nat) (us : List Value) (ls : List (List Int)) (H : AH), x < n.toNat → far.getD x 0 = (d : Int) → 0 < b.length → b.length + d ≤ 100 → b.getD (b.length - 1) 0 = (x : Int) → InI B0.length H.length 3 H w b → (w = .slice none 0 0 ∨ rowO w ≠ o) → (∀ i, i < ls.length → Apart (us.getD i undef) w) → InU B0.length hi 38 3 H o us ls → hi ≤ H.length → B0 <+: H → ls.length + wN (roadsL n.toNat es) far d (x : Int) ≤ 1000000 →
    ACalls Tryz.prog 105 [.agg (List.toArray [.int .i64 n, v]), vf, w, .slice (some ⟨o, 0, none⟩) ls.length ls.length] H fun r H' => ∃ o' us', r = .slice (some ⟨o', 0, none⟩) (ls ++ wA (roadsL n.toNat es) far d (x : Int) b).length (ls ++ wA (roadsL n.toNat es) far d (x : Int) b).length ∧ InU B0.length H'.length 38 3 H' o' us' (ls ++ wA (roadsL n.toNat es) far d (x : Int) b) ∧
      (∀ (j : Nat) (y : AObj), j ≠ o → H[j]? = some y → H'[j]? = some y) ∧ H.length ≤ H'.length ∧ (o' = o ∨ H.length ≤ o') := by
  intro d
  have h8 := hg.1
  have hfl := hF.fl
  induction d with
  | zero =>
    intro x w b o hi us ls H hx hd hb hbd hbx hwi hwo hwa hin hhi pB0 hls
    refine in105 rfl ?_
    intro Q hQ
    have hw := hwi.row.1
    have hrH := hr.pre pB0
    have hfH := hf.pre pB0
    have hls' : ls.length + 1 ≤ 1000000 := hls
    simp (maxSteps := 1000000) (disch := omega) only [cd105, hrH.boxG, S, S1, S2, S3, S4, S5, ST, eq_self, reduceIte, reduceCtorEq, Nat.reduceEqDiff, Nat.reduceAdd]
    generalize hA : H ++ [AObj.cells [.int .i64 n, v] 31 false] = A
    have pA : H <+: A := by rw [← hA]; exact List.prefix_append _ _
    have cA : A[H.length]? = some (.cells [.int .i64 n, v] 31 false) := by rw [← hA]; exact at_new ..
    have rA := hrH.pre pA
    have hwA := hw.pre pA
    have hcb := hwA.cell (show b.length - 1 < b.length by omega)
    rw [hbx] at hcb
    have hcA := (hfH.pre pA).cell (show x < far.length by omega)
    rw [hd] at hcA
    have hw1 : IntKind.i64.wrap ((b.length : Int) - 1) = ((b.length - 1 : Nat) : Int) := by rw [wrap64 (by omega) (by omega)]; omega
    have lA : A.length = H.length + 1 := by rw [← hA]; simp
    have hwi2 : InI B0.length A.length 3 A w b := (hwi.move fun y _ hy => pre_at pA hy).wide (Nat.le_refl _) (by omega)
    have hlo := hin.1
    have hlo2 := hin.2.1
    obtain ⟨H3, k1, k2, k3, k4⟩ := (hin.pre pA).app1w (P := Tryz.prog) (t2 := 26) Tryz.underlying26 cs38 (by rw [by38]; decide) zk38 hwi2 hwo hwa (by omega) (Nat.le_refl _) (by omega)
    have h00 : ((0 : Nat) : Int) = 0 := rfl
    simp (maxSteps := 1000000) (disch := omega) only [hwA.len Tryz.underlying38, hw1, hwA.ix Tryz.underlying38 cs3, Int.toNat_natCast, hcb, hfH.ix Tryz.underlying38 cs3, hcA, decide_eq_true h00, bsRowS hwA A, k1, S, S1, S2, S3, S4, S5, ST, eq_self, reduceIte, reduceCtorEq, Nat.reduceEqDiff, Nat.reduceAdd]
    refine hQ _ _ _ ?_
    simp (maxSteps := 1000000) (disch := omega) only [S, S1, S2, S3, S4, S5, ST, eq_self, reduceIte, reduceCtorEq, Nat.reduceEqDiff, Nat.reduceAdd]
    have e : wA (roadsL n.toNat es) far 0 (x : Int) b = [b] := rfl
    rw [e]
    refine ⟨A.length + 1, us.take ls.length ++ [w], by simp, by rw [k3]; exact k2, fun j y hj hy => k4 j y hj (pre_at pA hy), by omega, by omega⟩
  | succ d ih =>
    intro x w b o hi us ls H hx hd hb hbd hbx hwi hwo hwa hin hhi pB0 hls
    refine in105 rfl ?_
    intro Q hQ
    have hw := hwi.row.1
    have hrH := hr.pre pB0
    have hfH := hf.pre pB0
    simp (maxSteps := 1000000) (disch := omega) only [cd105, hrH.boxG, S, S1, S2, S3, S4, S5, ST, eq_self, reduceIte, reduceCtorEq, Nat.reduceEqDiff, Nat.reduceAdd]
    generalize hA : H ++ [AObj.cells [.int .i64 n, v] 31 false] = A
    have pA : H <+: A := by rw [← hA]; exact List.prefix_append _ _
    have cA : A[H.length]? = some (.cells [.int .i64 n, v] 31 false) := by rw [← hA]; exact at_new ..
    have rA := hrH.pre pA
    have hwA := hw.pre pA
    have hcb := hwA.cell (show b.length - 1 < b.length by omega)
    rw [hbx] at hcb
    have hcA := (hfH.pre pA).cell (show x < far.length by omega)
    rw [hd] at hcA
    have hw1 : IntKind.i64.wrap ((b.length : Int) - 1) = ((b.length - 1 : Nat) : Int) := by rw [wrap64 (by omega) (by omega)]; omega
    have lA : A.length = H.length + 1 := by rw [← hA]; simp
    have hne : ¬ (((d + 1 : Nat) : Int) = 0) := by omega
    have hlo := hin.1
    have hlo2 := hin.2.1
    simp (maxSteps := 1000000) (disch := omega) only [hwA.len Tryz.underlying38, hw1, hwA.ix Tryz.underlying38 cs3, Int.toNat_natCast, hcb, hfH.ix Tryz.underlying38 cs3, hcA, decide_eq_false hne, ld_agg ag31 cs31 cA, S, S1, S2, S3, S4, S5, ST, eq_self, reduceIte, reduceCtorEq, Nat.reduceEqDiff, Nat.reduceAdd]
    refine CallH.by (l2Neighbors_c n v es (x : Int) A rA hlen h8) ?_
    rintro nb B ⟨hnb, pB⟩
    rw [← roadsL_at n.toNat es x hx] at hnb
    have eN : wN (roadsL n.toNat es) far (d + 1) (x : Int) = wNT far (wN (roadsL n.toNat es) far d) (d : Int) ((roadsL n.toNat es).getD x []) := by rw [wN, Int.toNat_natCast]
    have eM : wA (roadsL n.toNat es) far (d + 1) (x : Int) b = wT far (wA (roadsL n.toNat es) far d) (d : Int) b ((roadsL n.toNat es).getD x []) := by rw [wA, Int.toNat_natCast]
    rw [eM] at hQ
    rw [eN] at hls
    have hlx := hF.lok x
    have hsm := roadsL_small n.toNat es (by omega) x
    generalize roadsL n.toNat es = L at *
    generalize hxs : L.getD x [] = xs at *
    have pHB := pA.trans pB
    have lB := pB.length_le
    have cB := pre_at pB cA
    have hnO : nb = .slice none 0 0 ∨ (A.length ≤ rowO nb ∧ rowO nb < B.length) := by
      rcases InI.of hnb.mine with q | ⟨oo, zs, q1, q2, q3, _⟩
      · exact .inl q.1
      · right; rw [q1]; exact ⟨q2, q3⟩
    have hwO := hwo
    have hnb0 := hnb.row
    have hinB := (hin.pre pHB).wide (Nat.le_refl _) (show hi ≤ B.length by omega)
    have hb0 : b.length ≤ 100 := by omega
    simp (maxSteps := 1000000) (disch := omega) only [S, S1, S2, S3, S4, S5, ST, eq_self, reduceIte, reduceCtorEq, Nat.reduceEqDiff, Nat.reduceAdd]
    refine LoopH.by (fun m s H' => ∃ (k o' : Nat) (us' : List Value) (ls' : List (List Int)), m + k = xs.length ∧ s 1 = vf ∧ s 2 = w ∧ s 3 = .slice (some ⟨o', 0, none⟩) ls'.length ls'.length ∧ s 4 = .pointer (some ⟨H.length, 0, none⟩) ∧ s 9 = .int .i64 (x : Int) ∧ s 10 = nb ∧ s 11 = .int .i64 ((k : Nat) : Int) ∧
      ls' ++ wT far (wA L far d) (d : Int) b (xs.drop k) = ls ++ wT far (wA L far d) (d : Int) b xs ∧ ls'.length + wNT far (wN L far d) (d : Int) (xs.drop k) ≤ 1000000 ∧ InU B0.length H'.length 38 3 H' o' us' ls' ∧ (o' = o ∨ B.length ≤ o') ∧ (∀ (j : Nat) (y : AObj), j ≠ o → B[j]? = some y → H'[j]? = some y) ∧ B.length ≤ H'.length) xs.length ?_ ?_
    · exact ⟨0, o, us, ls, by simp, rfl, rfl, rfl, rfl, rfl, rfl, rfl, rfl, hls, hinB, .inl rfl, fun j y _ hy => hy, Nat.le_refl _⟩
    rintro m s H' ⟨k, o', us', ls', hm, h1, h2, h3, h4, h9, h10, h11, hT, hl', hin', ho', hk, hAl⟩
    have hkA : Kept (.slice (some ⟨o, 0, none⟩) 0 0) B H' := fun j y hj hy => by
      rcases hj with hj | hj
      · cases hj
      · exact hk j y hj hy
    have hoB : o < hi := hlo2
    have apw : Apart w (.slice (some ⟨o, 0, none⟩) 0 0) := by
      rcases hwO with q | q
      · exact .inr (.inl q)
      · refine .inr (.inr ?_)
        show rowO w ≠ o
        exact q
    have apn : Apart nb (.slice (some ⟨o, 0, none⟩) 0 0) := by
      rcases hnO with q | q
      · exact .inr (.inl q)
      · refine .inr (.inr ?_)
        show rowO nb ≠ o
        omega
    have hw' : Row 3 H' w b := (hw.pre pHB).kept apw hkA
    have hn' : Row 3 H' nb xs := hnb0.kept apn hkA
    have pB0H : B0 <+: H' := prefix_of fun j y hy => hk j y (by have := at_lt hy; omega) (pre_at (pB0.trans pHB) hy)
    have hf' := hf.pre pB0H
    have cH : H'[H.length]? = some (.cells [.int .i64 n, v] 31 false) := hk _ _ (by omega) cB
    simp (maxSteps := 1000000) (disch := omega) only [h1, h2, h3, h4, h9, h10, h11, hn'.len Tryz.underlying38, S, S1, S2, S3, S4, S5, ST, eq_self, reduceIte, reduceCtorEq, Nat.reduceEqDiff, Nat.reduceAdd]
    refine brD.intro (fun g1 => ?_) (fun g1 => ?_)
    rotate_left
    · simp (maxSteps := 1000000) (disch := omega) only [h3, S, S1, S2, S3, S4, S5, ST, eq_self, reduceIte, reduceCtorEq, Nat.reduceEqDiff, Nat.reduceAdd]
      refine hQ _ _ _ ?_
      simp (maxSteps := 1000000) (disch := omega) only [S, S1, S2, S3, S4, S5, ST, eq_self, reduceIte, reduceCtorEq, Nat.reduceEqDiff, Nat.reduceAdd]
      have hk0 : k = xs.length := by omega
      subst hk0
      rw [List.drop_length] at hT
      have e0 : ls' = ls ++ wT far (wA L far d) (d : Int) b xs := by rw [← hT]; simp [wT]
      rw [← e0]
      exact ⟨o', us', rfl, hin', fun j y hj hy => hk j y hj (pre_at pHB hy), by omega, by omega⟩
    have hk1 : k < xs.length := by omega
    have hym : xs.getD k 0 ∈ xs := by simp [hk1]
    have hyr := hlx _ hym
    have hck := hn'.cell hk1
    obtain ⟨y, hy⟩ : ∃ y : Nat, xs.getD k 0 = y := ⟨(xs.getD k 0).toNat, by omega⟩
    rw [hy] at hck hyr
    have hdrop : xs.drop k = (y : Int) :: xs.drop (k + 1) := by
      rw [List.drop_eq_getElem_cons hk1]
      congr 1
      rw [← hy]; simp [hk1]
    rw [hdrop, wT, Int.toNat_natCast] at hT
    rw [hdrop, wNT, Int.toNat_natCast] at hl'
    have hcy := hf'.cell (show y < far.length by omega)
    have hcx := hf'.cell (show x < far.length by omega)
    rw [hd] at hcx
    have hw2 : IntKind.i64.wrap (((d + 1 : Nat) : Int) - 1) = (d : Int) := by rw [wrap64 (by omega) (by omega)]; omega
    simp (maxSteps := 1000000) (disch := omega) only [h1, h2, h3, h4, h9, h10, h11, hn'.ix Tryz.underlying38 cs3, hf'.ix Tryz.underlying38 cs3, Int.toNat_natCast, hck, hcx, hcy, hw2, S, S1, S2, S3, S4, S5, ST, eq_self, reduceIte, reduceCtorEq, Nat.reduceEqDiff, Nat.reduceAdd]
    by_cases e : far.getD y 0 = (d : Int)
    · rw [if_pos e] at hT hl'
      simp (maxSteps := 1000000) (disch := omega) only [decide_eq_true e, h1, h2, h3, h4, h9, h10, h11, hn'.ix Tryz.underlying38 cs3, Int.toNat_natCast, hck, ld_agg ag31 cs31 cH, S, S1, S2, S3, S4, S5, ST, eq_self, reduceIte, reduceCtorEq, Nat.reduceEqDiff, Nat.reduceAdd]
      generalize hG2 : H' ++ [AObj.cells [.int .i64 (y : Int)] 3 false] = G2
      have pG2 : H' <+: G2 := by rw [← hG2]; exact List.prefix_append _ _
      have at1 : G2[H'.length]? = some (.cells [.int .i64 (y : Int)] 3 false) := by rw [← hG2]; exact at_new ..
      have lG2 : G2.length = H'.length + 1 := by rw [← hG2]; simp
      refine CallH.by (l1Own_c w b G2 (hw'.pre pG2) (by omega)) ?_
      rintro w1 C ⟨hc, pC⟩
      have hx1 : Row 3 C (.slice (some ⟨H'.length, 0, none⟩) 1 1) [(y : Int)] := .inr ⟨H'.length, 0, [.int .i64 (y : Int)], false, rfl, pre_at pC at1, by simp, rfl⟩
      have hkeq : C[H'.length]? = G2[H'.length]? := by rw [pre_at pC at1, at1]
      obtain ⟨v', H2, j1, j2, j3, j4, j5⟩ := hc.app (P := Tryz.prog) (t := 38) Tryz.underlying38 cs3 (by rw [by3]; decide) zk3 hx1 pC (by simp only [List.length_cons, List.length_nil]; omega)
      have hckC := (hn'.pre (pG2.trans pC)).cell hk1
      rw [hy] at hckC
      have lH2 := j3.length_le
      have lC := pC.length_le
      have ho1 := hin'.2.1
      have hin0 := InI.of j2.mine
      have lB0 := pB0H.length_le
      have hinw := hin0.wide (show B0.length ≤ G2.length by omega) (Nat.le_refl _)
      have hvo : v' = .slice none 0 0 ∨ rowO v' ≠ o' := by
        rcases hin0.at_ with q | q
        · exact .inl q
        · right; omega
      have hva : ∀ i, i < ls'.length → Apart (us'.getD i undef) v' := fun i hi' => by
        rcases (hin'.2.2.2.2.1 i hi').1.at_ with q | q
        · exact .inr (.inl q)
        · rcases hin0.at_ with q2 | q2
          · exact .inl q2
          · exact .inr (.inr (by omega))
      have j3' := pG2.trans j3
      have hinH := hin'.pre j3'
      have hlast : (b ++ [(y : Int)]).getD ((b ++ [(y : Int)]).length - 1) 0 = (y : Int) := by simp
      have hrec := ih y v' (b ++ [(y : Int)]) o' H'.length us' ls' H2 (by omega) e (by simp) (by simp; omega) hlast hinw hvo hva hinH (by omega) (pB0H.trans j3') (by omega)
      simp (maxSteps := 1000000) (disch := omega) only [h1, h2, h3, h4, h9, h10, h11, hn'.ix Tryz.underlying38 cs3, Int.toNat_natCast, hck, ld_agg ag31 cs31 cH, ld_agg ag31 cs31 (pre_at pG2 cH), ld_agg ag31 cs31 (pre_at (pG2.trans pC) cH), ld_agg ag31 cs31 (pre_at j3' cH), hkeq, hckC, j1, S, S1, S2, S3, S4, S5, ST, eq_self, reduceIte, reduceCtorEq, Nat.reduceEqDiff, Nat.reduceAdd]
      refine CallH.by hrec ?_
      rintro _ H3 ⟨o2, us2, rfl, i1, i2, i3, i4⟩
      have f1 : o2 = o ∨ B.length ≤ o2 := by omega
      have f2 : ∀ (j : Nat) (y : AObj), j ≠ o → B[j]? = some y → H3[j]? = some y := fun j y hj hy => by
        refine i2 j y ?_ (pre_at j3' (hk j y hj hy))
        rcases ho' with q1 | q1
        · rw [q1]; exact hj
        · have := at_lt hy; omega
      have f3 : (ls' ++ wA L far d (y : Int) (b ++ [(y : Int)])).length + wNT far (wN L far d) (d : Int) (xs.drop (k + 1)) ≤ 1000000 := by rw [List.length_append, wA_len]; omega
      have f4 : (ls' ++ wA L far d (y : Int) (b ++ [(y : Int)])) ++ wT far (wA L far d) (d : Int) b (xs.drop (k + 1)) = ls ++ wT far (wA L far d) (d : Int) b xs := by rw [← hT, List.append_assoc]
      have f5 : B.length ≤ H3.length := by omega
      simp (maxSteps := 1000000) (disch := omega) only [h1, h2, h3, h4, h9, h10, h11, wrap64, S, S1, S2, S3, S4, S5, ST, eq_self, reduceIte, reduceCtorEq, Nat.reduceEqDiff, Nat.reduceAdd]
      refine ⟨m - 1, by omega, k + 1, o2, us2, ls' ++ wA L far d (y : Int) (b ++ [(y : Int)]), ?_⟩
      (repeat' first | exact f4 | exact f3 | exact i1 | exact f1 | exact f2 | exact f5 | apply And.intro) <;> first | (simp only [Value.int.injEq, true_and]; omega) | omega | rfl | assumption | (simp; done) | (simp; omega)
    · rw [if_neg e, List.nil_append] at hT
      rw [if_neg e, Nat.zero_add] at hl'
      simp (maxSteps := 1000000) (disch := omega) only [decide_eq_false e, h1, h2, h3, h4, h9, h10, h11, wrap64, S, S1, S2, S3, S4, S5, ST, eq_self, reduceIte, reduceCtorEq, Nat.reduceEqDiff, Nat.reduceAdd]
      refine ⟨m - 1, by omega, k + 1, o', us', ls', ?_⟩
      (repeat' first | exact hT | exact hl' | exact hin' | exact ho' | exact hk | exact hAl | apply And.intro) <;> first | (simp only [Value.int.injEq, true_and]; omega) | omega | rfl | assumption | (simp; done) | (simp; omega)
set_option maxRecDepth 20000 in
set_option maxHeartbeats 4000000 in
theorem l7Ways_c (n : Int) (v : Value) (es : List (Int × Int)) (s t : Int) (H : AH) (hr : RowP 83 H v es) (hlen : es.length ≤ 1099511627776) (hw : WsOk n es s t) :
    ACalls Tryz.prog 52 [.agg (List.toArray [.int .i64 n, v]), .int .i64 s, .int .i64 t] H fun r H' => InL H.length H'.length 38 3 H' r (wsL n es s t) ∧ H <+: H' := by
  have hF := farG_ok hw
  obtain ⟨hg, hs, ht⟩ := hw
  have h8 := hg.1
  obtain ⟨sN, rfl⟩ : ∃ k : Nat, s = k := ⟨s.toNat, by omega⟩
  obtain ⟨tN, rfl⟩ : ∃ k : Nat, t = k := ⟨t.toNat, by omega⟩
  have hWs : wsL n es (sN : Int) (tN : Int) = if 0 ≤ (farG n es (tN : Int)).getD sN 0 then wA (roadsL n.toNat es) (farG n es (tN : Int)) ((farG n es (tN : Int)).getD sN 0).toNat (sN : Int) [(sN : Int)] else [] := by
    unfold wsL
    rw [Int.toNat_natCast]
    by_cases e : 0 ≤ (farG n es (tN : Int)).getD sN 0
    · rw [if_pos ⟨⟨hg, hs, ht⟩, e⟩, if_pos e]
    · rw [if_neg (fun q => e q.2), if_neg e]
  refine in52 rfl ?_
  intro Q hQ
  rw [hWs] at hQ
  simp (maxSteps := 1000000) (disch := omega) only [cd52, hr.boxG, S, S1, S2, S3, S4, S5, ST, eq_self, reduceIte, reduceCtorEq, Nat.reduceEqDiff, Nat.reduceAdd]
  generalize hA : H ++ [AObj.cells [.int .i64 n, v] 31 false] = A
  have pA : H <+: A := by rw [← hA]; exact List.prefix_append _ _
  have cA : A[H.length]? = some (.cells [.int .i64 n, v] 31 false) := by rw [← hA]; exact at_new ..
  have rA := hr.pre pA
  simp (maxSteps := 1000000) (disch := omega) only [ld_agg ag31 cs31 cA, S, S1, S2, S3, S4, S5, ST, eq_self, reduceIte, reduceCtorEq, Nat.reduceEqDiff, Nat.reduceAdd]
  refine CallH.by (l3Far_c n v es tN A rA hlen h8 (by omega)) ?_
  rintro vf B ⟨hf, pB⟩
  have hfar : farG n es (tN : Int) = bfs (roadsL n.toNat es) tN := by unfold farG; rw [Int.toNat_natCast]
  rw [Int.toNat_natCast] at hF
  rw [← hfar] at hf
  have hb := hF.lo sN (by omega)
  have hfl := hF.fl
  generalize farG n es (tN : Int) = far at *
  have hcs := hf.row.cell (show sN < far.length by omega)
  have cB := pre_at pB cA
  have pHB := pA.trans pB
  simp (maxSteps := 1000000) (disch := omega) only [hf.row.ix Tryz.underlying38 cs3, Int.toNat_natCast, hcs, S, S1, S2, S3, S4, S5, ST, eq_self, reduceIte, reduceCtorEq, Nat.reduceEqDiff, Nat.reduceAdd]
  by_cases e : far.getD sN 0 < 0
  · simp (maxSteps := 1000000) (disch := omega) only [decide_eq_true e, S, S1, S2, S3, S4, S5, ST, eq_self, reduceIte, reduceCtorEq, Nat.reduceEqDiff, Nat.reduceAdd]
    refine hQ _ _ _ ?_
    simp (maxSteps := 1000000) (disch := omega) only [S, S1, S2, S3, S4, S5, ST, eq_self, reduceIte, reduceCtorEq, Nat.reduceEqDiff, Nat.reduceAdd]
    rw [if_neg (by omega)]
    have u0 := InU.new H.length 38 3 B pHB.length_le
    refine ⟨?_, pre_app pHB _⟩
    have := u0.inl
    simpa using this
  rw [if_pos (by omega)] at hQ
  obtain ⟨d, hd⟩ : ∃ d : Nat, far.getD sN 0 = d := ⟨(far.getD sN 0).toNat, by omega⟩
  rw [hd, Int.toNat_natCast] at hQ
  have h9 := hF.nine (by omega) (show sN < n.toNat by omega) hd
  rw [hd] at hb
  simp (maxSteps := 1000000) (disch := omega) only [decide_eq_false e, ld_agg ag31 cs31 cB, S, S1, S2, S3, S4, S5, ST, eq_self, reduceIte, reduceCtorEq, Nat.reduceEqDiff, Nat.reduceAdd]
  refine CallH.by (l7Count_c n v vf es hg hlen hF d sN B (by omega) hd (rA.pre pB) hf.row) ?_
  rintro _ C ⟨rfl, pC⟩
  have cC := pre_at pC cB
  have h300 : ¬ (300 : Int) < ((wN (roadsL n.toNat es) far d (sN : Int) : Nat) : Int) := by omega
  simp (maxSteps := 1000000) (disch := omega) only [decide_eq_false h300, ld_agg ag31 cs31 cC, S, S1, S2, S3, S4, S5, ST, eq_self, reduceIte, reduceCtorEq, Nat.reduceEqDiff, Nat.reduceAdd]
  generalize hD : C ++ [AObj.cells [.int .i64 (sN : Int)] 3 false] = D
  have pD : C <+: D := by rw [← hD]; exact List.prefix_append _ _
  have cD : D[C.length]? = some (.cells (ints [(sN : Int)]) 3 false) := by rw [← hD]; exact at_new ..
  have lD : D.length = C.length + 1 := by rw [← hD]; simp
  generalize hE : D ++ [AObj.cells [] 38 false] = E
  have pE : D <+: E := by rw [← hE]; exact List.prefix_append _ _
  have cE : E[D.length]? = some (.cells [] 38 false) := by rw [← hE]; exact at_new ..
  have lE : E.length = D.length + 1 := by rw [← hE]; simp
  have pBE := pC.trans (pD.trans pE)
  have lC := pC.length_le
  have hwi : InI B.length E.length 3 E (.slice (some ⟨C.length, 0, none⟩) 1 1) [(sN : Int)] := .inr ⟨C.length, [(sN : Int)], rfl, lC, by omega, pre_at pE cD, rfl⟩
  have hin : InU B.length E.length 38 3 E D.length [] [] := ⟨by omega, by omega, cE, Nat.le_refl _, fun i hi => absurd hi (by simp), fun i j _ hi _ => absurd hi (by simp)⟩
  refine CallH.by (l7More_c n v vf es hg hlen hF B (rA.pre pB) hf.row d sN (.slice (some ⟨C.length, 0, none⟩) 1 1) [(sN : Int)] D.length E.length [] [] E (by omega) hd (by simp) (by simp; omega) rfl hwi (.inr (by show C.length ≠ D.length; omega)) (fun i hi => absurd hi (by simp)) hin (Nat.le_refl _) pBE (by simp; omega)) ?_
  rintro _ G ⟨o', us', rfl, i1, i2, i3, i4⟩
  simp (maxSteps := 1000000) (disch := omega) only [S, S1, S2, S3, S4, S5, ST, eq_self, reduceIte, reduceCtorEq, Nat.reduceEqDiff, Nat.reduceAdd]
  refine hQ _ _ _ ?_
  simp (maxSteps := 1000000) (disch := omega) only [S, S1, S2, S3, S4, S5, ST, eq_self, reduceIte, reduceCtorEq, Nat.reduceEqDiff, Nat.reduceAdd]
  have lHB := pHB.length_le
  rw [List.nil_append] at i1
  refine ⟨i1.inl.wide lHB (Nat.le_refl _), pHB.trans (prefix_of fun j y hy => i2 j y (by have := at_lt hy; omega) (pre_at pBE hy))⟩
set_option maxRecDepth 20000 in
set_option maxHeartbeats 8000000 in
theorem l7Turns_c {H : AH} {a : Value} {ls : List (List Int)} {lo : Nat} (hL : InL lo H.length 38 3 H a ls) (h9 : ls.length ≤ 9) {len : Nat} (hlen : len ≤ 8) (hk : ∀ l ∈ ls, l.length = len) :
    ACalls Tryz.prog 51 [a] H fun r H' => ∃ b, r = .agg (List.toArray [a, b]) ∧ InP H.length H'.length 83 H' b (steps chB ls) ∧ H <+: H' := by
  refine in51 rfl ?_
  intro Q hQ
  obtain ⟨us, r1, r2, r3⟩ := hL.parts
  obtain ⟨pa, hpa⟩ := r1.shape
  simp (maxSteps := 1000000) (disch := omega) only [cd51, alloc_sp, S, S1, S2, S3, S4, S5, ST, eq_self, reduceIte, reduceCtorEq, Nat.reduceEqDiff, Nat.reduceAdd]
  generalize hA : H ++ [AObj.cells [.slice none 0 0, .slice none 0 0] 28 false] = A
  have pA : H <+: A := by rw [← hA]; exact List.prefix_append _ _
  have cA : A[H.length]? = some (.cells [.slice none 0 0, .slice none 0 0] 28 false) := by rw [← hA]; exact at_new ..
  have lA : A.length = H.length + 1 := by rw [← hA]; simp
  generalize hE : A ++ [AObj.cells [] 83 false] = E
  have pE : A <+: E := by rw [← hE]; exact List.prefix_append _ _
  have lE : E.length = A.length + 1 := by rw [← hE]; simp
  have m0 : MineP 83 A E (.slice (some ⟨A.length, 0, none⟩) 0 0) [] := by rw [← hE]; exact MineP.nil0 (P := Tryz.prog) A A (Nat.le_refl _)
  have hb2 := bld_sp2 pa (some ⟨A.length, 0, none⟩) us.length us.length 0 0
  rw [← hpa] at hb2
  have st1 := st_ss (at_new E (.cells [.slice none 0 0, .slice none 0 0] 28 false)) rfl pa (some ⟨A.length, 0, none⟩) us.length us.length 0 0
  rw [set_new, ← hpa] at st1
  simp (maxSteps := 1000000) (disch := omega) only [hb2, alloc_sp, st1, S, S1, S2, S3, S4, S5, ST, eq_self, reduceIte, reduceCtorEq, Nat.reduceEqDiff, Nat.reduceAdd]
  generalize hG : E ++ [AObj.cells [a, .slice (some ⟨A.length, 0, none⟩) 0 0] 28 false] = G
  have pG : E <+: G := by rw [← hG]; exact List.prefix_append _ _
  have cG : G[E.length]? = some (.cells [a, .slice (some ⟨A.length, 0, none⟩) 0 0] 28 false) := by rw [← hG]; exact at_new ..
  have lG : G.length = E.length + 1 := by rw [← hG]; simp
  have pAG := pE.trans pG
  have rowA : ∀ {H'}, A <+: H' → RowV 38 H' a us := fun hp => r1.pre (pA.trans hp)
  have rowI : ∀ {H'} (i : Nat), i < ls.length → A <+: H' → Row 3 H' (us.getD i undef) (ls.getD i []) := fun i hi hp => (r3 i hi).row.1.pre (pA.trans hp)
  have sm : ∀ i, i < ls.length → (ls.getD i []).length = len := fun i hi => hk _ (by simp [hi])
  refine LoopH.by (fun m s H' => ∃ i st, m + i = ls.length ∧ s 0 = a ∧ s 2 = .pointer (some ⟨H.length, 0, none⟩) ∧ s 3 = .pointer (some ⟨E.length, 0, none⟩) ∧ s 4 = .int .i64 ((i : Nat) : Int) ∧ H'[E.length]? = some (.cells [a, st] 28 false) ∧ (rowO st = A.length ∨ G.length ≤ rowO st) ∧ st ≠ .slice none 0 0 ∧ MineP 83 A H' st (stpO chB ls i) ∧ A <+: H') ls.length ?_ ?_
  · exact ⟨0, .slice (some ⟨A.length, 0, none⟩) 0 0, by simp, rfl, rfl, rfl, rfl, cG, .inl rfl, (by intro e; cases e), m0.pre pG, pAG⟩
  rintro m s H' ⟨i, st, hm, s0, s2, s3, s4, hc5, hst, hsn, hmn, hpp⟩
  simp (maxSteps := 1000000) (disch := omega) only [s0, s2, s3, s4, (rowA hpp).len Tryz.underlying26, r2, S, S1, S2, S3, S4, S5, ST, eq_self, reduceIte, reduceCtorEq, Nat.reduceEqDiff, Nat.reduceAdd]
  refine brD.intro (fun g => ?_) (fun g => ?_)
  rotate_left
  · have hi : i = ls.length := by omega
    subst hi
    have hrow : SpRow H' a st ls (stpO chB ls ls.length) := ⟨⟨_, hL.row.pre (pA.trans hpp)⟩, hmn.row⟩
    have cAH := pre_at hpp cA
    have hstore := hrow.store cAH rfl
    simp (maxSteps := 1000000) (disch := omega) only [s0, s2, s3, s4, ld_agg ag28 cs28 hc5, hstore, S, S1, S2, S3, S4, S5, ST, eq_self, reduceIte, reduceCtorEq, Nat.reduceEqDiff, Nat.reduceAdd]
    have d4 := at_set (d := .cells [a, st] 28 false) cAH
    have lH' := hpp.length_le
    refine hQ _ _ _ (end_cell _ _ _ _ _ _ (.agg (List.toArray [a, st])) ?_ rfl ⟨st, rfl, ?_, ?_⟩)
    · simp (maxSteps := 1000000) (disch := omega) only [s2, ld_agg ag28 cs28 d4, S, S1, S2, S3, S4, S5, ST, eq_self, reduceIte, reduceCtorEq, Nat.reduceEqDiff, Nat.reduceAdd]
    · rcases InP.of hmn with q | ⟨o, zs, q1, q2, q3, q4, q5⟩
      · exact .inl q
      · exact .inr ⟨o, zs, q1, by omega, by simpa using q3, by rw [List.getElem?_set_ne (by omega)]; exact q4, q5⟩
    · exact pre_set (pA.trans hpp) (by omega) _
  have hi : i < ls.length := by omega
  simp (maxSteps := 1000000) (disch := omega) only [s0, s2, s3, s4, wrap64, S, S1, S2, S3, S4, S5, ST, eq_self, reduceIte, reduceCtorEq, Nat.reduceEqDiff, Nat.reduceAdd]
  refine LoopH.by (fun m' s' H'' => ∃ j st', m' + j = ls.length - (i + 1) ∧ s' 0 = a ∧ s' 2 = .pointer (some ⟨H.length, 0, none⟩) ∧ s' 3 = .pointer (some ⟨E.length, 0, none⟩) ∧ s' 4 = .int .i64 ((i : Nat) : Int) ∧ s' 5 = .int .i64 ((i + 1 + j : Nat) : Int) ∧ H''[E.length]? = some (.cells [a, st'] 28 false) ∧ (rowO st' = A.length ∨ G.length ≤ rowO st') ∧ st' ≠ .slice none 0 0 ∧ MineP 83 A H'' st' (stpO chB ls i ++ stpI chB ls i j) ∧ A <+: H'') (ls.length - (i + 1)) ?_ ?_
  · refine ⟨0, st, by simp, ?_⟩
    simp only [S, S1, S2, S3, S4, S5, ST, eq_self, reduceIte, reduceCtorEq, Nat.reduceEqDiff, Nat.reduceAdd, s0, s2, s3, s4]
    have f0 : MineP 83 A H' st (stpO chB ls i ++ stpI chB ls i 0) := by rw [stpI, List.append_nil]; exact hmn
    (repeat' first | exact hc5 | exact hst | exact hsn | exact f0 | exact hpp | apply And.intro) <;> first | (simp only [Value.int.injEq, true_and]; omega) | omega | rfl | assumption | (simp; done) | (simp; omega)
  · rintro m' s' H'' ⟨j, st', hm', g0, g2, g3, g4, g5, hc5', hst', hsn', hmn', hpp'⟩
    simp (maxSteps := 1000000) (disch := omega) only [g0, g2, g3, g4, g5, (rowA hpp').len Tryz.underlying26, r2, S, S1, S2, S3, S4, S5, ST, eq_self, reduceIte, reduceCtorEq, Nat.reduceEqDiff, Nat.reduceAdd]
    refine brD.intro (fun q => ?_) (fun q => ?_)
    · have hj : i + 1 + j < ls.length := by omega
      have hci := (rowA hpp').cell (show i < us.length by omega)
      have hcj := (rowA hpp').cell (show i + 1 + j < us.length by omega)
      have hgi := sm i hi
      have hgj := sm _ hj
      simp (maxSteps := 1000000) (disch := omega) only [g0, g2, g3, g4, g5, (rowA hpp').ix Tryz.underlying26 cs38, Int.toNat_natCast, hci, hcj, S, S1, S2, S3, S4, S5, ST, eq_self, reduceIte, reduceCtorEq, Nat.reduceEqDiff, Nat.reduceAdd]
      refine CallH.by (l5Changed_c _ _ _ _ H'' (rowI i hi hpp') (rowI (i + 1 + j) hj hpp') (by omega) (by omega)) ?_
      rintro u K ⟨hu, pK⟩
      have hcK := pre_at pK hc5'
      have hpK := hpp'.trans pK
      have hmK := hmn'.pre pK
      have hur := hu.row
      have hsl1 := stpO_len chB ls i
      have hsl2 := stpI_len chB ls i j
      have hmul : i * ls.length ≤ 9 * 9 := Nat.mul_le_mul (by omega) (by omega)
      have lK := hpK.length_le
      have l5 := at_lt hc5'
      have hne : ∀ o, o = E.length → o ≠ rowO st' := fun o ho => by omega
      have hjl : ((dfL (ls.getD i []) (ls.getD (i + 1 + j) [])).length : Int) = 1 ↔ chB (ls.getD i []) (ls.getD (i + 1 + j) []) = true := by
        unfold chB; rw [decide_eq_true_eq]; omega
      simp (maxSteps := 1000000) (disch := omega) only [g0, g2, g3, g4, g5, hur.len Tryz.underlying38, S, S1, S2, S3, S4, S5, ST, eq_self, reduceIte, reduceCtorEq, Nat.reduceEqDiff, Nat.reduceAdd]
      refine brD.intro (fun e1 => ?_) (fun e1 => ?_)
      · have ht := hjl.1 e1
        have hstep : stpI chB ls i (j + 1) = stpI chB ls i j ++ [((i : Int), ((i + 1 + j : Nat) : Int))] := by rw [stpI, if_pos ht]
        obtain ⟨st2, H3, k1, k2, k3, k4, k5, k6⟩ := own1_22 hmK hpK (by rw [List.length_append]; omega) (i : Int) ((i + 1 + j : Nat) : Int)
        have d5 : H3[E.length]? = some (.cells [a, st'] 28 false) := k4 _ _ (.inr (hne _ rfl)) hcK
        obtain ⟨q2, hq2⟩ := k2.row.shape
        have t2 : st2.cells.toList = [st2] := by rw [hq2]; rfl
        have hst3 := st_at (P := Tryz.prog) (t := 22) (i := 1) (y := st2) cs22 d5 (by show 1 < 2; decide) k6 t2
        have lGK : G.length ≤ K.length := by have := pK.length_le; omega
        simp (maxSteps := 1000000) (disch := omega) only [e1, g0, g2, g3, g4, g5, cell_of hcK, build_a2, wrap64, k1, hst3, S, S1, S2, S3, S4, S5, ST, eq_self, reduceIte, reduceCtorEq, Nat.reduceEqDiff, Nat.reduceAdd]
        have f5 : (H3.set E.length (.cells ([a, st'].set 1 st2) 28 false))[E.length]? = some (.cells [a, st2] 28 false) := by
          rw [List.getElem?_set_self (at_lt d5)]; rfl
        have fs1 : rowO st2 = A.length ∨ G.length ≤ rowO st2 := .inr (by omega)
        have fs2 : st2 ≠ .slice none 0 0 := by
          intro hh
          rw [hh] at k5
          have : rowO (Value.slice none 0 0) = 0 := rfl
          omega
        have fm : MineP 83 A (H3.set E.length (.cells ([a, st'].set 1 st2) 28 false)) st2 (stpO chB ls i ++ stpI chB ls i (j + 1)) := by
          rw [hstep, ← List.append_assoc]
          exact k2.keepL fun hl y hy => by rw [List.getElem?_set_ne (by omega)]; exact hy
        have fp : A <+: H3.set E.length (.cells ([a, st'].set 1 st2) 28 false) := pre_set k3 (by omega) _
        refine ⟨m' - 1, by omega, j + 1, st2, ?_⟩
        (repeat' first | exact f5 | exact fs1 | exact fs2 | exact fm | exact fp | apply And.intro) <;> first | (simp only [Value.int.injEq, true_and]; omega) | omega | rfl | assumption | (simp; done) | (simp; omega)
      · have ht : ¬ chB (ls.getD i []) (ls.getD (i + 1 + j) []) = true := fun h => e1 (hjl.2 h)
        have hstep : stpI chB ls i (j + 1) = stpI chB ls i j := by rw [stpI, if_neg ht, List.append_nil]
        rw [← hstep] at hmK
        simp (maxSteps := 1000000) (disch := omega) only [e1, g0, g2, g3, g4, g5, wrap64, S, S1, S2, S3, S4, S5, ST, eq_self, reduceIte, reduceCtorEq, Nat.reduceEqDiff, Nat.reduceAdd]
        refine ⟨m' - 1, by omega, j + 1, st', ?_⟩
        (repeat' first | exact hcK | exact hst' | exact hsn' | exact hmK | exact hpK | apply And.intro) <;> first | (simp only [Value.int.injEq, true_and]; omega) | omega | rfl | assumption | (simp; done) | (simp; omega)
    · have hjj : j = ls.length - (i + 1) := by omega
      subst hjj
      have hstO : stpO chB ls (i + 1) = stpO chB ls i ++ stpI chB ls i (ls.length - (i + 1)) := rfl
      rw [← hstO] at hmn'
      simp (maxSteps := 1000000) (disch := omega) only [g0, g2, g3, g4, g5, wrap64, S, S1, S2, S3, S4, S5, ST, eq_self, reduceIte, reduceCtorEq, Nat.reduceEqDiff, Nat.reduceAdd]
      refine ⟨m - 1, by omega, i + 1, st', ?_⟩
      (repeat' first | exact hc5' | exact hst' | exact hsn' | exact hmn' | exact hpp' | apply And.intro) <;> first | (simp only [Value.int.injEq, true_and]; omega) | omega | rfl | assumption | (simp; done) | (simp; omega)
end Go.Proofs.YtlfongfhbkefmaaGreat.Ai
namespace Go.Proofs.YtlfongfhbkefmaaGreat.Ai
open Go
set_option linter.unusedVariables false
theorem cmpI_swap (a b : Int) : cmpI b a = - cmpI a b := by unfold cmpI; split <;> split <;> (try split) <;> omega
theorem cmpI_lt {a b : Int} : cmpI a b < 0 ↔ a < b := by unfold cmpI; split <;> (try split) <;> omega
theorem cmpI_eq {a b : Int} : cmpI a b = 0 ↔ a = b := by unfold cmpI; split <;> (try split) <;> omega
theorem cmpL_swap : ∀ a b : List Int, cmpL b a = - cmpL a b
  | [], [] => rfl
  | [], _ :: _ => rfl
  | _ :: _, [] => rfl
  | x :: a, y :: b => by
    rw [cmpL, cmpL, cmpI_swap x y]
    by_cases h : cmpI x y = 0
    · rw [if_neg (by omega), if_neg (by omega)]; exact cmpL_swap a b
    · rw [if_pos (by omega), if_pos h]
theorem cmpL_zero : ∀ {a b : List Int}, cmpL a b = 0 → a = b
  | [], [], _ => rfl
  | [], _ :: _, h => by simp [cmpL] at h
  | _ :: _, [], h => by simp [cmpL] at h
  | x :: a, y :: b, h => by
    rw [cmpL] at h
    by_cases e : cmpI x y = 0
    · rw [if_neg (by omega)] at h
      rw [cmpI_eq.1 e, cmpL_zero h]
    · rw [if_pos e] at h; exact absurd h e
theorem cmpL_trans : ∀ {a b c : List Int}, cmpL a b < 0 → cmpL b c < 0 → cmpL a c < 0
  | [], [], _, h, _ => by simp [cmpL] at h
  | [], _ :: _, [], _, h => by simp [cmpL] at h
  | [], _ :: _, _ :: _, _, _ => by simp [cmpL]
  | _ :: _, [], _, h, _ => by simp [cmpL] at h
  | _ :: _, _ :: _, [], _, h => by simp [cmpL] at h
  | x :: a, y :: b, z :: c, h1, h2 => by
    rw [cmpL] at h1 h2 ⊢
    have e1 := cmpI_lt (a := x) (b := y)
    have e2 := cmpI_lt (a := y) (b := z)
    have e3 := cmpI_lt (a := x) (b := z)
    have f1 := cmpI_eq (a := x) (b := y)
    have f2 := cmpI_eq (a := y) (b := z)
    have f3 := cmpI_eq (a := x) (b := z)
    by_cases q1 : cmpI x y = 0 <;> by_cases q2 : cmpI y z = 0
    · rw [if_neg (by omega)] at h1 h2
      rw [if_neg (by omega)]
      exact cmpL_trans h1 h2
    · rw [if_pos q2] at h2
      rw [if_pos (by omega)]; omega
    · rw [if_pos q1] at h1
      rw [if_pos (by omega)]; omega
    · rw [if_pos q1] at h1
      rw [if_pos q2] at h2
      rw [if_pos (by omega)]; omega
theorem srt_lt {ls : List (List Int)} (h : SrtL ls) {i j : Nat} (hij : i < j) (hj : j < ls.length) : cmpL (ls.getD i []) (ls.getD j []) < 0 := by
  have := h i j hij hj
  rw [cmpL_swap]; omega
theorem srt_uniq {ls : List (List Int)} (h : SrtL ls) {i j : Nat} (hi : i < ls.length) (hj : j < ls.length) (e : ls.getD i [] = ls.getD j []) : i = j := by
  rcases Nat.lt_trichotomy i j with q | q | q
  · have := srt_lt h q hj; rw [e, cmpL_self] at this; omega
  · exact q
  · have := srt_lt h q hi; rw [e, cmpL_self] at this; omega
theorem srt_dn {ls : List (List Int)} (h : SrtL ls) {t : List Int} {i j : Nat} (hij : i ≤ j) (hj : j < ls.length) (hc : cmpL (ls.getD j []) t < 0) : cmpL (ls.getD i []) t < 0 := by
  by_cases e : i = j
  · subst e; exact hc
  · exact cmpL_trans (srt_lt h (by omega) hj) hc
theorem mem_at {ls : List (List Int)} {t : List Int} (h : t ∈ ls) : ∃ i, i < ls.length ∧ ls.getD i [] = t := by
  obtain ⟨i, hi, e⟩ := List.mem_iff_getElem.1 h
  exact ⟨i, hi, by simp [hi, e]⟩
/-- the first road to a place that is nearer -/
def nxS (L : List (List Int)) (far : List Int) (i : Int) : Int := ((L.getD i.toNat []).find? fun k => decide (far.getD k.toNat 0 = far.getD i.toNat 0 - 1)).getD i
def wyS (L : List (List Int)) (far : List Int) (j : Int) : Nat → Int → List Int
  | 0, i => [i]
  | f + 1, i => if i = j then [i] else i :: wyS L far j f (nxS L far i)
theorem wyS_head (L : List (List Int)) (far : List Int) (j : Int) (f : Nat) (i : Int) : wyS L far j f i = i :: (wyS L far j f i).tail := by
  cases f with
  | zero => rfl
  | succ f => simp only [wyS]; split <;> rfl
theorem wyS_end (L : List (List Int)) (far : List Int) (j : Int) (f : Nat) : wyS L far j f j = [j] := by
  cases f with
  | zero => rfl
  | succ f => rw [wyS, if_pos rfl]
section
variable {L : List (List Int)} (hL : LOk L.length L) (hs : Sym L) {j : Nat} (hj : j < L.length)
include hL hs hj
theorem nx_ok {d : Nat} {i : Nat} (hi : i < L.length) (hd : (bfs L j).getD i 0 = ((d + 1 : Nat) : Int)) : nxS L (bfs L j) (i : Int) ∈ L.getD i [] ∧ (bfs L j).getD (nxS L (bfs L j) (i : Int)).toNat 0 = (d : Int) ∧ ((L.getD i []).find? fun k => decide ((bfs L j).getD k.toNat 0 = (bfs L j).getD i 0 - 1)) = some (nxS L (bfs L j) (i : Int)) := by
  obtain ⟨q, h⟩ := bfs_DI hL hj
  have hex : ∃ k ∈ L.getD i [], (bfs L j).getD k.toNat 0 = (bfs L j).getD i 0 - 1 := by
    rcases h.src i hi (show 0 ≤ (bfs L j).getD i 0 by omega) with ⟨_, e1⟩ | ⟨u, u1, u2, u3, u4⟩
    · have e1' : (bfs L j).getD i 0 = 0 := e1
      omega
    · have u4' : (bfs L j).getD i 0 = (bfs L j).getD u 0 + 1 := u4
      exact ⟨(u : Int), hs u i u1 hi u3, by rw [Int.toNat_natCast]; omega⟩
  unfold nxS
  rw [Int.toNat_natCast]
  cases hf : (L.getD i []).find? fun k => decide ((bfs L j).getD k.toNat 0 = (bfs L j).getD i 0 - 1) with
  | none =>
    obtain ⟨k, k1, k2⟩ := hex
    have := List.find?_eq_none.1 hf k k1
    simp only [decide_eq_true_eq] at this
    exact absurd k2 this
  | some k =>
    have h1 := List.mem_of_find?_eq_some hf
    have h2 := List.find?_some hf
    simp only [decide_eq_true_eq] at h2
    exact ⟨h1, by show (bfs L j).getD k.toNat 0 = d; omega, rfl⟩
theorem far_pos {i : Nat} (hi : i < L.length) (h0 : 0 ≤ (bfs L j).getD i 0) (hne : i ≠ j) : 1 ≤ (bfs L j).getD i 0 := by
  have _ := hs
  obtain ⟨q, h⟩ := bfs_DI hL hj
  rcases h.src i hi h0 with ⟨e1, _⟩ | ⟨u, u1, u2, u3, u4⟩
  · exact absurd e1 hne
  · have u2' : 0 ≤ (bfs L j).getD u 0 := u2
    have u4' : (bfs L j).getD i 0 = (bfs L j).getD u 0 + 1 := u4
    omega
theorem wy_len : ∀ (d i : Nat), i < L.length → (bfs L j).getD i 0 = (d : Int) → (wyS L (bfs L j) (j : Int) d (i : Int)).length = d + 1 ∧ ∀ z ∈ wyS L (bfs L j) (j : Int) d (i : Int), 0 ≤ z ∧ z < L.length
  | 0, i, hi, hd => by
    refine ⟨rfl, fun z hz => ?_⟩
    simp only [wyS, List.mem_singleton] at hz
    omega
  | d + 1, i, hi, hd => by
    have hne : ¬ (i : Int) = j := fun e => by
      have : i = j := by omega
      subst this
      rw [bfs_zero hL hj] at hd
      omega
    obtain ⟨h1, h2, _⟩ := nx_ok hL hs hj hi hd
    have hr := hL i _ h1
    obtain ⟨k, hk⟩ : ∃ k : Nat, nxS L (bfs L j) (i : Int) = k := ⟨(nxS L (bfs L j) (i : Int)).toNat, by omega⟩
    rw [hk, Int.toNat_natCast] at h2
    have ih := wy_len d k (by omega) h2
    simp only [wyS]
    rw [if_neg hne, hk]
    refine ⟨by rw [List.length_cons, ih.1], fun z hz => ?_⟩
    rcases List.mem_cons.1 hz with rfl | hz
    · omega
    · exact ih.2 z hz
end
end Go.Proofs.YtlfongfhbkefmaaGreat.Ai
namespace Go.Proofs.YtlfongfhbkefmaaGreat.Ai
open Go
def ords142 : List (Nat × List (Nat × Bool)) := [(5, [(0, false), (1, false), (2, false), (3, false), (4, false), (5, false), (6, false), (7, false), (8, false), (9, false), (10, false), (11, true), (12, false), (13, true)]), (6, [(0, false), (1, false), (2, false), (3, false), (4, false), (5, false), (6, false), (7, false), (8, false), (9, false), (10, false), (11, true), (12, false), (13, true)])]
def cd142 : Cd := (.seq (.reg [⟨⟨some 1, Op.box 28 (Operand.tmp 0), none⟩, []⟩,
  ⟨⟨some 2, Op.assign (Operand.const (Value.slice none 0 0)), none⟩, []⟩]) (.seq (.reg [⟨⟨some 8, Op.fieldAddr 28 (Operand.tmp 1) 0, none⟩, []⟩,
  ⟨⟨some 9, Op.load 26 (Operand.tmp 8), none⟩, []⟩,
  ⟨⟨some 10, Op.call { callee := (Callee.builtin Builtin.len), args := #[(Operand.tmp 9)], argTypes := #[26] }, none⟩, []⟩,
  ⟨⟨some 11, Op.makeSlice 26 (Operand.tmp 10) (Operand.tmp 10), none⟩, []⟩,
  ⟨⟨some 3, Op.assign (Operand.tmp 11), none⟩, []⟩]) (.seq (.seq (.reg [⟨⟨some 12, Op.fieldAddr 28 (Operand.tmp 1) 1, none⟩, []⟩,
  ⟨⟨some 13, Op.load 22 (Operand.tmp 12), none⟩, []⟩,
  ⟨⟨some 14, Op.call { callee := (Callee.builtin Builtin.len), args := #[(Operand.tmp 13)], argTypes := #[22] }, none⟩, []⟩,
  ⟨⟨some 15, Op.move (Operand.const (Value.int IntKind.i64 0)), none⟩, []⟩]) (.block 0 (.loop (.seq (.reg [⟨⟨some 16, Op.binOp BinOp.lss 3 (Operand.tmp 15) (Operand.tmp 14) 3, none⟩, []⟩]) (.seq (.cond (Operand.tmp 16) .skip (.exit 0)) (.seq (.block 1 (.seq (.reg [⟨⟨some 17, Op.indexAddr 22 (Operand.tmp 13) (Operand.tmp 15), none⟩, []⟩,
  ⟨⟨some 18, Op.load 83 (Operand.tmp 17), none⟩, []⟩,
  ⟨⟨some 5, Op.alloc 83, none⟩, []⟩,
  ⟨⟨none, Op.store 83 (Operand.tmp 5) (Operand.tmp 18), none⟩, []⟩]) (.seq (.reg [⟨⟨some 19, Op.move (Operand.tmp 3), none⟩, []⟩,
  ⟨⟨some 20, Op.indexAddr 83 (Operand.tmp 5) (Operand.const (Value.int IntKind.i64 0)), none⟩, []⟩,
  ⟨⟨some 21, Op.load 3 (Operand.tmp 20), none⟩, []⟩,
  ⟨⟨some 22, Op.move (Operand.tmp 3), none⟩, []⟩,
  ⟨⟨some 23, Op.indexAddr 83 (Operand.tmp 5) (Operand.const (Value.int IntKind.i64 0)), none⟩, []⟩,
  ⟨⟨some 24, Op.load 3 (Operand.tmp 23), none⟩, []⟩,
  ⟨⟨some 25, Op.indexAddr 26 (Operand.tmp 22) (Operand.tmp 24), none⟩, []⟩,
  ⟨⟨some 26, Op.load 38 (Operand.tmp 25), none⟩, []⟩,
  ⟨⟨some 27, Op.indexAddr 83 (Operand.tmp 5) (Operand.const (Value.int IntKind.i64 1)), none⟩, []⟩,
  ⟨⟨some 28, Op.load 3 (Operand.tmp 27), none⟩, []⟩,
  ⟨⟨some 29, Op.buildSlice 38 1 #[(0, (Operand.tmp 28))], none⟩, []⟩,
  ⟨⟨some 30, Op.call { callee := (Callee.builtin Builtin.append), args := #[(Operand.tmp 26), (Operand.tmp 29)], argTypes := #[38, 38] }, none⟩, [⟨some 21, Op.load 3 (Operand.tmp 20), none⟩]⟩,
  ⟨⟨some 31, Op.indexAddr 26 (Operand.tmp 19) (Operand.tmp 21), none⟩, []⟩,
  ⟨⟨none, Op.store 38 (Operand.tmp 31) (Operand.tmp 30), none⟩, []⟩]) (.reg [⟨⟨some 32, Op.move (Operand.tmp 3), none⟩, []⟩,
  ⟨⟨some 33, Op.indexAddr 83 (Operand.tmp 5) (Operand.const (Value.int IntKind.i64 1)), none⟩, []⟩,
  ⟨⟨some 34, Op.load 3 (Operand.tmp 33), none⟩, []⟩,
  ⟨⟨some 35, Op.move (Operand.tmp 3), none⟩, []⟩,
  ⟨⟨some 36, Op.indexAddr 83 (Operand.tmp 5) (Operand.const (Value.int IntKind.i64 1)), none⟩, []⟩,
  ⟨⟨some 37, Op.load 3 (Operand.tmp 36), none⟩, []⟩,
  ⟨⟨some 38, Op.indexAddr 26 (Operand.tmp 35) (Operand.tmp 37), none⟩, []⟩,
  ⟨⟨some 39, Op.load 38 (Operand.tmp 38), none⟩, []⟩,
  ⟨⟨some 40, Op.indexAddr 83 (Operand.tmp 5) (Operand.const (Value.int IntKind.i64 0)), none⟩, []⟩,
  ⟨⟨some 41, Op.load 3 (Operand.tmp 40), none⟩, []⟩,
  ⟨⟨some 42, Op.buildSlice 38 1 #[(0, (Operand.tmp 41))], none⟩, []⟩,
  ⟨⟨some 43, Op.call { callee := (Callee.builtin Builtin.append), args := #[(Operand.tmp 39), (Operand.tmp 42)], argTypes := #[38, 38] }, none⟩, [⟨some 34, Op.load 3 (Operand.tmp 33), none⟩]⟩,
  ⟨⟨some 44, Op.indexAddr 26 (Operand.tmp 32) (Operand.tmp 34), none⟩, []⟩,
  ⟨⟨none, Op.store 38 (Operand.tmp 44) (Operand.tmp 43), none⟩, []⟩])))) (.reg [⟨⟨some 45, Op.binOp BinOp.add 3 (Operand.tmp 15) (Operand.const (Value.int IntKind.i64 1)) 3, none⟩, []⟩,
  ⟨⟨some 15, Op.move (Operand.tmp 45), none⟩, []⟩]))))))) (.seq (.seq (.reg [⟨⟨some 46, Op.move (Operand.tmp 3), none⟩, []⟩,
  ⟨⟨some 47, Op.call { callee := (Callee.builtin Builtin.len), args := #[(Operand.tmp 46)], argTypes := #[26] }, none⟩, []⟩,
  ⟨⟨some 48, Op.move (Operand.const (Value.int IntKind.i64 0)), none⟩, []⟩]) (.block 2 (.loop (.seq (.reg [⟨⟨some 49, Op.binOp BinOp.lss 3 (Operand.tmp 48) (Operand.tmp 47) 3, none⟩, []⟩]) (.seq (.cond (Operand.tmp 49) .skip (.exit 2)) (.seq (.block 3 (.seq (.reg [⟨⟨some 50, Op.indexAddr 26 (Operand.tmp 46) (Operand.tmp 48), none⟩, []⟩,
  ⟨⟨some 51, Op.load 38 (Operand.tmp 50), none⟩, []⟩,
  ⟨⟨some 7, Op.assign (Operand.tmp 51), none⟩, []⟩]) (.reg [⟨⟨some 52, Op.move (Operand.tmp 7), none⟩, []⟩,
  ⟨⟨some 53, Op.call { callee := (Callee.value (Operand.func 134)), args := #[(Operand.tmp 52)], argTypes := #[38] }, none⟩, []⟩]))) (.reg [⟨⟨some 54, Op.binOp BinOp.add 3 (Operand.tmp 48) (Operand.const (Value.int IntKind.i64 1)) 3, none⟩, []⟩,
  ⟨⟨some 48, Op.move (Operand.tmp 54), none⟩, []⟩]))))))) (.seq (.reg [⟨⟨some 55, Op.move (Operand.tmp 3), none⟩, []⟩,
  ⟨⟨some 2, Op.assign (Operand.tmp 55), none⟩, []⟩]) .ret)))))
theorem sl142 : slim Tryz.f142.ntmps ords142 (Tryz.f142.body.getD .skip) = some cd142 := by kernel_rfl
theorem in142 {args : List Value} {H : AH} {R : Value → AH → Prop} (hl : args.length = 1) (h : ∀ (Q : Exit → Sl → AH → Prop), (∀ e s H, endA Tryz.prog [ResultVar.tmp 2] R e s H → Q e s H) → wpC Tryz.prog cd142 Q (enterA args) H) : ACalls Tryz.prog 142 args H R :=
  ACalls.intro (by kernel_rfl) Tryz.func142 rfl (by kernel_rfl) sl142 hl (of_decide_eq_true (by kernel_rfl)) (by kernel_rfl) h
def ords136 : List (Nat × List (Nat × Bool)) := [(5, [(0, false), (1, false), (2, false), (3, false), (4, false), (5, false), (6, false), (7, false), (8, false), (9, false), (10, false), (11, false), (12, false), (13, false)]), (10, [(0, false), (1, false), (2, false), (3, false), (4, false), (5, false), (6, false), (7, false), (8, false), (9, false), (10, false), (11, false), (12, false), (13, false)])]
def cd136 : Cd := (.seq (.reg [⟨⟨some 1, Op.box 28 (Operand.tmp 0), none⟩, []⟩,
  ⟨⟨some 2, Op.assign (Operand.const (Value.slice none 0 0)), none⟩, []⟩]) (.seq (.reg [⟨⟨some 10, Op.fieldAddr 28 (Operand.tmp 1) 0, none⟩, []⟩,
  ⟨⟨some 11, Op.load 26 (Operand.tmp 10), none⟩, []⟩,
  ⟨⟨some 12, Op.call { callee := (Callee.builtin Builtin.len), args := #[(Operand.tmp 11)], argTypes := #[26] }, none⟩, []⟩,
  ⟨⟨some 13, Op.makeSlice 26 (Operand.tmp 12) (Operand.tmp 12), none⟩, []⟩,
  ⟨⟨some 3, Op.assign (Operand.tmp 13), none⟩, []⟩]) (.seq (.seq (.reg [⟨⟨some 4, Op.assign (Operand.const (Value.int IntKind.i64 0)), none⟩, []⟩]) (.block 0 (.loop (.seq (.seq (.reg [⟨⟨some 14, Op.move (Operand.tmp 4), none⟩, []⟩,
  ⟨⟨some 15, Op.fieldAddr 28 (Operand.tmp 1) 1, none⟩, []⟩,
  ⟨⟨some 16, Op.load 22 (Operand.tmp 15), none⟩, []⟩,
  ⟨⟨some 17, Op.call { callee := (Callee.builtin Builtin.len), args := #[(Operand.tmp 16)], argTypes := #[22] }, none⟩, []⟩,
  ⟨⟨some 18, Op.binOp BinOp.lss 3 (Operand.tmp 14) (Operand.tmp 17) 3, none⟩, []⟩]) (.cond (Operand.tmp 18) .skip (.exit 0))) (.seq (.block 1 (.seq (.reg [⟨⟨some 21, Op.fieldAddr 28 (Operand.tmp 1) 1, none⟩, []⟩,
  ⟨⟨some 22, Op.load 22 (Operand.tmp 21), none⟩, []⟩,
  ⟨⟨some 23, Op.move (Operand.tmp 4), none⟩, []⟩,
  ⟨⟨some 24, Op.indexAddr 22 (Operand.tmp 22) (Operand.tmp 23), none⟩, []⟩,
  ⟨⟨some 25, Op.indexAddr 83 (Operand.tmp 24) (Operand.const (Value.int IntKind.i64 0)), none⟩, []⟩,
  ⟨⟨some 26, Op.load 3 (Operand.tmp 25), none⟩, []⟩,
  ⟨⟨some 27, Op.fieldAddr 28 (Operand.tmp 1) 1, none⟩, []⟩,
  ⟨⟨some 28, Op.load 22 (Operand.tmp 27), none⟩, []⟩,
  ⟨⟨some 29, Op.move (Operand.tmp 4), none⟩, []⟩,
  ⟨⟨some 30, Op.indexAddr 22 (Operand.tmp 28) (Operand.tmp 29), none⟩, []⟩,
  ⟨⟨some 31, Op.indexAddr 83 (Operand.tmp 30) (Operand.const (Value.int IntKind.i64 1)), none⟩, []⟩,
  ⟨⟨some 32, Op.load 3 (Operand.tmp 31), none⟩, []⟩,
  ⟨⟨some 5, Op.assign (Operand.tmp 26), none⟩, []⟩,
  ⟨⟨some 6, Op.assign (Operand.tmp 32), none⟩, []⟩]) (.reg [⟨⟨some 33, Op.move (Operand.tmp 3), none⟩, []⟩,
  ⟨⟨some 34, Op.move (Operand.tmp 6), none⟩, []⟩,
  ⟨⟨some 35, Op.move (Operand.tmp 3), none⟩, []⟩,
  ⟨⟨some 36, Op.move (Operand.tmp 6), none⟩, []⟩,
  ⟨⟨some 37, Op.indexAddr 26 (Operand.tmp 35) (Operand.tmp 36), none⟩, []⟩,
  ⟨⟨some 38, Op.load 38 (Operand.tmp 37), none⟩, []⟩,
  ⟨⟨some 39, Op.move (Operand.tmp 5), none⟩, []⟩,
  ⟨⟨some 40, Op.buildSlice 38 1 #[(0, (Operand.tmp 39))], none⟩, []⟩,
  ⟨⟨some 41, Op.call { callee := (Callee.builtin Builtin.append), args := #[(Operand.tmp 38), (Operand.tmp 40)], argTypes := #[38, 38] }, none⟩, []⟩,
  ⟨⟨some 42, Op.indexAddr 26 (Operand.tmp 33) (Operand.tmp 34), none⟩, []⟩,
  ⟨⟨none, Op.store 38 (Operand.tmp 42) (Operand.tmp 41), none⟩, []⟩]))) (.reg [⟨⟨some 19, Op.move (Operand.tmp 4), none⟩, []⟩,
  ⟨⟨some 20, Op.binOp BinOp.add 3 (Operand.tmp 19) (Operand.const (Value.int IntKind.i64 1)) 3, none⟩, []⟩,
  ⟨⟨some 4, Op.assign (Operand.tmp 20), none⟩, []⟩])))))) (.seq (.seq (.reg [⟨⟨some 7, Op.assign (Operand.const (Value.int IntKind.i64 0)), none⟩, []⟩]) (.block 2 (.loop (.seq (.seq (.reg [⟨⟨some 43, Op.move (Operand.tmp 7), none⟩, []⟩,
  ⟨⟨some 44, Op.fieldAddr 28 (Operand.tmp 1) 1, none⟩, []⟩,
  ⟨⟨some 45, Op.load 22 (Operand.tmp 44), none⟩, []⟩,
  ⟨⟨some 46, Op.call { callee := (Callee.builtin Builtin.len), args := #[(Operand.tmp 45)], argTypes := #[22] }, none⟩, []⟩,
  ⟨⟨some 47, Op.binOp BinOp.lss 3 (Operand.tmp 43) (Operand.tmp 46) 3, none⟩, []⟩]) (.cond (Operand.tmp 47) .skip (.exit 2))) (.seq (.block 3 (.seq (.reg [⟨⟨some 50, Op.fieldAddr 28 (Operand.tmp 1) 1, none⟩, []⟩,
  ⟨⟨some 51, Op.load 22 (Operand.tmp 50), none⟩, []⟩,
  ⟨⟨some 52, Op.move (Operand.tmp 7), none⟩, []⟩,
  ⟨⟨some 53, Op.indexAddr 22 (Operand.tmp 51) (Operand.tmp 52), none⟩, []⟩,
  ⟨⟨some 54, Op.indexAddr 83 (Operand.tmp 53) (Operand.const (Value.int IntKind.i64 0)), none⟩, []⟩,
  ⟨⟨some 55, Op.load 3 (Operand.tmp 54), none⟩, []⟩,
  ⟨⟨some 56, Op.fieldAddr 28 (Operand.tmp 1) 1, none⟩, []⟩,
  ⟨⟨some 57, Op.load 22 (Operand.tmp 56), none⟩, []⟩,
  ⟨⟨some 58, Op.move (Operand.tmp 7), none⟩, []⟩,
  ⟨⟨some 59, Op.indexAddr 22 (Operand.tmp 57) (Operand.tmp 58), none⟩, []⟩,
  ⟨⟨some 60, Op.indexAddr 83 (Operand.tmp 59) (Operand.const (Value.int IntKind.i64 1)), none⟩, []⟩,
  ⟨⟨some 61, Op.load 3 (Operand.tmp 60), none⟩, []⟩,
  ⟨⟨some 8, Op.assign (Operand.tmp 55), none⟩, []⟩,
  ⟨⟨some 9, Op.assign (Operand.tmp 61), none⟩, []⟩]) (.reg [⟨⟨some 62, Op.move (Operand.tmp 3), none⟩, []⟩,
  ⟨⟨some 63, Op.move (Operand.tmp 8), none⟩, []⟩,
  ⟨⟨some 64, Op.move (Operand.tmp 3), none⟩, []⟩,
  ⟨⟨some 65, Op.move (Operand.tmp 8), none⟩, []⟩,
  ⟨⟨some 66, Op.indexAddr 26 (Operand.tmp 64) (Operand.tmp 65), none⟩, []⟩,
  ⟨⟨some 67, Op.load 38 (Operand.tmp 66), none⟩, []⟩,
  ⟨⟨some 68, Op.move (Operand.tmp 9), none⟩, []⟩,
  ⟨⟨some 69, Op.buildSlice 38 1 #[(0, (Operand.tmp 68))], none⟩, []⟩,
  ⟨⟨some 70, Op.call { callee := (Callee.builtin Builtin.append), args := #[(Operand.tmp 67), (Operand.tmp 69)], argTypes := #[38, 38] }, none⟩, []⟩,
  ⟨⟨some 71, Op.indexAddr 26 (Operand.tmp 62) (Operand.tmp 63), none⟩, []⟩,
  ⟨⟨none, Op.store 38 (Operand.tmp 71) (Operand.tmp 70), none⟩, []⟩]))) (.reg [⟨⟨some 48, Op.move (Operand.tmp 7), none⟩, []⟩,
  ⟨⟨some 49, Op.binOp BinOp.add 3 (Operand.tmp 48) (Operand.const (Value.int IntKind.i64 1)) 3, none⟩, []⟩,
  ⟨⟨some 7, Op.assign (Operand.tmp 49), none⟩, []⟩])))))) (.seq (.reg [⟨⟨some 72, Op.move (Operand.tmp 3), none⟩, []⟩,
  ⟨⟨some 2, Op.assign (Operand.tmp 72), none⟩, []⟩]) .ret)))))
theorem sl136 : slim Tryz.f136.ntmps ords136 (Tryz.f136.body.getD .skip) = some cd136 := by kernel_rfl
theorem in136 {args : List Value} {H : AH} {R : Value → AH → Prop} (hl : args.length = 1) (h : ∀ (Q : Exit → Sl → AH → Prop), (∀ e s H, endA Tryz.prog [ResultVar.tmp 2] R e s H → Q e s H) → wpC Tryz.prog cd136 Q (enterA args) H) : ACalls Tryz.prog 136 args H R :=
  ACalls.intro (by kernel_rfl) Tryz.func136 rfl (by kernel_rfl) sl136 hl (of_decide_eq_true (by kernel_rfl)) (by kernel_rfl) h
end Go.Proofs.YtlfongfhbkefmaaGreat.Ai
namespace Go.Proofs.YtlfongfhbkefmaaGreat.Ai
open Go Go.RowKit
set_option linter.unusedVariables false
set_option linter.unusedSimpArgs false
/-- the places that steps join with one -/
def nbS (ps : List (Int × Int)) (x : Int) : List Int := (ps.filter fun e => decide (e.2 = x)).map (·.1) ++ (ps.filter fun e => decide (e.1 = x)).map (·.2)
def rdS (n : Nat) (ps : List (Int × Int)) : List (List Int) := (List.range n).map fun x : Nat => nbS ps x
theorem rdS_len (n : Nat) (ps : List (Int × Int)) : (rdS n ps).length = n := by simp [rdS]
theorem rdS_at (n : Nat) (ps : List (Int × Int)) {x : Nat} (hx : x < n) : (rdS n ps).getD x [] = nbS ps x := by simp [rdS, hx]
theorem nbS_mem (ps : List (Int × Int)) (x y : Int) : y ∈ nbS ps x ↔ (y, x) ∈ ps ∨ (x, y) ∈ ps := by
  unfold nbS
  simp only [List.mem_append, List.mem_map, List.mem_filter, decide_eq_true_eq]
  constructor
  · rintro (⟨e, ⟨h1, h2⟩, rfl⟩ | ⟨e, ⟨h1, h2⟩, rfl⟩)
    · left; rw [← h2]; exact h1
    · right; rw [← h2]; exact h1
  · rintro (h | h)
    · exact .inl ⟨_, ⟨h, rfl⟩, rfl⟩
    · exact .inr ⟨_, ⟨h, rfl⟩, rfl⟩
/-- steps between n places, in order -/
structure StpOk (n : Nat) (ps : List (Int × Int)) : Prop where
  rng : ∀ e ∈ ps, 0 ≤ e.1 ∧ e.1 < e.2 ∧ e.2 < n
  srt : ps.Pairwise pairLt
theorem nbS_asc {n : Nat} {ps : List (Int × Int)} (h : StpOk n ps) (x : Int) : (nbS ps x).Pairwise (· < ·) := by
  unfold nbS
  rw [List.pairwise_append]
  refine ⟨?_, ?_, ?_⟩
  · rw [List.pairwise_map]
    refine List.Pairwise.imp_of_mem ?_ (h.srt.filter _)
    intro a b ha hb hab
    have h1 := (List.mem_filter.1 ha).2
    have h2 := (List.mem_filter.1 hb).2
    simp only [decide_eq_true_eq] at h1 h2
    unfold pairLt at hab; omega
  · rw [List.pairwise_map]
    refine List.Pairwise.imp_of_mem ?_ (h.srt.filter _)
    intro a b ha hb hab
    have h1 := (List.mem_filter.1 ha).2
    have h2 := (List.mem_filter.1 hb).2
    simp only [decide_eq_true_eq] at h1 h2
    unfold pairLt at hab; omega
  · intro y hy z hz
    obtain ⟨a, ha, rfl⟩ := List.mem_map.1 hy
    obtain ⟨b, hb, rfl⟩ := List.mem_map.1 hz
    have h1 := List.mem_filter.1 ha
    have h2 := List.mem_filter.1 hb
    have h3 := h1.2
    have h4 := h2.2
    simp only [decide_eq_true_eq] at h3 h4
    have := h.rng a h1.1
    have := h.rng b h2.1
    omega
theorem nbS_rng {n : Nat} {ps : List (Int × Int)} (h : StpOk n ps) {x y : Int} (hy : y ∈ nbS ps x) : 0 ≤ y ∧ y < n := by
  rcases (nbS_mem ps x y).1 hy with q | q
  · have := h.rng _ q; simp only at this; omega
  · have := h.rng _ q; simp only at this; omega
theorem rdS_ok {n : Nat} {ps : List (Int × Int)} (h : StpOk n ps) : LOk (rdS n ps).length (rdS n ps) := by
  intro i y hy
  rw [rdS_len]
  by_cases hi : i < n
  · rw [rdS_at n ps hi] at hy; exact nbS_rng h hy
  · rw [List.getD_eq_getElem?_getD, List.getElem?_eq_none (by rw [rdS_len]; omega)] at hy
    simp at hy
theorem StpOk.take {n : Nat} {ps : List (Int × Int)} (h : StpOk n ps) (i : Nat) : StpOk n (ps.take i) := ⟨fun e he => h.rng e (List.mem_of_mem_take he), h.srt.sublist (List.take_sublist _ _)⟩
/-- one step more -/
theorem nbS_snoc {n : Nat} {ps : List (Int × Int)} {e : Int × Int} (h : StpOk n (ps ++ [e])) (x : Int) : nbS (ps ++ [e]) x = nbS ps x ++ (if x = e.2 then [e.1] else if x = e.1 then [e.2] else []) := by
  have he := h.rng e (by simp)
  unfold nbS
  rw [List.filter_append, List.filter_append, List.map_append, List.map_append]
  by_cases h2 : x = e.2
  · subst h2
    have h0 : ps.filter (fun q => decide (q.1 = e.2)) = [] := by
      rw [List.filter_eq_nil_iff]
      intro q hq
      have := (List.pairwise_append.1 h.srt).2.2 q hq e (by simp)
      unfold pairLt at this
      simp only [decide_eq_true_eq]; omega
    rw [h0, if_pos rfl]
    have : ¬ e.1 = e.2 := by omega
    simp [this]
  · rw [if_neg h2]
    have h2' : ¬ e.2 = x := fun q => h2 q.symm
    by_cases h1 : x = e.1
    · subst h1; simp [h2']
    · have h1' : ¬ e.1 = x := fun q => h1 q.symm
      simp [h1, h2', h1']
theorem nbS_adj {n : Nat} : ∀ (k : Nat) (ps : List (Int × Int)), ps.length = k → StpOk n ps → ∀ x, x < n → (adjL n ps).getD x [] = nbS ps (x : Int) := by
  intro k
  induction k with
  | zero =>
    intro ps hk h x hx
    have : ps = [] := List.length_eq_zero_iff.1 hk
    subst this
    simp [adjL, nbS, hx]
  | succ k ih =>
    intro ps hk h x hx
    have hne : ps ≠ [] := by intro e; rw [e] at hk; simp at hk
    obtain ⟨qs, e, rfl⟩ : ∃ qs e, ps = qs ++ [e] := ⟨_, _, (List.dropLast_concat_getLast hne).symm⟩
    have hq : StpOk n qs := ⟨fun z hz => h.rng z (by simp [hz]), (List.pairwise_append.1 h.srt).1⟩
    have hi := ih qs (by simpa using hk) hq
    have he := h.rng e (by simp)
    rw [nbS_snoc h]
    have : adjL n (qs ++ [e]) = adj1 (adjL n qs) e := by unfold adjL; rw [List.foldl_append]; rfl
    rw [this]
    unfold adj1
    have hl := adjL_len n qs
    rw [List.getD_eq_getElem?_getD, List.getElem?_set, List.length_set]
    by_cases h2 : e.2.toNat = x
    · rw [if_pos h2, if_pos (by omega), if_pos (by omega)]
      show (adjL n qs).getD e.2.toNat [] ++ [e.1] = _
      rw [h2, hi x hx]
    · rw [if_neg h2, if_neg (by omega), List.getElem?_set]
      by_cases h1 : e.1.toNat = x
      · rw [if_pos h1, if_pos (by omega), if_pos (by omega)]
        show (adjL n qs).getD e.1.toNat [] ++ [e.2] = _
        rw [h1, hi x hx]
      · rw [if_neg h1, if_neg (by omega), ← List.getD_eq_getElem?_getD, hi x hx, List.append_nil]
theorem rdS_adj {n : Nat} {ps : List (Int × Int)} (h : StpOk n ps) : adjL n ps = rdS n ps := by
  refine List.ext_getElem (by rw [adjL_len, rdS_len]) fun i h1 h2 => ?_
  have hi : i < n := by rw [adjL_len] at h1; exact h1
  have := nbS_adj ps.length ps rfl h i hi
  have e2 := rdS_at n ps hi
  simp only [List.getD_eq_getElem?_getD, List.getElem?_eq_getElem h1, List.getElem?_eq_getElem h2, Option.getD_some] at this e2
  rw [this, e2]
theorem perm_asc {ys xs : List Int} (hp : ys.Perm xs) (ha : Asc ys) (hx : xs.Pairwise (· < ·)) : ys = xs := by
  have h1 := asc_of ha
  have hn : ys.Nodup := hp.nodup_iff.2 (hx.imp fun h e => by omega)
  have h2 : ys.Pairwise (· < ·) := by
    refine List.Pairwise.imp₂ (S := (· ≠ ·)) (fun a b h3 h4 => ?_) h1 hn
    omega
  exact hp.eq_of_pairwise (le := (· < ·)) (fun a b _ _ h3 h4 => by omega) h2 hx
set_option maxRecDepth 20000 in
set_option maxHeartbeats 4000000 in
theorem spRoads_c (a b : Value) (ls : List (List Int)) (ps : List (Int × Int)) (H : AH) (hr : SpRow H a b ls ps) (hn : ls.length ≤ 1000) (hp : ps.length ≤ 1000000) (hps : StpOk ls.length ps) (hdeg : ∀ x, (nbS ps x).length ≤ 12) :
    ACalls Tryz.prog 142 [.agg (List.toArray [a, b])] H fun r H' => (∃ bd, RowLB bd 38 3 H' r (rdS ls.length ps)) ∧ H <+: H' := by
  obtain ⟨⟨bd, us0, ra0, _, lu0, _⟩, rb0⟩ := id hr
  refine in142 rfl ?_
  intro Q hQ
  have mk := mk_lists (n := (ls.length : Int)) (by omega) (by omega)
  simp only [Int.toNat_natCast] at mk
  simp (maxSteps := 1000000) (disch := omega) only [cd142, hr.box, S, S1, S2, S3, S4, S5, ST, eq_self, reduceIte, reduceCtorEq, Nat.reduceEqDiff, Nat.reduceAdd]
  generalize hA : H ++ [AObj.cells [a, b] 28 false] = A
  have pA : H <+: A := by rw [← hA]; exact List.prefix_append _ _
  have cA : A[H.length]? = some (.cells [a, b] 28 false) := by rw [← hA]; exact at_new ..
  have lA : A.length = H.length + 1 := by rw [← hA]; simp
  simp (maxSteps := 1000000) (disch := omega) only [cell_of cA, (ra0.pre pA).len Tryz.underlying26, lu0, mk, S, S1, S2, S3, S4, S5, ST, eq_self, reduceIte, reduceCtorEq, Nat.reduceEqDiff, Nat.reduceAdd]
  generalize hB : A ++ [AObj.cells (List.replicate ls.length (.slice none 0 0)) 38 false] = B
  have pB : A <+: B := by rw [← hB]; exact List.prefix_append _ _
  have cB : B[A.length]? = some (.cells (List.replicate ls.length (.slice none 0 0)) 38 false) := by rw [← hB]; exact at_new ..
  have lB : B.length = A.length + 1 := by rw [← hB]; simp
  have rb := rb0.pre (pA.trans pB)
  have adj0 : Adj B B A.length (List.replicate ls.length (.slice none 0 0)) (adjL ls.length (ps.take 0)) := by
    refine ⟨cB, by omega, by simp [adjL_len], fun i hi => ?_, fun i j _ hi _ => ?_, fun j y _ hy => hy, Nat.le_refl _⟩
    · rw [adjL_len] at hi
      exact .inl ⟨by simp [hi], by simp [adjL, hi]⟩
    · rw [adjL_len] at hi
      exact .inr (.inl (by simp [hi]))
  generalize hNN : ls.length = N at *
  simp (maxSteps := 1000000) (disch := omega) only [cell_of (pre_at pB cA), rb.len Tryz.underlying22, S, S1, S2, S3, S4, S5, ST, eq_self, reduceIte, reduceCtorEq, Nat.reduceEqDiff, Nat.reduceAdd]
  refine LoopH.by (fun m s H' => ∃ (i : Nat) (us : List Value), m + i = ps.length ∧ s 3 = .slice (some ⟨A.length, 0, none⟩) N N ∧ s 13 = b ∧ s 14 = .int .i64 (ps.length : Int) ∧ s 15 = .int .i64 ((i : Nat) : Int) ∧ Adj B H' A.length us (adjL N (ps.take i))) ps.length ?_ ?_
  · exact ⟨0, _, by simp, rfl, rfl, rfl, rfl, adj0⟩
  rintro m s H' ⟨i, us, hm, h3, h13, h14, h15, hJ⟩
  have keepB : ∀ {K : AH} {vs : List Value} {M : List (List Int)}, Adj B K A.length vs M → H <+: K := fun hK => prefix_of fun j y hy => hK.keep j y (by have := at_lt hy; omega) (pre_at (pA.trans pB) hy)
  have rH := rb0.pre (keepB hJ)
  have hLl := adjL_len N (ps.take i)
  simp (maxSteps := 1000000) (disch := omega) only [h3, h13, h14, h15, S, S1, S2, S3, S4, S5, ST, eq_self, reduceIte, reduceCtorEq, Nat.reduceEqDiff, Nat.reduceAdd]
  refine brD.intro (fun g => ?_) (fun g => ?_)
  · have hi : i < ps.length := by omega
    have he : ps.getD i (0, 0) ∈ ps := by simp [hi]
    have hrng := hps.rng _ he
    have htk : ps.take (i + 1) = ps.take i ++ [ps.getD i (0, 0)] := by
      rw [List.take_add_one, List.getElem?_eq_getElem hi]
      simp [hi]
    have hstep : adjL N (ps.take (i + 1)) = adj1 (adjL N (ps.take i)) (ps.getD i (0, 0)) := by
      rw [htk]; unfold adjL; rw [List.foldl_append]; rfl
    have hdg : ∀ x, x < N → ((adjL N (ps.take i)).getD x []).length ≤ 12 := by
      intro x hx
      rw [nbS_adj _ _ rfl (hps.take i) x hx]
      refine Nat.le_trans ?_ (hdeg (x : Int))
      unfold nbS
      simp only [List.length_append, List.length_map]
      have s1 := ((List.take_sublist i ps).filter fun e => decide (e.2 = (x : Int))).length_le
      have s2 := ((List.take_sublist i ps).filter fun e => decide (e.1 = (x : Int))).length_le
      omega
    have hld := rH.ld ag83 cs83 hi
    obtain ⟨x, hx⟩ : ∃ x : Nat, (ps.getD i (0, 0)).1 = x := ⟨(ps.getD i (0, 0)).1.toNat, by omega⟩
    obtain ⟨y, hy⟩ : ∃ y : Nat, (ps.getD i (0, 0)).2 = y := ⟨(ps.getD i (0, 0)).2.toNat, by omega⟩
    have est : adj1 (adjL N (ps.take i)) (ps.getD i (0, 0)) = ((adjL N (ps.take i)).set x ((adjL N (ps.take i)).getD x [] ++ [(y : Int)])).set y ((adjL N (ps.take i)).getD y [] ++ [(x : Int)]) := by
      unfold adj1; rw [hx, hy, Int.toNat_natCast, Int.toNat_natCast]
    rw [est] at hstep
    rw [hx, hy] at hrng hld
    generalize adjL N (ps.take i) = L at *
    have st0 := st_a2 (at_new H' (.cells [.int .i64 0, .int .i64 0] 83 false)) rfl (.int .i64 (x : Int)) (.int .i64 (y : Int))
    rw [set_new] at st0
    simp (maxSteps := 1000000) (disch := omega) only [h3, h13, h14, h15, rH.ix Tryz.underlying22 cs83, Int.toNat_natCast, hld, alloc_a2, st0, S, S1, S2, S3, S4, S5, ST, eq_self, reduceIte, reduceCtorEq, Nat.reduceEqDiff, Nat.reduceAdd]
    generalize hG : H' ++ [AObj.cells [.int .i64 (x : Int), .int .i64 (y : Int)] 83 false] = G
    have pG : H' <+: G := by rw [← hG]; exact List.prefix_append _ _
    have cG : G[H'.length]? = some (.cells [.int .i64 (x : Int), .int .i64 (y : Int)] 83 false) := by rw [← hG]; exact at_new ..
    have hJ1 := hJ.pre pG
    have hul := hJ1.len
    have fr : ∀ {z : Nat} , z < L.length → us.getD z undef = .slice none 0 0 ∨ H'.length ≠ rowO (us.getD z undef) := fun {z} hz => by
      rcases own_nil (hJ.el z hz) with q | q
      · exact .inl q
      · right; omega
    obtain ⟨v1, K1, a1, a2, a3, a4, a5, a6⟩ := hJ1.app1 (x := x) (by omega) (by have := hdg x (by omega); omega) (y : Int)
    have cux : us[x]? = some (us.getD x undef) := by simp [show x < us.length by omega]
    have cK1 := a2 _ _ (fr (show x < L.length by omega)) cG
    have st1 := st_at (P := Tryz.prog) (t := 38) (i := x) (y := v1) cs38 a3 (by omega) (by
      rcases a6.el x (by rw [List.length_set]; omega) with ⟨q, _⟩ | ⟨o', q, _⟩ <;> rw [List.getD_eq_getElem?_getD, List.getElem?_set_self (by omega)] at q <;> simp only [Option.getD_some] at q <;> rw [q] <;> rfl) a5
    have cZ1 : (K1.set A.length (.cells (us.set x v1) 38 false))[H'.length]? = some (.cells [.int .i64 (x : Int), .int .i64 (y : Int)] 83 false) := by
      rw [List.getElem?_set_ne (by have := hJ.olt; have := hJ.le; omega)]; exact cK1
    have hat0 := hJ1.at_
    simp (maxSteps := 1000000) (disch := omega) only [h3, cell_of cG, Int.toNat_natCast, Nat.zero_add, cell_of hat0, cux, a1, cell_of cK1, st1, S, S1, S2, S3, S4, S5, ST, eq_self, reduceIte, reduceCtorEq, Nat.reduceEqDiff, Nat.reduceAdd]
    generalize hZ : K1.set A.length (.cells (us.set x v1) 38 false) = Z at *
    obtain ⟨v2, K2, b1, b2, b3, b4, b5, b6⟩ := a6.app1 (x := y) (by rw [List.length_set]; omega) (by
      rw [List.getD_eq_getElem?_getD, List.getElem?_set_ne (by omega), ← List.getD_eq_getElem?_getD]
      have := hdg y (by omega); omega) (x : Int)
    have hatZ := a6.at_
    have hLy : (L.set x (L.getD x [] ++ [(y : Int)])).getD y [] = L.getD y [] := by
      rw [List.getD_eq_getElem?_getD, List.getElem?_set_ne (by omega), ← List.getD_eq_getElem?_getD]
    rw [hLy, ← hstep] at b6
    have cuy : (us.set x v1)[y]? = some ((us.set x v1).getD y undef) := by simp [show y < us.length by omega]
    have frZ : (us.set x v1).getD y undef = .slice none 0 0 ∨ H'.length ≠ rowO ((us.set x v1).getD y undef) := by
      have : (us.set x v1).getD y undef = us.getD y undef := by
        rw [List.getD_eq_getElem?_getD, List.getElem?_set_ne (by omega), ← List.getD_eq_getElem?_getD]
      rw [this]; exact fr (by omega)
    have cK2 := b2 _ _ frZ cZ1
    have st2 := st_at (P := Tryz.prog) (t := 38) (i := y) (y := v2) cs38 b3 (by rw [List.length_set]; omega) (by
      rcases b6.el y (by rw [adjL_len]; omega) with ⟨q, _⟩ | ⟨o', q, _⟩ <;> rw [List.getD_eq_getElem?_getD, List.getElem?_set_self (by rw [List.length_set]; omega)] at q <;> simp only [Option.getD_some] at q <;> rw [q] <;> rfl) b5
    simp (maxSteps := 1000000) (disch := omega) only [h3, h13, h14, h15, cell_of cZ1, Int.toNat_natCast, Nat.zero_add, cell_of hatZ, cuy, b1, cell_of cK2, st2, wrap64, S, S1, S2, S3, S4, S5, ST, eq_self, reduceIte, reduceCtorEq, Nat.reduceEqDiff, Nat.reduceAdd]
    refine ⟨m - 1, by omega, i + 1, (us.set x v1).set y v2, ?_⟩
    (repeat' first | exact b6 | apply And.intro) <;> first | (simp only [Value.int.injEq, true_and]; omega) | omega | rfl | assumption | (simp; done) | (simp; omega)
  · have hi : i = ps.length := by omega
    subst hi
    rw [List.take_length, rdS_adj hps] at hJ
    clear hLl
    simp (maxSteps := 1000000) (disch := omega) only [h3, S, S1, S2, S3, S4, S5, ST, eq_self, reduceIte, reduceCtorEq, Nat.reduceEqDiff, Nat.reduceAdd]
    refine LoopH.by (fun m s H' => ∃ (i : Nat), m + i = N ∧ s 3 = .slice (some ⟨A.length, 0, none⟩) N N ∧ s 46 = .slice (some ⟨A.length, 0, none⟩) N N ∧ s 47 = .int .i64 (N : Int) ∧ s 48 = .int .i64 ((i : Nat) : Int) ∧ Adj B H' A.length us (rdS N ps)) N ?_ ?_
    · refine ⟨0, ?_⟩
      simp (maxSteps := 1000000) (disch := omega) only [h3, S, S1, S2, S3, S4, S5, ST, eq_self, reduceIte, reduceCtorEq, Nat.reduceEqDiff, Nat.reduceAdd]
      (repeat' first | exact hJ | apply And.intro) <;> first | (simp only [Value.int.injEq, true_and]; omega) | omega | rfl | assumption | (simp; done) | (simp; omega)
    rintro m' s' K ⟨i, hm', k3, k46, k47, k48, hJ'⟩
    have hrl := rdS_len N ps
    simp (maxSteps := 1000000) (disch := omega) only [k3, k46, k47, k48, S, S1, S2, S3, S4, S5, ST, eq_self, reduceIte, reduceCtorEq, Nat.reduceEqDiff, Nat.reduceAdd]
    refine brD.intro (fun g => ?_) (fun g => ?_)
    · have hi : i < N := by omega
      have hul := hJ'.len
      have hat := hJ'.at_
      have cui : us[i]? = some (us.getD i undef) := by simp [show i < us.length by omega]
      have hel := hJ'.el i (by omega)
      rw [rdS_at N ps hi] at hel
      simp (maxSteps := 1000000) (disch := omega) only [k3, k46, k47, k48, cell_of hat, Int.toNat_natCast, Nat.zero_add, cui, S, S1, S2, S3, S4, S5, ST, eq_self, reduceIte, reduceCtorEq, Nat.reduceEqDiff, Nat.reduceAdd]
      refine CallH.by (Sort_c _ _ _ K hel (hdeg _)) ?_
      rintro _ K2 ⟨ys, y1, y2, y3, y4⟩
      have hys := perm_asc y2 y3 (nbS_asc hps _)
      rw [hys] at y1
      have hJ2 := hJ'.same (x := i) (by omega) (by rw [rdS_at N ps hi]; exact y1) y4
      simp (maxSteps := 1000000) (disch := omega) only [k3, k46, k47, k48, wrap64, S, S1, S2, S3, S4, S5, ST, eq_self, reduceIte, reduceCtorEq, Nat.reduceEqDiff, Nat.reduceAdd]
      refine ⟨m' - 1, by omega, i + 1, ?_⟩
      (repeat' first | exact hJ2 | apply And.intro) <;> first | (simp only [Value.int.injEq, true_and]; omega) | omega | rfl | assumption | (simp; done) | (simp; omega)
    · simp (maxSteps := 1000000) (disch := omega) only [k3, S, S1, S2, S3, S4, S5, ST, eq_self, reduceIte, reduceCtorEq, Nat.reduceEqDiff, Nat.reduceAdd]
      refine hQ _ _ _ ?_
      simp (maxSteps := 1000000) (disch := omega) only [S, S1, S2, S3, S4, S5, ST, eq_self, reduceIte, reduceCtorEq, Nat.reduceEqDiff, Nat.reduceAdd]
      have hp2 := keepB hJ'
      have hu := (hJ'.inU (lo := H.length) (by omega)).row
      rw [hrl] at hu
      exact ⟨⟨_, hu⟩, hp2⟩
/-- what two passes over the steps have found -/
def twL (n : Nat) (ps qs : List (Int × Int)) : List (List Int) := (List.range n).map fun x : Nat => (ps.filter fun e => decide (e.2 = (x : Int))).map (·.1) ++ (qs.filter fun e => decide (e.1 = (x : Int))).map (·.2)
theorem twL_len (n : Nat) (ps qs : List (Int × Int)) : (twL n ps qs).length = n := by simp [twL]
theorem map_set (n k : Nat) (f g : Nat → List Int) (v : Int) (hk : k < n) (h1 : ∀ x, x ≠ k → g x = f x) (h2 : g k = f k ++ [v]) : (List.range n).map g = ((List.range n).map f).set k (((List.range n).map f).getD k [] ++ [v]) := by
  refine List.ext_getElem (by simp) fun i a1 a2 => ?_
  rw [List.getElem_set]
  simp only [List.getElem_map, List.getElem_range]
  by_cases e : k = i
  · subst e; rw [if_pos rfl, h2]; simp [hk]
  · rw [if_neg e, h1 i (fun q => e q.symm)]
theorem twL_one {n : Nat} {ps : List (Int × Int)} {e : Int × Int} {k : Nat} (hk : k < n) (he : e.2 = k) : twL n (ps ++ [e]) [] = (twL n ps []).set k ((twL n ps []).getD k [] ++ [e.1]) := by
  unfold twL
  refine map_set n k _ _ e.1 hk (fun x hx => ?_) ?_
  · have : ¬ e.2 = (x : Int) := by omega
    simp [this]
  · simp [he]
theorem twL_two {n : Nat} {ps qs : List (Int × Int)} {e : Int × Int} {k : Nat} (hk : k < n) (he : e.1 = k) : twL n ps (qs ++ [e]) = (twL n ps qs).set k ((twL n ps qs).getD k [] ++ [e.2]) := by
  unfold twL
  refine map_set n k _ _ e.2 hk (fun x hx => ?_) ?_
  · have : ¬ e.1 = (x : Int) := by omega
    simp [this]
  · simp [he]
theorem twL_deg {n : Nat} {ps qs : List (Int × Int)} (hq : qs.Sublist ps) (x : Nat) : ((twL n ps qs).getD x []).length ≤ (nbS ps x).length := by
  by_cases hx : x < n
  · unfold twL nbS
    simp only [List.getD_eq_getElem?_getD, List.getElem?_map, List.getElem?_range hx, Option.map_some, Option.getD_some, List.length_append, List.length_map]
    have := (hq.filter fun e => decide (e.1 = (x : Int))).length_le
    omega
  · rw [List.getD_eq_getElem?_getD, List.getElem?_eq_none (by rw [twL_len]; omega)]; simp
theorem twL_deg1 {n : Nat} {ps qs : List (Int × Int)} (hq : qs.Sublist ps) (x : Nat) : ((twL n qs []).getD x []).length ≤ (nbS ps x).length := by
  by_cases hx : x < n
  · unfold twL nbS
    simp only [List.getD_eq_getElem?_getD, List.getElem?_map, List.getElem?_range hx, Option.map_some, Option.getD_some, List.length_append, List.length_map]
    have := (hq.filter fun e => decide (e.2 = (x : Int))).length_le
    simp; omega
  · rw [List.getD_eq_getElem?_getD, List.getElem?_eq_none (by rw [twL_len]; omega)]; simp
set_option maxRecDepth 20000 in
set_option maxHeartbeats 4000000 in
theorem l2Lists_c (a b : Value) (ls : List (List Int)) (ps : List (Int × Int)) (H : AH) (hr : SpRow H a b ls ps) (hn : ls.length ≤ 1000) (hp : ps.length ≤ 1000000) (hps : StpOk ls.length ps) (hdeg : ∀ x, (nbS ps x).length ≤ 12) :
    ACalls Tryz.prog 136 [.agg (List.toArray [a, b])] H fun r H' => (∃ bd, RowLB bd 38 3 H' r (rdS ls.length ps)) ∧ H <+: H' := by
  obtain ⟨⟨bd, us0, ra0, _, lu0, _⟩, rb0⟩ := id hr
  refine in136 rfl ?_
  intro Q hQ
  have mk := mk_lists (n := (ls.length : Int)) (by omega) (by omega)
  simp only [Int.toNat_natCast] at mk
  simp (maxSteps := 1000000) (disch := omega) only [cd136, hr.box, S, S1, S2, S3, S4, S5, ST, eq_self, reduceIte, reduceCtorEq, Nat.reduceEqDiff, Nat.reduceAdd]
  generalize hA : H ++ [AObj.cells [a, b] 28 false] = A
  have pA : H <+: A := by rw [← hA]; exact List.prefix_append _ _
  have cA : A[H.length]? = some (.cells [a, b] 28 false) := by rw [← hA]; exact at_new ..
  have lA : A.length = H.length + 1 := by rw [← hA]; simp
  simp (maxSteps := 1000000) (disch := omega) only [cell_of cA, (ra0.pre pA).len Tryz.underlying26, lu0, mk, S, S1, S2, S3, S4, S5, ST, eq_self, reduceIte, reduceCtorEq, Nat.reduceEqDiff, Nat.reduceAdd]
  generalize hB : A ++ [AObj.cells (List.replicate ls.length (.slice none 0 0)) 38 false] = B
  have pB : A <+: B := by rw [← hB]; exact List.prefix_append _ _
  have cB : B[A.length]? = some (.cells (List.replicate ls.length (.slice none 0 0)) 38 false) := by rw [← hB]; exact at_new ..
  have lB : B.length = A.length + 1 := by rw [← hB]; simp
  have adj0 : Adj B B A.length (List.replicate ls.length (.slice none 0 0)) (twL ls.length (ps.take 0) []) := by
    refine ⟨cB, by omega, by simp [twL_len], fun i hi => ?_, fun i j _ hi _ => ?_, fun j y _ hy => hy, Nat.le_refl _⟩
    · rw [twL_len] at hi
      exact .inl ⟨by simp [hi], by simp [twL, hi]⟩
    · rw [twL_len] at hi
      exact .inr (.inl (by simp [hi]))
  generalize hNN : ls.length = N at *
  have keepB : ∀ {K : AH} {vs : List Value} {M : List (List Int)}, Adj B K A.length vs M → A <+: K := fun hK => prefix_of fun j y hy => hK.keep j y (by have := at_lt hy; omega) (pre_at pB hy)
  refine LoopH.by (fun m s H' => ∃ (i : Nat) (us : List Value), m + i = ps.length ∧ s 1 = .pointer (some ⟨H.length, 0, none⟩) ∧ s 3 = .slice (some ⟨A.length, 0, none⟩) N N ∧ s 4 = .int .i64 ((i : Nat) : Int) ∧ Adj B H' A.length us (twL N (ps.take i) [])) ps.length ?_ ?_
  · exact ⟨0, _, by simp, rfl, rfl, rfl, adj0⟩
  rintro m s H' ⟨i, us, hm, h1, h3, h4, hJ⟩
  have rH := rb0.pre (pA.trans (keepB hJ))
  have cH := pre_at (keepB hJ) cA
  simp (maxSteps := 1000000) (disch := omega) only [h1, h3, h4, cell_of cH, rH.len Tryz.underlying22, S, S1, S2, S3, S4, S5, ST, eq_self, reduceIte, reduceCtorEq, Nat.reduceEqDiff, Nat.reduceAdd]
  refine brD.intro (fun g => ?_) (fun g => ?_)
  · have hi : i < ps.length := by omega
    have he : ps.getD i (0, 0) ∈ ps := by simp [hi]
    have hrng := hps.rng _ he
    have htk : ps.take (i + 1) = ps.take i ++ [ps.getD i (0, 0)] := by
      rw [List.take_add_one, List.getElem?_eq_getElem hi]
      simp [hi]
    have l0 := rH.cell0 hi
    have l1 := rH.cell1 hi
    obtain ⟨x, hx⟩ : ∃ x : Nat, (ps.getD i (0, 0)).1 = x := ⟨(ps.getD i (0, 0)).1.toNat, by omega⟩
    obtain ⟨y, hy⟩ : ∃ y : Nat, (ps.getD i (0, 0)).2 = y := ⟨(ps.getD i (0, 0)).2.toNat, by omega⟩
    have hstep := twL_one (ps := ps.take i) (show y < N by omega) hy
    have hdg := twL_deg1 (n := N) (List.take_sublist i ps) y
    have hd2 := hdeg (y : Int)
    have hLl := twL_len N (ps.take i) []
    rw [← htk] at hstep
    rw [hx] at l0 hstep
    rw [hy] at l1
    generalize twL N (ps.take i) [] = L at *
    have hul := hJ.len
    have hat := hJ.at_
    have cuy : us[y]? = some (us.getD y undef) := by simp [show y < us.length by omega]
    obtain ⟨v1, K1, a1, a2, a3, a4, a5, a6⟩ := hJ.app1 (x := y) (by omega) (by omega) (x : Int)
    have st1 := st_at (P := Tryz.prog) (t := 38) (i := y) (y := v1) cs38 a3 (by omega) (by
      rcases a6.el y (by rw [List.length_set]; omega) with ⟨q, _⟩ | ⟨o', q, _⟩ <;> rw [List.getD_eq_getElem?_getD, List.getElem?_set_self (by omega)] at q <;> simp only [Option.getD_some] at q <;> rw [q] <;> rfl) a5
    rw [← hstep] at a6
    simp (maxSteps := 1000000) (disch := omega) only [h1, h3, h4, cell_of cH, rH.ix Tryz.underlying22 cs83, Int.toNat_natCast, Nat.zero_add, l0, l1, cell_of hat, cuy, a1, st1, wrap64, S, S1, S2, S3, S4, S5, ST, eq_self, reduceIte, reduceCtorEq, Nat.reduceEqDiff, Nat.reduceAdd]
    refine ⟨m - 1, by omega, i + 1, us.set y v1, ?_⟩
    (repeat' first | exact a6 | apply And.intro) <;> first | (simp only [Value.int.injEq, true_and]; omega) | omega | rfl | assumption | (simp; done) | (simp; omega)
  · have hi : i = ps.length := by omega
    subst hi
    rw [List.take_length] at hJ
    have hJ0 : Adj B H' A.length us (twL N ps (ps.take 0)) := hJ
    simp (maxSteps := 1000000) (disch := omega) only [h1, h3, S, S1, S2, S3, S4, S5, ST, eq_self, reduceIte, reduceCtorEq, Nat.reduceEqDiff, Nat.reduceAdd]
    refine LoopH.by (fun m s H' => ∃ (i : Nat) (us : List Value), m + i = ps.length ∧ s 1 = .pointer (some ⟨H.length, 0, none⟩) ∧ s 3 = .slice (some ⟨A.length, 0, none⟩) N N ∧ s 7 = .int .i64 ((i : Nat) : Int) ∧ Adj B H' A.length us (twL N ps (ps.take i))) ps.length ?_ ?_
    · refine ⟨0, us, ?_⟩
      simp (maxSteps := 1000000) (disch := omega) only [h1, h3, S, S1, S2, S3, S4, S5, ST, eq_self, reduceIte, reduceCtorEq, Nat.reduceEqDiff, Nat.reduceAdd]
      (repeat' first | exact hJ0 | apply And.intro) <;> first | (simp only [Value.int.injEq, true_and]; omega) | omega | rfl | assumption | (simp; done) | (simp; omega)
    rintro m' s' K ⟨i, us, hm', k1, k3, k7, hJ⟩
    have rH := rb0.pre (pA.trans (keepB hJ))
    have cH := pre_at (keepB hJ) cA
    simp (maxSteps := 1000000) (disch := omega) only [k1, k3, k7, cell_of cH, rH.len Tryz.underlying22, S, S1, S2, S3, S4, S5, ST, eq_self, reduceIte, reduceCtorEq, Nat.reduceEqDiff, Nat.reduceAdd]
    refine brD.intro (fun g => ?_) (fun g => ?_)
    · have hi : i < ps.length := by omega
      have he : ps.getD i (0, 0) ∈ ps := by simp [hi]
      have hrng := hps.rng _ he
      have htk : ps.take (i + 1) = ps.take i ++ [ps.getD i (0, 0)] := by
        rw [List.take_add_one, List.getElem?_eq_getElem hi]
        simp [hi]
      have l0 := rH.cell0 hi
      have l1 := rH.cell1 hi
      obtain ⟨x, hx⟩ : ∃ x : Nat, (ps.getD i (0, 0)).1 = x := ⟨(ps.getD i (0, 0)).1.toNat, by omega⟩
      obtain ⟨y, hy⟩ : ∃ y : Nat, (ps.getD i (0, 0)).2 = y := ⟨(ps.getD i (0, 0)).2.toNat, by omega⟩
      have hstep := twL_two (ps := ps) (qs := ps.take i) (show x < N by omega) hx
      have hdg := twL_deg (n := N) (List.take_sublist i ps) x
      have hd2 := hdeg (x : Int)
      have hLl := twL_len N ps (ps.take i)
      rw [← htk] at hstep
      rw [hx] at l0
      rw [hy] at l1 hstep
      generalize twL N ps (ps.take i) = L at *
      have hul := hJ.len
      have hat := hJ.at_
      have cux : us[x]? = some (us.getD x undef) := by simp [show x < us.length by omega]
      obtain ⟨v1, K1, a1, a2, a3, a4, a5, a6⟩ := hJ.app1 (x := x) (by omega) (by omega) (y : Int)
      have st1 := st_at (P := Tryz.prog) (t := 38) (i := x) (y := v1) cs38 a3 (by omega) (by
        rcases a6.el x (by rw [List.length_set]; omega) with ⟨q, _⟩ | ⟨o', q, _⟩ <;> rw [List.getD_eq_getElem?_getD, List.getElem?_set_self (by omega)] at q <;> simp only [Option.getD_some] at q <;> rw [q] <;> rfl) a5
      rw [← hstep] at a6
      simp (maxSteps := 1000000) (disch := omega) only [k1, k3, k7, cell_of cH, rH.ix Tryz.underlying22 cs83, Int.toNat_natCast, Nat.zero_add, l0, l1, cell_of hat, cux, a1, st1, wrap64, S, S1, S2, S3, S4, S5, ST, eq_self, reduceIte, reduceCtorEq, Nat.reduceEqDiff, Nat.reduceAdd]
      refine ⟨m' - 1, by omega, i + 1, us.set x v1, ?_⟩
      (repeat' first | exact a6 | apply And.intro) <;> first | (simp only [Value.int.injEq, true_and]; omega) | omega | rfl | assumption | (simp; done) | (simp; omega)
    · have hi : i = ps.length := by omega
      subst hi
      rw [List.take_length] at hJ
      simp (maxSteps := 1000000) (disch := omega) only [k3, S, S1, S2, S3, S4, S5, ST, eq_self, reduceIte, reduceCtorEq, Nat.reduceEqDiff, Nat.reduceAdd]
      refine hQ _ _ _ ?_
      simp (maxSteps := 1000000) (disch := omega) only [S, S1, S2, S3, S4, S5, ST, eq_self, reduceIte, reduceCtorEq, Nat.reduceEqDiff, Nat.reduceAdd]
      have hu := (hJ.inU (lo := H.length) (by omega)).row
      rw [twL_len] at hu
      exact ⟨⟨_, hu⟩, pA.trans (keepB hJ)⟩
end Go.Proofs.YtlfongfhbkefmaaGreat.Ai
namespace Go.Proofs.YtlfongfhbkefmaaGreat.Ai
open Go
def ords135 : List (Nat × List (Nat × Bool)) := [(6, [(0, false), (1, false), (2, false), (3, false), (4, false), (5, false), (6, false), (7, false), (8, false)])]
def cd135 : Cd := (.seq (.reg [⟨⟨some 4, Op.assign (Operand.const (Value.bool false)), none⟩, []⟩]) (.seq (.seq (.reg [⟨⟨some 6, Op.move (Operand.tmp 0), none⟩, []⟩,
  ⟨⟨some 7, Op.call { callee := (Callee.builtin Builtin.len), args := #[(Operand.tmp 6)], argTypes := #[38] }, none⟩, []⟩,
  ⟨⟨some 8, Op.move (Operand.tmp 1), none⟩, []⟩,
  ⟨⟨some 9, Op.call { callee := (Callee.builtin Builtin.len), args := #[(Operand.tmp 8)], argTypes := #[38] }, none⟩, []⟩,
  ⟨⟨some 10, Op.binOp BinOp.neq 3 (Operand.tmp 7) (Operand.tmp 9) 3, none⟩, []⟩]) (.cond (Operand.tmp 10) (.seq (.reg [⟨⟨some 4, Op.assign (Operand.const (Value.bool false)), none⟩, []⟩]) .ret) .skip)) (.seq (.seq (.reg [⟨⟨some 5, Op.assign (Operand.const (Value.int IntKind.i64 0)), none⟩, []⟩]) (.block 0 (.loop (.seq (.seq (.reg [⟨⟨some 11, Op.move (Operand.tmp 5), none⟩, []⟩,
  ⟨⟨some 12, Op.move (Operand.tmp 0), none⟩, []⟩,
  ⟨⟨some 13, Op.call { callee := (Callee.builtin Builtin.len), args := #[(Operand.tmp 12)], argTypes := #[38] }, none⟩, []⟩,
  ⟨⟨some 14, Op.binOp BinOp.lss 3 (Operand.tmp 11) (Operand.tmp 13) 3, none⟩, []⟩]) (.cond (Operand.tmp 14) .skip (.exit 0))) (.seq (.block 1 (.seq (.reg [⟨⟨some 17, Op.move (Operand.tmp 0), none⟩, []⟩,
  ⟨⟨some 18, Op.move (Operand.tmp 5), none⟩, []⟩,
  ⟨⟨some 19, Op.indexAddr 38 (Operand.tmp 17) (Operand.tmp 18), none⟩, []⟩,
  ⟨⟨some 20, Op.load 3 (Operand.tmp 19), none⟩, []⟩,
  ⟨⟨some 21, Op.move (Operand.tmp 1), none⟩, []⟩,
  ⟨⟨some 22, Op.move (Operand.tmp 5), none⟩, []⟩,
  ⟨⟨some 23, Op.indexAddr 38 (Operand.tmp 21) (Operand.tmp 22), none⟩, []⟩,
  ⟨⟨some 24, Op.load 3 (Operand.tmp 23), none⟩, []⟩,
  ⟨⟨some 25, Op.binOp BinOp.neq 3 (Operand.tmp 20) (Operand.tmp 24) 3, none⟩, []⟩]) (.cond (Operand.tmp 25) (.seq (.reg [⟨⟨some 4, Op.assign (Operand.const (Value.bool false)), none⟩, []⟩]) .ret) .skip))) (.reg [⟨⟨some 15, Op.move (Operand.tmp 5), none⟩, []⟩,
  ⟨⟨some 16, Op.binOp BinOp.add 3 (Operand.tmp 15) (Operand.const (Value.int IntKind.i64 1)) 3, none⟩, []⟩,
  ⟨⟨some 5, Op.assign (Operand.tmp 16), none⟩, []⟩])))))) (.seq (.reg [⟨⟨some 4, Op.assign (Operand.const (Value.bool true)), none⟩, []⟩]) .ret))))
theorem sl135 : slim Tryz.f135.ntmps ords135 (Tryz.f135.body.getD .skip) = some cd135 := by kernel_rfl
theorem in135 {args : List Value} {H : AH} {R : Value → AH → Prop} (hl : args.length = 2) (h : ∀ (Q : Exit → Sl → AH → Prop), (∀ e s H, endA Tryz.prog [ResultVar.tmp 4] R e s H → Q e s H) → wpC Tryz.prog cd135 Q (enterA args) H) : ACalls Tryz.prog 135 args H R :=
  ACalls.intro (by kernel_rfl) Tryz.func135 rfl (by kernel_rfl) sl135 hl (of_decide_eq_true (by kernel_rfl)) (by kernel_rfl) h
end Go.Proofs.YtlfongfhbkefmaaGreat.Ai
namespace Go.Proofs.YtlfongfhbkefmaaGreat.Ai
open Go Go.RowKit
set_option linter.unusedVariables false
set_option linter.unusedSimpArgs false
theorem l1Same_c (v w : Value) (xs ys : List Int) (H : AH) (hr : Row 3 H v xs) (hr2 : Row 3 H w ys) (hlen : xs.length ≤ 1099511627776) : ACalls Tryz.prog 135 [v, w] H fun r H' => r = .bool (decide (xs = ys)) ∧ H = H' := by
  refine in135 rfl ?_
  intro Q hQ
  simp (maxSteps := 1000000) (disch := omega) only [cd135, hr.len Tryz.underlying38, hr2.len Tryz.underlying38, S, S1, S2, S3, S4, S5, ST, eq_self, reduceIte, reduceCtorEq, Nat.reduceEqDiff, Nat.reduceAdd]
  refine brD.intro (fun g => ?_) (fun g => ?_) <;> simp (maxSteps := 1000000) (disch := omega) only [hr.len Tryz.underlying38, S, S1, S2, S3, S4, S5, ST, eq_self, reduceIte, reduceCtorEq, Nat.reduceEqDiff, Nat.reduceAdd]
  · refine hQ _ _ _ ?_
    simp (maxSteps := 1000000) (disch := omega) only [S, S1, S2, S3, S4, S5, ST, eq_self, reduceIte, reduceCtorEq, Nat.reduceEqDiff, Nat.reduceAdd]
    have : xs ≠ ys := fun e => g (by rw [e])
    simp [this]
  · have hl : xs.length = ys.length := by omega
    refine LoopH.by (fun m s H' => ∃ i, m + i = xs.length ∧ s 0 = v ∧ s 1 = w ∧ s 5 = .int .i64 ((i : Nat) : Int) ∧ H = H' ∧ xs.take i = ys.take i) xs.length ?_ ?_
    · exact ⟨0, by simp, rfl, rfl, rfl, rfl, by simp⟩
    · rintro m s H' ⟨i, hm, h0, h1, h5, rfl, hn⟩
      simp (maxSteps := 1000000) (disch := omega) only [h0, h1, h5, hr.len Tryz.underlying38, S, S1, S2, S3, S4, S5, ST, eq_self, reduceIte, reduceCtorEq, Nat.reduceEqDiff, Nat.reduceAdd]
      refine brD.intro (fun g => ?_) (fun g => ?_) <;> simp (maxSteps := 1000000) (disch := omega) only [h0, h1, h5, hr.ix Tryz.underlying38 cs3, hr.cell, hr2.ix Tryz.underlying38 cs3, hr2.cell, Int.toNat_natCast, S, S1, S2, S3, S4, S5, ST, eq_self, reduceIte, reduceCtorEq, Nat.reduceEqDiff, Nat.reduceAdd]
      · have hi : i < xs.length := by omega
        have hg : xs.getD i 0 = xs[i] := by simp [hi]
        have hg2 : ys.getD i 0 = ys[i] := by simp [hl ▸ hi]
        refine brD.intro (fun e => ?_) (fun e => ?_) <;> simp (maxSteps := 1000000) (disch := omega) only [h0, h1, h5, wrap64, S, S1, S2, S3, S4, S5, ST, eq_self, reduceIte, reduceCtorEq, Nat.reduceEqDiff, Nat.reduceAdd]
        · refine hQ _ _ _ ?_
          simp (maxSteps := 1000000) (disch := omega) only [S, S1, S2, S3, S4, S5, ST, eq_self, reduceIte, reduceCtorEq, Nat.reduceEqDiff, Nat.reduceAdd]
          have : xs ≠ ys := by
            intro e'
            subst e'
            exact e rfl
          simp [this]
        · refine ⟨m - 1, by omega, i + 1, by omega, by simp, ?_⟩
          rw [List.take_add_one, List.take_add_one, hn, List.getElem?_eq_getElem hi, List.getElem?_eq_getElem (hl ▸ hi)]
          rw [hg, hg2] at e
          rw [Decidable.not_not.1 e]
      · refine hQ _ _ _ ?_
        simp (maxSteps := 1000000) (disch := omega) only [S, S1, S2, S3, S4, S5, ST, eq_self, reduceIte, reduceCtorEq, Nat.reduceEqDiff, Nat.reduceAdd]
        rw [List.take_of_length_le (by omega), List.take_of_length_le (by omega)] at hn
        simp [hn]
end Go.Proofs.YtlfongfhbkefmaaGreat.Ai
namespace Go.Proofs.YtlfongfhbkefmaaGreat.Ai
open Go
def ords141 : List (Nat × List (Nat × Bool)) := []
def cd141 : Cd := (.seq (.reg [⟨⟨some 6, Op.assign (Operand.const (Value.int IntKind.i64 0)), none⟩, []⟩,
  ⟨⟨some 7, Op.assign (Operand.const (Value.bool false)), none⟩, []⟩]) (.seq (.reg [⟨⟨some 12, Op.move (Operand.tmp 0), none⟩, []⟩,
  ⟨⟨some 13, Op.call { callee := (Callee.builtin Builtin.len), args := #[(Operand.tmp 12)], argTypes := #[26] }, none⟩, []⟩,
  ⟨⟨some 8, Op.assign (Operand.tmp 13), none⟩, []⟩]) (.seq (.reg [⟨⟨some 14, Op.move (Operand.tmp 8), none⟩, []⟩,
  ⟨⟨some 9, Op.assign (Operand.const (Value.int IntKind.i64 0)), none⟩, []⟩,
  ⟨⟨some 10, Op.assign (Operand.tmp 14), none⟩, []⟩]) (.seq (.block 0 (.loop (.seq (.seq (.reg [⟨⟨some 15, Op.move (Operand.tmp 9), none⟩, []⟩,
  ⟨⟨some 16, Op.move (Operand.tmp 10), none⟩, []⟩,
  ⟨⟨some 17, Op.binOp BinOp.lss 3 (Operand.tmp 15) (Operand.tmp 16) 3, none⟩, []⟩]) (.cond (Operand.tmp 17) .skip (.exit 0))) (.block 1 (.seq (.reg [⟨⟨some 18, Op.move (Operand.tmp 9), none⟩, []⟩,
  ⟨⟨some 19, Op.move (Operand.tmp 10), none⟩, []⟩,
  ⟨⟨some 20, Op.binOp BinOp.add 3 (Operand.tmp 18) (Operand.tmp 19) 3, none⟩, []⟩,
  ⟨⟨some 21, Op.convert 3 108 (Operand.tmp 20), none⟩, []⟩,
  ⟨⟨some 22, Op.binOp BinOp.shr 108 (Operand.tmp 21) (Operand.const (Value.int IntKind.u64 1)) 108, none⟩, []⟩,
  ⟨⟨some 23, Op.convert 108 3 (Operand.tmp 22), none⟩, []⟩,
  ⟨⟨some 11, Op.assign (Operand.tmp 23), none⟩, []⟩]) (.seq (.reg [⟨⟨some 24, Op.move (Operand.tmp 2), none⟩, []⟩,
  ⟨⟨some 25, Op.move (Operand.tmp 0), none⟩, []⟩,
  ⟨⟨some 26, Op.move (Operand.tmp 11), none⟩, []⟩,
  ⟨⟨some 27, Op.indexAddr 26 (Operand.tmp 25) (Operand.tmp 26), none⟩, []⟩,
  ⟨⟨some 28, Op.load 38 (Operand.tmp 27), none⟩, []⟩,
  ⟨⟨some 29, Op.move (Operand.tmp 1), none⟩, []⟩,
  ⟨⟨some 30, Op.call { callee := (Callee.value (Operand.tmp 24)), args := #[(Operand.tmp 28), (Operand.tmp 29)], argTypes := #[38, 38] }, none⟩, []⟩,
  ⟨⟨some 31, Op.binOp BinOp.lss 3 (Operand.tmp 30) (Operand.const (Value.int IntKind.i64 0)) 3, none⟩, []⟩]) (.cond (Operand.tmp 31) (.reg [⟨⟨some 32, Op.move (Operand.tmp 11), none⟩, []⟩,
  ⟨⟨some 33, Op.binOp BinOp.add 3 (Operand.tmp 32) (Operand.const (Value.int IntKind.i64 1)) 3, none⟩, []⟩,
  ⟨⟨some 9, Op.assign (Operand.tmp 33), none⟩, []⟩]) (.reg [⟨⟨some 34, Op.move (Operand.tmp 11), none⟩, []⟩,
  ⟨⟨some 10, Op.assign (Operand.tmp 34), none⟩, []⟩])))))))) (.seq (.reg [⟨⟨some 35, Op.move (Operand.tmp 9), none⟩, []⟩,
  ⟨⟨some 36, Op.move (Operand.tmp 9), none⟩, []⟩,
  ⟨⟨some 37, Op.move (Operand.tmp 8), none⟩, []⟩,
  ⟨⟨some 38, Op.binOp BinOp.lss 3 (Operand.tmp 36) (Operand.tmp 37) 3, none⟩, []⟩,
  ⟨⟨some 39, Op.move (Operand.tmp 38), none⟩, []⟩,
  ⟨⟨some 40, Op.move (Operand.tmp 2), some (39, true)⟩, []⟩,
  ⟨⟨some 41, Op.move (Operand.tmp 0), some (39, true)⟩, []⟩,
  ⟨⟨some 42, Op.move (Operand.tmp 9), some (39, true)⟩, []⟩,
  ⟨⟨some 43, Op.indexAddr 26 (Operand.tmp 41) (Operand.tmp 42), some (39, true)⟩, []⟩,
  ⟨⟨some 44, Op.load 38 (Operand.tmp 43), some (39, true)⟩, []⟩,
  ⟨⟨some 45, Op.move (Operand.tmp 1), some (39, true)⟩, []⟩,
  ⟨⟨some 46, Op.call { callee := (Callee.value (Operand.tmp 40)), args := #[(Operand.tmp 44), (Operand.tmp 45)], argTypes := #[38, 38] }, some (39, true)⟩, []⟩,
  ⟨⟨some 47, Op.binOp BinOp.eql 3 (Operand.tmp 46) (Operand.const (Value.int IntKind.i64 0)) 3, some (39, true)⟩, []⟩,
  ⟨⟨some 48, Op.pick (Operand.tmp 39) (Operand.tmp 47) (Operand.const (Value.bool false)), none⟩, []⟩,
  ⟨⟨some 6, Op.assign (Operand.tmp 35), none⟩, []⟩,
  ⟨⟨some 7, Op.assign (Operand.tmp 48), none⟩, []⟩]) .ret)))))
theorem sl141 : slim Tryz.f141.ntmps ords141 (Tryz.f141.body.getD .skip) = some cd141 := by kernel_rfl
theorem in141 {args : List Value} {H : AH} {R : Value → AH → Prop} (hl : args.length = 3) (h : ∀ (Q : Exit → Sl → AH → Prop), (∀ e s H, endA Tryz.prog [ResultVar.tmp 6, ResultVar.tmp 7] R e s H → Q e s H) → wpC Tryz.prog cd141 Q (enterA args) H) : ACalls Tryz.prog 141 args H R :=
  ACalls.intro (by kernel_rfl) Tryz.func141 rfl (by kernel_rfl) sl141 hl (of_decide_eq_true (by kernel_rfl)) (by kernel_rfl) h
def ords108 : List (Nat × List (Nat × Bool)) := []
def cd108 : Cd := (.seq (.reg [⟨⟨some 2, Op.box 28 (Operand.tmp 0), none⟩, []⟩,
  ⟨⟨some 4, Op.assign (Operand.const (Value.int IntKind.i64 0)), none⟩, []⟩,
  ⟨⟨some 5, Op.assign (Operand.const (Value.bool false)), none⟩, []⟩]) (.seq (.reg [⟨⟨some 6, Op.fieldAddr 28 (Operand.tmp 2) 0, none⟩, []⟩,
  ⟨⟨some 7, Op.load 26 (Operand.tmp 6), none⟩, []⟩,
  ⟨⟨some 8, Op.move (Operand.tmp 1), none⟩, []⟩,
  ⟨⟨some 9, Op.call { callee := (Callee.value (Operand.func 141)), args := #[(Operand.tmp 7), (Operand.tmp 8), (Operand.func 91)], argTypes := #[26, 38, 105] }, none⟩, []⟩,
  ⟨⟨some 10, Op.extract (Operand.tmp 9) 0, none⟩, []⟩,
  ⟨⟨some 11, Op.extract (Operand.tmp 9) 1, none⟩, []⟩,
  ⟨⟨some 4, Op.assign (Operand.tmp 10), none⟩, []⟩,
  ⟨⟨some 5, Op.assign (Operand.tmp 11), none⟩, []⟩]) .ret))
theorem sl108 : slim Tryz.f108.ntmps ords108 (Tryz.f108.body.getD .skip) = some cd108 := by kernel_rfl
theorem in108 {args : List Value} {H : AH} {R : Value → AH → Prop} (hl : args.length = 2) (h : ∀ (Q : Exit → Sl → AH → Prop), (∀ e s H, endA Tryz.prog [ResultVar.tmp 4, ResultVar.tmp 5] R e s H → Q e s H) → wpC Tryz.prog cd108 Q (enterA args) H) : ACalls Tryz.prog 108 args H R :=
  ACalls.intro (by kernel_rfl) Tryz.func108 rfl (by kernel_rfl) sl108 hl (of_decide_eq_true (by kernel_rfl)) (by kernel_rfl) h
def ords100 : List (Nat × List (Nat × Bool)) := []
def cd100 : Cd := (.seq (.reg [⟨⟨some 2, Op.box 28 (Operand.tmp 0), none⟩, []⟩,
  ⟨⟨some 4, Op.assign (Operand.const (Value.int IntKind.i64 0)), none⟩, []⟩]) (.seq (.seq (.reg [⟨⟨some 5, Op.assign (Operand.const (Value.int IntKind.i64 0)), none⟩, []⟩]) (.block 0 (.loop (.seq (.seq (.reg [⟨⟨some 6, Op.move (Operand.tmp 5), none⟩, []⟩,
  ⟨⟨some 7, Op.fieldAddr 28 (Operand.tmp 2) 0, none⟩, []⟩,
  ⟨⟨some 8, Op.load 26 (Operand.tmp 7), none⟩, []⟩,
  ⟨⟨some 9, Op.call { callee := (Callee.builtin Builtin.len), args := #[(Operand.tmp 8)], argTypes := #[26] }, none⟩, []⟩,
  ⟨⟨some 10, Op.binOp BinOp.lss 3 (Operand.tmp 6) (Operand.tmp 9) 3, none⟩, []⟩]) (.cond (Operand.tmp 10) .skip (.exit 0))) (.seq (.block 1 (.seq (.reg [⟨⟨some 13, Op.fieldAddr 28 (Operand.tmp 2) 0, none⟩, []⟩,
  ⟨⟨some 14, Op.load 26 (Operand.tmp 13), none⟩, []⟩,
  ⟨⟨some 15, Op.move (Operand.tmp 5), none⟩, []⟩,
  ⟨⟨some 16, Op.indexAddr 26 (Operand.tmp 14) (Operand.tmp 15), none⟩, []⟩,
  ⟨⟨some 17, Op.load 38 (Operand.tmp 16), none⟩, []⟩,
  ⟨⟨some 18, Op.move (Operand.tmp 1), none⟩, []⟩,
  ⟨⟨some 19, Op.call { callee := (Callee.value (Operand.func 135)), args := #[(Operand.tmp 17), (Operand.tmp 18)], argTypes := #[38, 38] }, none⟩, []⟩]) (.cond (Operand.tmp 19) (.seq (.reg [⟨⟨some 20, Op.move (Operand.tmp 5), none⟩, []⟩,
  ⟨⟨some 4, Op.assign (Operand.tmp 20), none⟩, []⟩]) .ret) .skip))) (.reg [⟨⟨some 11, Op.move (Operand.tmp 5), none⟩, []⟩,
  ⟨⟨some 12, Op.binOp BinOp.add 3 (Operand.tmp 11) (Operand.const (Value.int IntKind.i64 1)) 3, none⟩, []⟩,
  ⟨⟨some 5, Op.assign (Operand.tmp 12), none⟩, []⟩])))))) (.seq (.reg [⟨⟨some 4, Op.assign (Operand.const (Value.int IntKind.i64 (-1))), none⟩, []⟩]) .ret)))
theorem sl100 : slim Tryz.f100.ntmps ords100 (Tryz.f100.body.getD .skip) = some cd100 := by kernel_rfl
theorem in100 {args : List Value} {H : AH} {R : Value → AH → Prop} (hl : args.length = 2) (h : ∀ (Q : Exit → Sl → AH → Prop), (∀ e s H, endA Tryz.prog [ResultVar.tmp 4] R e s H → Q e s H) → wpC Tryz.prog cd100 Q (enterA args) H) : ACalls Tryz.prog 100 args H R :=
  ACalls.intro (by kernel_rfl) Tryz.func100 rfl (by kernel_rfl) sl100 hl (of_decide_eq_true (by kernel_rfl)) (by kernel_rfl) h
def ords109 : List (Nat × List (Nat × Bool)) := [(10, [(0, false), (1, false), (2, false), (3, false), (4, false), (5, false), (6, false), (7, false), (8, false), (9, false)])]
def cd109 : Cd := (.seq (.reg [⟨⟨some 3, Op.box 28 (Operand.tmp 0), none⟩, []⟩,
  ⟨⟨some 6, Op.assign (Operand.const (Value.slice none 0 0)), none⟩, []⟩,
  ⟨⟨some 7, Op.assign (Operand.const (Value.bool false)), none⟩, []⟩]) (.seq (.reg [⟨⟨some 13, Op.load 28 (Operand.tmp 3), none⟩, []⟩,
  ⟨⟨some 14, Op.call { callee := (Callee.value (Operand.func 142)), args := #[(Operand.tmp 13)], argTypes := #[28] }, none⟩, []⟩,
  ⟨⟨some 8, Op.assign (Operand.tmp 14), none⟩, []⟩]) (.seq (.reg [⟨⟨some 15, Op.move (Operand.tmp 8), none⟩, []⟩,
  ⟨⟨some 16, Op.move (Operand.tmp 2), none⟩, []⟩,
  ⟨⟨some 17, Op.call { callee := (Callee.value (Operand.func 143)), args := #[(Operand.tmp 15), (Operand.tmp 16)], argTypes := #[26, 3] }, none⟩, []⟩,
  ⟨⟨some 9, Op.assign (Operand.tmp 17), none⟩, []⟩]) (.seq (.seq (.reg [⟨⟨some 18, Op.move (Operand.tmp 9), none⟩, []⟩,
  ⟨⟨some 19, Op.move (Operand.tmp 1), none⟩, []⟩,
  ⟨⟨some 20, Op.indexAddr 38 (Operand.tmp 18) (Operand.tmp 19), none⟩, []⟩,
  ⟨⟨some 21, Op.load 3 (Operand.tmp 20), none⟩, []⟩,
  ⟨⟨some 22, Op.binOp BinOp.lss 3 (Operand.tmp 21) (Operand.const (Value.int IntKind.i64 0)) 3, none⟩, []⟩]) (.cond (Operand.tmp 22) (.seq (.reg [⟨⟨some 6, Op.assign (Operand.const (Value.slice none 0 0)), none⟩, []⟩,
  ⟨⟨some 7, Op.assign (Operand.const (Value.bool false)), none⟩, []⟩]) .ret) .skip)) (.seq (.reg [⟨⟨some 23, Op.move (Operand.tmp 1), none⟩, []⟩,
  ⟨⟨some 24, Op.buildSlice 38 1 #[(0, (Operand.tmp 23))], none⟩, []⟩,
  ⟨⟨some 10, Op.assign (Operand.tmp 24), none⟩, []⟩]) (.seq (.block 0 (.loop (.seq (.seq (.reg [⟨⟨some 25, Op.move (Operand.tmp 1), none⟩, []⟩,
  ⟨⟨some 26, Op.move (Operand.tmp 2), none⟩, []⟩,
  ⟨⟨some 27, Op.binOp BinOp.neq 3 (Operand.tmp 25) (Operand.tmp 26) 3, none⟩, []⟩]) (.cond (Operand.tmp 27) .skip (.exit 0))) (.block 1 (.seq (.seq (.reg [⟨⟨some 28, Op.move (Operand.tmp 8), none⟩, []⟩,
  ⟨⟨some 29, Op.move (Operand.tmp 1), none⟩, []⟩,
  ⟨⟨some 30, Op.indexAddr 26 (Operand.tmp 28) (Operand.tmp 29), none⟩, []⟩,
  ⟨⟨some 31, Op.load 38 (Operand.tmp 30), none⟩, []⟩,
  ⟨⟨some 32, Op.call { callee := (Callee.builtin Builtin.len), args := #[(Operand.tmp 31)], argTypes := #[38] }, none⟩, []⟩,
  ⟨⟨some 33, Op.move (Operand.const (Value.int IntKind.i64 0)), none⟩, []⟩]) (.block 2 (.loop (.seq (.reg [⟨⟨some 34, Op.binOp BinOp.lss 3 (Operand.tmp 33) (Operand.tmp 32) 3, none⟩, []⟩]) (.seq (.cond (Operand.tmp 34) .skip (.exit 2)) (.seq (.block 3 (.seq (.reg [⟨⟨some 35, Op.indexAddr 38 (Operand.tmp 31) (Operand.tmp 33), none⟩, []⟩,
  ⟨⟨some 36, Op.load 3 (Operand.tmp 35), none⟩, []⟩,
  ⟨⟨some 12, Op.assign (Operand.tmp 36), none⟩, []⟩]) (.seq (.reg [⟨⟨some 37, Op.move (Operand.tmp 9), none⟩, []⟩,
  ⟨⟨some 38, Op.move (Operand.tmp 12), none⟩, []⟩,
  ⟨⟨some 39, Op.indexAddr 38 (Operand.tmp 37) (Operand.tmp 38), none⟩, []⟩,
  ⟨⟨some 40, Op.load 3 (Operand.tmp 39), none⟩, []⟩,
  ⟨⟨some 41, Op.move (Operand.tmp 9), none⟩, []⟩,
  ⟨⟨some 42, Op.move (Operand.tmp 1), none⟩, []⟩,
  ⟨⟨some 43, Op.indexAddr 38 (Operand.tmp 41) (Operand.tmp 42), none⟩, []⟩,
  ⟨⟨some 44, Op.load 3 (Operand.tmp 43), none⟩, []⟩,
  ⟨⟨some 45, Op.binOp BinOp.sub 3 (Operand.tmp 44) (Operand.const (Value.int IntKind.i64 1)) 3, none⟩, []⟩,
  ⟨⟨some 46, Op.binOp BinOp.eql 3 (Operand.tmp 40) (Operand.tmp 45) 3, none⟩, []⟩]) (.cond (Operand.tmp 46) (.seq (.reg [⟨⟨some 47, Op.move (Operand.tmp 12), none⟩, []⟩,
  ⟨⟨some 1, Op.assign (Operand.tmp 47), none⟩, []⟩]) (.exit 2)) .skip)))) (.reg [⟨⟨some 48, Op.binOp BinOp.add 3 (Operand.tmp 33) (Operand.const (Value.int IntKind.i64 1)) 3, none⟩, []⟩,
  ⟨⟨some 33, Op.move (Operand.tmp 48), none⟩, []⟩]))))))) (.reg [⟨⟨some 49, Op.move (Operand.tmp 10), none⟩, []⟩,
  ⟨⟨some 50, Op.move (Operand.tmp 1), none⟩, []⟩,
  ⟨⟨some 51, Op.buildSlice 38 1 #[(0, (Operand.tmp 50))], none⟩, []⟩,
  ⟨⟨some 52, Op.call { callee := (Callee.builtin Builtin.append), args := #[(Operand.tmp 49), (Operand.tmp 51)], argTypes := #[38, 38] }, none⟩, []⟩,
  ⟨⟨some 10, Op.assign (Operand.tmp 52), none⟩, []⟩])))))) (.seq (.reg [⟨⟨some 53, Op.move (Operand.tmp 10), none⟩, []⟩,
  ⟨⟨some 6, Op.assign (Operand.tmp 53), none⟩, []⟩,
  ⟨⟨some 7, Op.assign (Operand.const (Value.bool true)), none⟩, []⟩]) .ret)))))))
theorem sl109 : slim Tryz.f109.ntmps ords109 (Tryz.f109.body.getD .skip) = some cd109 := by kernel_rfl
theorem in109 {args : List Value} {H : AH} {R : Value → AH → Prop} (hl : args.length = 3) (h : ∀ (Q : Exit → Sl → AH → Prop), (∀ e s H, endA Tryz.prog [ResultVar.tmp 6, ResultVar.tmp 7] R e s H → Q e s H) → wpC Tryz.prog cd109 Q (enterA args) H) : ACalls Tryz.prog 109 args H R :=
  ACalls.intro (by kernel_rfl) Tryz.func109 rfl (by kernel_rfl) sl109 hl (of_decide_eq_true (by kernel_rfl)) (by kernel_rfl) h
def ords54 : List (Nat × List (Nat × Bool)) := []
def cd54 : Cd := (.seq (.reg [⟨⟨some 3, Op.box 28 (Operand.tmp 0), none⟩, []⟩,
  ⟨⟨some 6, Op.assign (Operand.const (Value.slice none 0 0)), none⟩, []⟩,
  ⟨⟨some 7, Op.assign (Operand.const (Value.bool false)), none⟩, []⟩]) (.seq (.reg [⟨⟨some 18, Op.load 28 (Operand.tmp 3), none⟩, []⟩,
  ⟨⟨some 19, Op.move (Operand.tmp 1), none⟩, []⟩,
  ⟨⟨some 20, Op.call { callee := (Callee.value (Operand.func 108)), args := #[(Operand.tmp 18), (Operand.tmp 19)], argTypes := #[28, 38] }, none⟩, []⟩,
  ⟨⟨some 17, Op.move (Operand.tmp 20), none⟩, []⟩,
  ⟨⟨some 21, Op.extract (Operand.tmp 17) 0, none⟩, []⟩,
  ⟨⟨some 22, Op.extract (Operand.tmp 17) 1, none⟩, []⟩,
  ⟨⟨some 8, Op.assign (Operand.tmp 21), none⟩, []⟩,
  ⟨⟨some 9, Op.assign (Operand.tmp 22), none⟩, []⟩]) (.seq (.reg [⟨⟨some 24, Op.load 28 (Operand.tmp 3), none⟩, []⟩,
  ⟨⟨some 25, Op.move (Operand.tmp 2), none⟩, []⟩,
  ⟨⟨some 26, Op.call { callee := (Callee.value (Operand.func 108)), args := #[(Operand.tmp 24), (Operand.tmp 25)], argTypes := #[28, 38] }, none⟩, []⟩,
  ⟨⟨some 23, Op.move (Operand.tmp 26), none⟩, []⟩,
  ⟨⟨some 27, Op.extract (Operand.tmp 23) 0, none⟩, []⟩,
  ⟨⟨some 28, Op.extract (Operand.tmp 23) 1, none⟩, []⟩,
  ⟨⟨some 10, Op.assign (Operand.tmp 27), none⟩, []⟩,
  ⟨⟨some 11, Op.assign (Operand.tmp 28), none⟩, []⟩]) (.seq (.seq (.reg [⟨⟨some 29, Op.move (Operand.tmp 9), none⟩, []⟩,
  ⟨⟨some 30, Op.unOp UnOp.not 4 (Operand.tmp 29), none⟩, []⟩,
  ⟨⟨some 31, Op.move (Operand.tmp 30), none⟩, []⟩,
  ⟨⟨some 32, Op.move (Operand.tmp 11), some (31, false)⟩, []⟩,
  ⟨⟨some 33, Op.unOp UnOp.not 4 (Operand.tmp 32), some (31, false)⟩, []⟩,
  ⟨⟨some 34, Op.pick (Operand.tmp 31) (Operand.const (Value.bool true)) (Operand.tmp 33), none⟩, []⟩]) (.cond (Operand.tmp 34) (.seq (.reg [⟨⟨some 6, Op.assign (Operand.const (Value.slice none 0 0)), none⟩, []⟩,
  ⟨⟨some 7, Op.assign (Operand.const (Value.bool false)), none⟩, []⟩]) .ret) .skip)) (.seq (.reg [⟨⟨some 36, Op.load 28 (Operand.tmp 3), none⟩, []⟩,
  ⟨⟨some 37, Op.move (Operand.tmp 8), none⟩, []⟩,
  ⟨⟨some 38, Op.move (Operand.tmp 10), none⟩, []⟩,
  ⟨⟨some 39, Op.call { callee := (Callee.value (Operand.func 109)), args := #[(Operand.tmp 36), (Operand.tmp 37), (Operand.tmp 38)], argTypes := #[28, 3, 3] }, none⟩, []⟩,
  ⟨⟨some 35, Op.move (Operand.tmp 39), none⟩, []⟩,
  ⟨⟨some 40, Op.extract (Operand.tmp 35) 0, none⟩, []⟩,
  ⟨⟨some 41, Op.extract (Operand.tmp 35) 1, none⟩, []⟩,
  ⟨⟨some 12, Op.assign (Operand.tmp 40), none⟩, []⟩,
  ⟨⟨some 13, Op.assign (Operand.tmp 41), none⟩, []⟩]) (.seq (.reg [⟨⟨some 42, Op.buildSlice 26 0 #[], none⟩, []⟩,
  ⟨⟨some 14, Op.assign (Operand.tmp 42), none⟩, []⟩]) (.seq (.seq (.reg [⟨⟨some 43, Op.move (Operand.tmp 12), none⟩, []⟩,
  ⟨⟨some 44, Op.call { callee := (Callee.builtin Builtin.len), args := #[(Operand.tmp 43)], argTypes := #[38] }, none⟩, []⟩,
  ⟨⟨some 45, Op.move (Operand.const (Value.int IntKind.i64 0)), none⟩, []⟩]) (.block 0 (.loop (.seq (.reg [⟨⟨some 46, Op.binOp BinOp.lss 3 (Operand.tmp 45) (Operand.tmp 44) 3, none⟩, []⟩]) (.seq (.cond (Operand.tmp 46) .skip (.exit 0)) (.seq (.block 1 (.seq (.reg [⟨⟨some 47, Op.indexAddr 38 (Operand.tmp 43) (Operand.tmp 45), none⟩, []⟩,
  ⟨⟨some 48, Op.load 3 (Operand.tmp 47), none⟩, []⟩,
  ⟨⟨some 16, Op.assign (Operand.tmp 48), none⟩, []⟩]) (.reg [⟨⟨some 49, Op.move (Operand.tmp 14), none⟩, []⟩,
  ⟨⟨some 50, Op.fieldAddr 28 (Operand.tmp 3) 0, none⟩, []⟩,
  ⟨⟨some 51, Op.load 26 (Operand.tmp 50), none⟩, []⟩,
  ⟨⟨some 52, Op.move (Operand.tmp 16), none⟩, []⟩,
  ⟨⟨some 53, Op.indexAddr 26 (Operand.tmp 51) (Operand.tmp 52), none⟩, []⟩,
  ⟨⟨some 54, Op.load 38 (Operand.tmp 53), none⟩, []⟩,
  ⟨⟨some 55, Op.call { callee := (Callee.value (Operand.func 77)), args := #[(Operand.tmp 54)], argTypes := #[38] }, none⟩, []⟩,
  ⟨⟨some 56, Op.buildSlice 26 1 #[(0, (Operand.tmp 55))], none⟩, []⟩,
  ⟨⟨some 57, Op.call { callee := (Callee.builtin Builtin.append), args := #[(Operand.tmp 49), (Operand.tmp 56)], argTypes := #[26, 26] }, none⟩, []⟩,
  ⟨⟨some 14, Op.assign (Operand.tmp 57), none⟩, []⟩]))) (.reg [⟨⟨some 58, Op.binOp BinOp.add 3 (Operand.tmp 45) (Operand.const (Value.int IntKind.i64 1)) 3, none⟩, []⟩,
  ⟨⟨some 45, Op.move (Operand.tmp 58), none⟩, []⟩]))))))) (.seq (.reg [⟨⟨some 59, Op.move (Operand.tmp 14), none⟩, []⟩,
  ⟨⟨some 60, Op.move (Operand.tmp 13), none⟩, []⟩,
  ⟨⟨some 6, Op.assign (Operand.tmp 59), none⟩, []⟩,
  ⟨⟨some 7, Op.assign (Operand.tmp 60), none⟩, []⟩]) .ret))))))))
theorem sl54 : slim Tryz.f54.ntmps ords54 (Tryz.f54.body.getD .skip) = some cd54 := by kernel_rfl
theorem in54 {args : List Value} {H : AH} {R : Value → AH → Prop} (hl : args.length = 3) (h : ∀ (Q : Exit → Sl → AH → Prop), (∀ e s H, endA Tryz.prog [ResultVar.tmp 6, ResultVar.tmp 7] R e s H → Q e s H) → wpC Tryz.prog cd54 Q (enterA args) H) : ACalls Tryz.prog 54 args H R :=
  ACalls.intro (by kernel_rfl) Tryz.func54 rfl (by kernel_rfl) sl54 hl (of_decide_eq_true (by kernel_rfl)) (by kernel_rfl) h
end Go.Proofs.YtlfongfhbkefmaaGreat.Ai
namespace Go.Proofs.YtlfongfhbkefmaaGreat.Ai
open Go Go.RowKit
set_option linter.unusedVariables false
set_option linter.unusedSimpArgs false
theorem shr_one (P : Program) (t : TypeId) (b : Nat) : binA P .shr t (.int .u64 (b : Int)) (.int .u64 1) = some (.int .u64 ((b / 2 : Nat) : Int)) := by
  simp only [binA, shiftA]
  rw [if_pos (.inr trivial), if_neg (by decide)]
  congr 2
  have : (2 ^ min (1 : Int).toNat IntKind.u64.bits : Int) = 2 := by decide
  rw [this, Int.fdiv_eq_ediv_of_nonneg _ (by decide)]
  omega
theorem conv_iu {n : Nat} (h : n < 2 ^ 62) : convA Tryz.prog 3 108 (.int .i64 (n : Int)) = some (.int .u64 (n : Int)) := by
  simp only [convA, Tryz.underlying108, Tryz.underlying3]
  rw [IntKind.wrap_u64]
  congr 2; omega
theorem conv_ui {n : Nat} (h : n < 2 ^ 62) : convA Tryz.prog 108 3 (.int .u64 (n : Int)) = some (.int .i64 (n : Int)) := by
  simp only [convA, Tryz.underlying108, Tryz.underlying3]
  rw [wrap64 (by omega) (by omega)]
set_option maxRecDepth 20000 in
set_option maxHeartbeats 4000000 in
theorem BSearch_c {v w : Value} {us : List Value} {ls : List (List Int)} {t : List Int} {H : AH} (h : Sts H v us ls) (hw : Row 3 H w t) (hl : t.length ≤ 1099511627776) :
    ACalls Tryz.prog 141 [v, w, fnCmp] H fun r H' => (∃ i : Nat, r = .tuple (List.toArray [.int .i64 (i : Int), .bool (decide (t ∈ ls))]) ∧ (t ∈ ls → i < ls.length ∧ ls.getD i [] = t)) ∧ H = H' := by
  refine in141 rfl ?_
  intro Q hQ
  have hul := h.len
  have hb := h.bnd
  have cmp : ∀ i, i < ls.length → ACalls Tryz.prog 91 [us.getD i undef, w] H fun r H' => r = .int .i64 (cmpL (ls.getD i []) t) ∧ H = H' := fun i hi => CmpL_c _ _ _ _ H (h.each i hi) hw (h.small i hi) hl
  simp (maxSteps := 1000000) (disch := omega) only [cd141, h.row.len Tryz.underlying26, hul, S, S1, S2, S3, S4, S5, ST, eq_self, reduceIte, reduceCtorEq, Nat.reduceEqDiff, Nat.reduceAdd]
  refine LoopH.by (fun m s H' => ∃ (i j : Nat), m + i = j ∧ j ≤ ls.length ∧ s 0 = v ∧ s 1 = w ∧ s 2 = fnCmp ∧ s 8 = .int .i64 (ls.length : Int) ∧ s 9 = .int .i64 ((i : Nat) : Int) ∧ s 10 = .int .i64 ((j : Nat) : Int) ∧ H = H' ∧ (∀ k, k < i → cmpL (ls.getD k []) t < 0) ∧ ∀ k, j ≤ k → k < ls.length → ¬ cmpL (ls.getD k []) t < 0) ls.length ?_ ?_
  · refine ⟨0, ls.length, by simp, Nat.le_refl _, rfl, rfl, rfl, rfl, rfl, rfl, rfl, fun k hk => absurd hk (Nat.not_lt_zero k), fun k h1 h2 => by omega⟩
  rintro m s H' ⟨i, j, hm, hj, h0, h1, h2, h8, h9, h10, rfl, lo, hi⟩
  simp (maxSteps := 1000000) (disch := omega) only [h0, h1, h2, h8, h9, h10, S, S1, S2, S3, S4, S5, ST, eq_self, reduceIte, reduceCtorEq, Nat.reduceEqDiff, Nat.reduceAdd]
  refine brD.intro (fun g => ?_) (fun g => ?_)
  · have hij : i < j := by omega
    have hmid : (i + j) / 2 < ls.length := by omega
    have c1 := conv_iu (n := i + j) (by omega)
    have c2 := shr_one Tryz.prog 108 (i + j)
    have c3 := conv_ui (n := (i + j) / 2) (by omega)
    have hw1 : IntKind.i64.wrap ((i : Int) + (j : Int)) = ((i + j : Nat) : Int) := by rw [wrap64 (by omega) (by omega)]; omega
    have hci := h.cell hmid
    simp (maxSteps := 1000000) (disch := omega) only [h0, h1, h2, h8, h9, h10, hw1, c1, c2, c3, h.row.ix Tryz.underlying26 cs38, Int.toNat_natCast, hci, S, S1, S2, S3, S4, S5, ST, eq_self, reduceIte, reduceCtorEq, Nat.reduceEqDiff, Nat.reduceAdd]
    refine CallH.by (cmp _ hmid) ?_
    rintro _ _ ⟨rfl, rfl⟩
    simp (maxSteps := 1000000) (disch := omega) only [S, S1, S2, S3, S4, S5, ST, eq_self, reduceIte, reduceCtorEq, Nat.reduceEqDiff, Nat.reduceAdd]
    refine brD.intro (fun e => ?_) (fun e => ?_)
    · have f1 : ∀ k, k < (i + j) / 2 + 1 → cmpL (ls.getD k []) t < 0 := fun k hk => srt_dn h.srt (j := (i + j) / 2) (by omega) hmid e
      simp (maxSteps := 1000000) (disch := omega) only [h0, h1, h2, h8, h9, h10, wrap64, S, S1, S2, S3, S4, S5, ST, eq_self, reduceIte, reduceCtorEq, Nat.reduceEqDiff, Nat.reduceAdd]
      refine ⟨j - ((i + j) / 2 + 1), by omega, (i + j) / 2 + 1, j, ?_⟩
      (repeat' first | exact f1 | exact hi | apply And.intro) <;> first | (simp only [Value.int.injEq, true_and]; omega) | omega | rfl | assumption | (simp; done) | (simp; omega)
    · have f1 : ∀ k, (i + j) / 2 ≤ k → k < ls.length → ¬ cmpL (ls.getD k []) t < 0 := fun k h1 h2 q => e (srt_dn h.srt h1 h2 q)
      simp (maxSteps := 1000000) (disch := omega) only [h0, h1, h2, h8, h9, h10, S, S1, S2, S3, S4, S5, ST, eq_self, reduceIte, reduceCtorEq, Nat.reduceEqDiff, Nat.reduceAdd]
      refine ⟨(i + j) / 2 - i, by omega, i, (i + j) / 2, ?_⟩
      (repeat' first | exact lo | exact f1 | apply And.intro) <;> first | (simp only [Value.int.injEq, true_and]; omega) | omega | rfl | assumption | (simp; done) | (simp; omega)
  · have hij : i = j := by omega
    subst hij
    by_cases e : i < ls.length
    · have e' : (i : Int) < (ls.length : Int) := by omega
      have hci := h.cell e
      simp (maxSteps := 1000000) (disch := omega) only [h0, h1, h2, h8, h9, h10, decide_eq_true e', h.row.ix Tryz.underlying26 cs38, Int.toNat_natCast, hci, S, S1, S2, S3, S4, S5, ST, eq_self, reduceIte, reduceCtorEq, Nat.reduceEqDiff, Nat.reduceAdd]
      refine CallH.by (cmp _ e) ?_
      rintro _ _ ⟨rfl, rfl⟩
      simp (maxSteps := 1000000) (disch := omega) only [S, S1, S2, S3, S4, S5, ST, eq_self, reduceIte, reduceCtorEq, Nat.reduceEqDiff, Nat.reduceAdd]
      refine hQ _ _ _ ?_
      simp (maxSteps := 1000000) (disch := omega) only [S, S1, S2, S3, S4, S5, ST, eq_self, reduceIte, reduceCtorEq, Nat.reduceEqDiff, Nat.reduceAdd]
      have hmem : t ∈ ls ↔ cmpL (ls.getD i []) t = 0 := by
        constructor
        · intro ht
          obtain ⟨k, k1, k2⟩ := mem_at ht
          have hk0 : i ≤ k := Nat.le_of_not_lt fun q => by have := lo k q; rw [k2, cmpL_self] at this; omega
          by_cases q : k = i
          · subst q; rw [k2, cmpL_self]
          · have := srt_lt h.srt (show i < k by omega) k1
            rw [k2] at this
            exact absurd this (hi i (Nat.le_refl _) e)
        · intro q
          have := cmpL_zero q
          rw [← this]; simp [e]
      refine ⟨i, ?_, fun ht => ⟨e, cmpL_zero (hmem.1 ht)⟩⟩
      rw [decide_eq_decide.2 hmem]
    · have e' : ¬ (i : Int) < (ls.length : Int) := by omega
      simp (maxSteps := 1000000) (disch := omega) only [h0, h1, h2, h8, h9, h10, decide_eq_false e', S, S1, S2, S3, S4, S5, ST, eq_self, reduceIte, reduceCtorEq, Nat.reduceEqDiff, Nat.reduceAdd]
      refine hQ _ _ _ ?_
      simp (maxSteps := 1000000) (disch := omega) only [S, S1, S2, S3, S4, S5, ST, eq_self, reduceIte, reduceCtorEq, Nat.reduceEqDiff, Nat.reduceAdd]
      have hno : t ∉ ls := fun ht => by
        obtain ⟨k, k1, k2⟩ := mem_at ht
        have := lo k (by omega)
        rw [k2, cmpL_self] at this; omega
      exact ⟨i, by rw [decide_eq_false hno], fun ht => absurd ht hno⟩
theorem place_c {a b w : Value} {us : List Value} {ls : List (List Int)} {ps : List (Int × Int)} {t : List Int} {H : AH} (hr : SpRow H a b ls ps) (h : Sts H a us ls) (hw : Row 3 H w t) (hl : t.length ≤ 1099511627776) :
    ACalls Tryz.prog 108 [.agg (List.toArray [a, b]), w] H fun r H' => (∃ i : Nat, r = .tuple (List.toArray [.int .i64 (i : Int), .bool (decide (t ∈ ls))]) ∧ (t ∈ ls → i < ls.length ∧ ls.getD i [] = t)) ∧ H <+: H' := by
  refine in108 rfl ?_
  intro Q hQ
  simp (maxSteps := 1000000) (disch := omega) only [cd108, hr.box, S, S1, S2, S3, S4, S5, ST, eq_self, reduceIte, reduceCtorEq, Nat.reduceEqDiff, Nat.reduceAdd]
  generalize hA : H ++ [AObj.cells [a, b] 28 false] = A
  have pA : H <+: A := by rw [← hA]; exact List.prefix_append _ _
  have cA : A[H.length]? = some (.cells [a, b] 28 false) := by rw [← hA]; exact at_new ..
  simp (maxSteps := 1000000) (disch := omega) only [cell_of cA, S, S1, S2, S3, S4, S5, ST, eq_self, reduceIte, reduceCtorEq, Nat.reduceEqDiff, Nat.reduceAdd]
  refine CallH.by (BSearch_c (h.pre pA) (hw.pre pA) hl) ?_
  rintro _ _ ⟨⟨i, rfl, hi⟩, rfl⟩
  simp (maxSteps := 1000000) (disch := omega) only [S, S1, S2, S3, S4, S5, ST, eq_self, reduceIte, reduceCtorEq, Nat.reduceEqDiff, Nat.reduceAdd]
  refine hQ _ _ _ ?_
  simp (maxSteps := 1000000) (disch := omega) only [S, S1, S2, S3, S4, S5, ST, eq_self, reduceIte, reduceCtorEq, Nat.reduceEqDiff, Nat.reduceAdd]
  exact ⟨⟨i, rfl, hi⟩, pA⟩
set_option maxRecDepth 20000 in
set_option maxHeartbeats 4000000 in
theorem l2Index_c {a b w : Value} {us : List Value} {ls : List (List Int)} {ps : List (Int × Int)} {t : List Int} {H : AH} (hr : SpRow H a b ls ps) (h : Sts H a us ls) (hw : Row 3 H w t) (hl : t.length ≤ 1099511627776) :
    ACalls Tryz.prog 100 [.agg (List.toArray [a, b]), w] H fun r H' => (∃ i : Int, r = .int .i64 i ∧ (t ∉ ls → i = -1) ∧ (t ∈ ls → (0 ≤ i ∧ i < ls.length) ∧ ls.getD i.toNat [] = t)) ∧ H <+: H' := by
  refine in100 rfl ?_
  intro Q hQ
  have hul := h.len
  have hb := h.bnd
  simp (maxSteps := 1000000) (disch := omega) only [cd100, hr.box, S, S1, S2, S3, S4, S5, ST, eq_self, reduceIte, reduceCtorEq, Nat.reduceEqDiff, Nat.reduceAdd]
  generalize hA : H ++ [AObj.cells [a, b] 28 false] = A
  have pA : H <+: A := by rw [← hA]; exact List.prefix_append _ _
  have cA : A[H.length]? = some (.cells [a, b] 28 false) := by rw [← hA]; exact at_new ..
  have hA2 := h.pre pA
  refine LoopH.by (fun m s H' => ∃ (i : Nat), m + i = ls.length ∧ s 1 = w ∧ s 2 = .pointer (some ⟨H.length, 0, none⟩) ∧ s 5 = .int .i64 ((i : Nat) : Int) ∧ A = H' ∧ ∀ k, k < i → ls.getD k [] ≠ t) ls.length ?_ ?_
  · exact ⟨0, by simp, rfl, rfl, rfl, rfl, fun k hk => absurd hk (Nat.not_lt_zero k)⟩
  rintro m s H' ⟨i, hm, h1, h2, h5, rfl, hno⟩
  simp (maxSteps := 1000000) (disch := omega) only [h1, h2, h5, cell_of cA, hA2.row.len Tryz.underlying26, hul, S, S1, S2, S3, S4, S5, ST, eq_self, reduceIte, reduceCtorEq, Nat.reduceEqDiff, Nat.reduceAdd]
  refine brD.intro (fun g => ?_) (fun g => ?_)
  · have hi : i < ls.length := by omega
    have hci := hA2.cell hi
    simp (maxSteps := 1000000) (disch := omega) only [h1, h2, h5, cell_of cA, hA2.row.ix Tryz.underlying26 cs38, Int.toNat_natCast, hci, S, S1, S2, S3, S4, S5, ST, eq_self, reduceIte, reduceCtorEq, Nat.reduceEqDiff, Nat.reduceAdd]
    refine CallH.by (l1Same_c _ _ _ _ A (hA2.each i hi) (hw.pre pA) (h.small i hi)) ?_
    rintro _ _ ⟨rfl, rfl⟩
    by_cases e : ls.getD i [] = t
    · simp (maxSteps := 1000000) (disch := omega) only [decide_eq_true e, h5, S, S1, S2, S3, S4, S5, ST, eq_self, reduceIte, reduceCtorEq, Nat.reduceEqDiff, Nat.reduceAdd]
      refine hQ _ _ _ ?_
      simp (maxSteps := 1000000) (disch := omega) only [S, S1, S2, S3, S4, S5, ST, eq_self, reduceIte, reduceCtorEq, Nat.reduceEqDiff, Nat.reduceAdd]
      have hm : t ∈ ls := by rw [← e]; simp [hi]
      exact ⟨⟨(i : Int), rfl, fun q => absurd hm q, fun _ => ⟨by omega, by rw [Int.toNat_natCast]; exact e⟩⟩, pA⟩
    · simp (maxSteps := 1000000) (disch := omega) only [decide_eq_false e, h1, h2, h5, wrap64, S, S1, S2, S3, S4, S5, ST, eq_self, reduceIte, reduceCtorEq, Nat.reduceEqDiff, Nat.reduceAdd]
      have f1 : ∀ k, k < i + 1 → ls.getD k [] ≠ t := fun k hk => by
        by_cases q : k = i
        · subst q; exact e
        · exact hno k (by omega)
      refine ⟨m - 1, by omega, i + 1, ?_⟩
      (repeat' first | exact f1 | apply And.intro) <;> first | (simp only [Value.int.injEq, true_and]; omega) | omega | rfl | assumption | (simp; done) | (simp; omega)
  · simp (maxSteps := 1000000) (disch := omega) only [S, S1, S2, S3, S4, S5, ST, eq_self, reduceIte, reduceCtorEq, Nat.reduceEqDiff, Nat.reduceAdd]
    refine hQ _ _ _ ?_
    simp (maxSteps := 1000000) (disch := omega) only [S, S1, S2, S3, S4, S5, ST, eq_self, reduceIte, reduceCtorEq, Nat.reduceEqDiff, Nat.reduceAdd]
    have hm : t ∉ ls := fun q => by
      obtain ⟨k, k1, k2⟩ := mem_at q
      exact hno k (by omega) k2
    exact ⟨⟨-1, rfl, fun _ => rfl, fun q => absurd q hm⟩, pA⟩
theorem rdS_sym {n : Nat} (ps : List (Int × Int)) : Sym (rdS n ps) := by
  intro u v hu hv h
  rw [rdS_len] at hu hv
  rw [rdS_at _ _ hu, nbS_mem] at h
  rw [rdS_at _ _ hv, nbS_mem]
  exact h.symm
set_option maxRecDepth 20000 in
set_option maxHeartbeats 4000000 in
theorem firstWay_c {a b : Value} {ls : List (List Int)} {ps : List (Int × Int)} {H : AH} (hr : SpRow H a b ls ps) (hn : ls.length ≤ 1000) (hp : ps.length ≤ 1000000) (hps : StpOk ls.length ps) (hdeg : ∀ x, (nbS ps x).length ≤ 12) {i j : Nat} (hi : i < ls.length) (hj : j < ls.length) :
    ACalls Tryz.prog 109 [.agg (List.toArray [a, b]), .int .i64 (i : Int), .int .i64 (j : Int)] H fun r H' => (∃ g, r = .tuple (List.toArray [g, .bool (decide (0 ≤ (bfs (rdS ls.length ps) j).getD i 0))]) ∧
      Row 3 H' g (if 0 ≤ (bfs (rdS ls.length ps) j).getD i 0 then wyS (rdS ls.length ps) (bfs (rdS ls.length ps) j) (j : Int) ((bfs (rdS ls.length ps) j).getD i 0).toNat (i : Int) else [])) ∧ H <+: H' := by
  refine in109 rfl ?_
  intro Q hQ
  simp (maxSteps := 1000000) (disch := omega) only [cd109, hr.box, S, S1, S2, S3, S4, S5, ST, eq_self, reduceIte, reduceCtorEq, Nat.reduceEqDiff, Nat.reduceAdd]
  generalize hA : H ++ [AObj.cells [a, b] 28 false] = A
  have pA : H <+: A := by rw [← hA]; exact List.prefix_append _ _
  have cA : A[H.length]? = some (.cells [a, b] 28 false) := by rw [← hA]; exact at_new ..
  simp (maxSteps := 1000000) (disch := omega) only [ld_agg ag28 cs28 cA, S, S1, S2, S3, S4, S5, ST, eq_self, reduceIte, reduceCtorEq, Nat.reduceEqDiff, Nat.reduceAdd]
  refine CallH.by (spRoads_c a b ls ps A (hr.pre pA) hn hp hps hdeg) ?_
  rintro v B ⟨⟨bd, hv⟩, pB⟩
  have hrl := rdS_len ls.length ps
  have hLk := rdS_ok hps
  have hsy := rdS_sym (n := ls.length) ps
  have hsm : ∀ x, ((rdS ls.length ps).getD x []).length ≤ 12 := fun x => by
    by_cases hx : x < ls.length
    · rw [rdS_at _ _ hx]; exact hdeg (x : Int)
    · rw [List.getD_eq_getElem?_getD, List.getElem?_eq_none (by omega)]; simp
  generalize rdS ls.length ps = L at *
  generalize ls.length = N at *
  simp (maxSteps := 1000000) (disch := omega) only [S, S1, S2, S3, S4, S5, ST, eq_self, reduceIte, reduceCtorEq, Nat.reduceEqDiff, Nat.reduceAdd]
  refine CallH.by (spread_c v L j B hv hLk (by omega) (by omega) (fun x => by have := hsm x; omega)) ?_
  rintro fv C ⟨hf, pC⟩
  have hfl : (bfs L j).length = N := by
    obtain ⟨q, h⟩ := bfs_DI hLk (show j < L.length by omega)
    have := h.bi.len
    rw [hrl] at this; exact this
  have hf0 := hf.row
  have hci := hf0.cell (show i < (bfs L j).length by omega)
  have hzero := bfs_zero hLk (show j < L.length by omega)
  simp (maxSteps := 1000000) (disch := omega) only [hf0.ix Tryz.underlying38 cs3, Int.toNat_natCast, hci, S, S1, S2, S3, S4, S5, ST, eq_self, reduceIte, reduceCtorEq, Nat.reduceEqDiff, Nat.reduceAdd]
  refine brD.intro (fun e => ?_) (fun e => ?_)
  · simp (maxSteps := 1000000) (disch := omega) only [S, S1, S2, S3, S4, S5, ST, eq_self, reduceIte, reduceCtorEq, Nat.reduceEqDiff, Nat.reduceAdd]
    refine hQ _ _ _ ?_
    simp (maxSteps := 1000000) (disch := omega) only [S, S1, S2, S3, S4, S5, ST, eq_self, reduceIte, reduceCtorEq, Nat.reduceEqDiff, Nat.reduceAdd]
    rw [decide_eq_false (show ¬ 0 ≤ (bfs L j).getD i 0 by omega), if_neg (by omega)]
    exact ⟨⟨_, rfl, .inl ⟨rfl, rfl⟩⟩, pA.trans (pB.trans pC)⟩
  have e0 : 0 ≤ (bfs L j).getD i 0 := by omega
  rw [decide_eq_true e0, if_pos e0] at hQ
  obtain ⟨d, hd⟩ : ∃ d : Nat, (bfs L j).getD i 0 = d := ⟨((bfs L j).getD i 0).toNat, by omega⟩
  rw [hd, Int.toNat_natCast] at hQ
  simp (maxSteps := 1000000) (disch := omega) only [S, S1, S2, S3, S4, S5, ST, eq_self, reduceIte, reduceCtorEq, Nat.reduceEqDiff, Nat.reduceAdd]
  generalize hD : C ++ [AObj.cells [.int .i64 (i : Int)] 3 false] = D
  have pD : C <+: D := by rw [← hD]; exact List.prefix_append _ _
  have cD : D[C.length]? = some (.cells (ints [(i : Int)]) 3 false) := by rw [← hD]; exact at_new ..
  have lD : D.length = C.length + 1 := by rw [← hD]; simp
  have own0 : Own 3 C D (.slice (some ⟨C.length, 0, none⟩) 1 1) [(i : Int)] := .inr ⟨C.length, rfl, Nat.le_refl _, cD⟩
  have hW : [(i : Int)] ++ (wyS L (bfs L j) (j : Int) d (i : Int)).tail = wyS L (bfs L j) (j : Int) d (i : Int) := (wyS_head _ _ _ _ _).symm
  generalize hWW : wyS L (bfs L j) (j : Int) d (i : Int) = W at hW hQ
  have hWl : W.length = d + 1 := by rw [← hWW]; exact (wy_len hLk hsy (by omega) d i (by omega) hd).1
  have hbN : ∀ x, x < N → (bfs L j).getD x 0 < N := by
    intro x hx
    obtain ⟨q, h⟩ := bfs_DI hLk (show j < L.length by omega)
    have h1 := h.bi.lo x (by omega)
    have h2 := h.bi.len_le
    have h1' : (bfs L j).getD x 0 < (q.length : Nat) := h1.2
    have h2' : q.length ≤ L.length := h2
    omega
  have hdN : d < N := by have := hbN i (by omega); omega
  refine LoopH.by (fun m s H' => ∃ (c : Nat) (O : List Int), c < N ∧ (bfs L j).getD c 0 = (m : Int) ∧ s 1 = .int .i64 (c : Int) ∧ s 2 = .int .i64 (j : Int) ∧ s 8 = v ∧ s 9 = fv ∧ Own 3 C H' (s 10) O ∧ O ++ (wyS L (bfs L j) (j : Int) m (c : Int)).tail = W ∧ C <+: H') d ?_ ?_
  · refine ⟨i, [(i : Int)], ?_⟩
    have hW2 : (i : Int) :: (wyS L (bfs L j) (j : Int) d (i : Int)).tail = W := by rw [hWW]; exact hW
    simp (maxSteps := 1000000) (disch := omega) only [S, S1, S2, S3, S4, S5, ST, eq_self, reduceIte, reduceCtorEq, Nat.reduceEqDiff, Nat.reduceAdd]
    (repeat' first | exact hd | exact own0 | exact hW2 | exact pD | apply And.intro) <;> first | (simp only [Value.int.injEq, true_and]; omega) | omega | rfl | assumption | (simp; done) | (simp; omega)
  rintro m s H' ⟨c, O, hc, hm, h1, h2, h8, h9, hO, hT, pH⟩
  generalize hU : s 10 = U at *
  simp (maxSteps := 1000000) (disch := omega) only [h1, h2, h8, h9, hU, S, S1, S2, S3, S4, S5, ST, eq_self, reduceIte, reduceCtorEq, Nat.reduceEqDiff, Nat.reduceAdd]
  by_cases ec : c = j
  · have ec' : ¬ ¬ (c : Int) = (j : Int) := by omega
    subst ec
    simp (maxSteps := 1000000) (disch := omega) only [decide_eq_false ec', h1, h2, h8, h9, hU, S, S1, S2, S3, S4, S5, ST, eq_self, reduceIte, reduceCtorEq, Nat.reduceEqDiff, Nat.reduceAdd]
    refine hQ _ _ _ ?_
    simp (maxSteps := 1000000) (disch := omega) only [hO.row.tup, S, S1, S2, S3, S4, S5, ST, eq_self, reduceIte, reduceCtorEq, Nat.reduceEqDiff, Nat.reduceAdd]
    rw [wyS_end] at hT
    have hOW : O = W := by simpa using hT
    rw [← hOW]
    exact ⟨⟨U, rfl, hO.row⟩, pA.trans (pB.trans (pC.trans pH))⟩
  · have ec' : ¬ (c : Int) = (j : Int) := by omega
    have hcN := hbN c hc
    have hpos := far_pos hLk hsy (show j < L.length by omega) (show c < L.length by omega) (by omega) ec
    obtain ⟨k, rfl⟩ : ∃ k, m = k + 1 := ⟨m - 1, by omega⟩
    obtain ⟨n1, n2, n3⟩ := nx_ok hLk hsy (show j < L.length by omega) (show c < L.length by omega) hm
    obtain ⟨nx, hnx⟩ : ∃ nx : Nat, nxS L (bfs L j) (c : Int) = nx := ⟨(nxS L (bfs L j) (c : Int)).toNat, by have := hLk c _ n1; omega⟩
    have hnr := hLk c _ n1
    rw [hnx] at n1 n2 n3 hnr
    rw [Int.toNat_natCast] at n2
    have hT2 : (O ++ [(nx : Int)]) ++ (wyS L (bfs L j) (j : Int) k (nx : Int)).tail = W := by
      rw [← hT]
      have : (wyS L (bfs L j) (j : Int) (k + 1) (c : Int)).tail = wyS L (bfs L j) (j : Int) k (nx : Int) := by
        simp only [wyS]; rw [if_neg ec', hnx]; rfl
      rw [this, List.append_assoc]
      congr 1
      exact (wyS_head _ _ _ _ _).symm
    obtain ⟨us, hus, hvb, hul, hin⟩ := hv.pre (pC.trans pH)
    have hcc := hus.cell (show c < us.length by omega)
    have hrow := (hin c (by omega)).1
    have hfH := hf0.pre pH
    simp (maxSteps := 1000000) (disch := omega) only [decide_eq_true ec', h1, h2, h8, h9, hU, hus.ix Tryz.underlying26 cs38, Int.toNat_natCast, hcc, hrow.len Tryz.underlying38, S, S1, S2, S3, S4, S5, ST, eq_self, reduceIte, reduceCtorEq, Nat.reduceEqDiff, Nat.reduceAdd]
    generalize hxs : L.getD c [] = xs at *
    have hxl := hsm c
    rw [hxs] at hxl
    have hxr : ∀ z ∈ xs, 0 ≤ z ∧ z < N := fun z hz => by have := hLk c z (by rw [hxs]; exact hz); omega
    refine LoopH.by (fun m' s' H'' => ∃ (q : Nat), m' + q = xs.length ∧ s' 1 = .int .i64 (c : Int) ∧ s' 2 = .int .i64 (j : Int) ∧ s' 8 = v ∧ s' 9 = fv ∧ s' 10 = U ∧ s' 31 = us.getD c undef ∧ s' 32 = .int .i64 (xs.length : Int) ∧ s' 33 = .int .i64 ((q : Nat) : Int) ∧ H' = H'' ∧ (xs.drop q).find? (fun k => decide ((bfs L j).getD k.toNat 0 = (bfs L j).getD c 0 - 1)) = some (nx : Int)) xs.length ?_ ?_
    · refine ⟨0, ?_⟩
      simp (maxSteps := 1000000) (disch := omega) only [h1, h2, h8, h9, hU, S, S1, S2, S3, S4, S5, ST, eq_self, reduceIte, reduceCtorEq, Nat.reduceEqDiff, Nat.reduceAdd]
      (repeat' first | exact n3 | apply And.intro) <;> first | (simp only [Value.int.injEq, true_and]; omega) | omega | rfl | assumption | (simp; done) | (simp; omega)
    rintro m' s' H'' ⟨q, hm', g1, g2, g8, g9, g10, g31, g32, g33, rfl, hfd⟩
    simp (maxSteps := 1000000) (disch := omega) only [g1, g2, g8, g9, g10, g31, g32, g33, S, S1, S2, S3, S4, S5, ST, eq_self, reduceIte, reduceCtorEq, Nat.reduceEqDiff, Nat.reduceAdd]
    refine brD.intro (fun g => ?_) (fun g => ?_)
    · have hq : q < xs.length := by omega
      have hzm : xs.getD q 0 ∈ xs := by simp [hq]
      have hzr := hxr _ hzm
      have hcq := hrow.cell hq
      obtain ⟨z, hz⟩ : ∃ z : Nat, xs.getD q 0 = z := ⟨(xs.getD q 0).toNat, by omega⟩
      rw [hz] at hcq hzr
      have hfz := hfH.cell (show z < (bfs L j).length by omega)
      have hfc := hfH.cell (show c < (bfs L j).length by omega)
      have hdrop : xs.drop q = (z : Int) :: xs.drop (q + 1) := by
        rw [List.drop_eq_getElem_cons hq]
        congr 1
        rw [← hz]; simp [hq]
      rw [hdrop, List.find?_cons, Int.toNat_natCast] at hfd
      have hwr : IntKind.i64.wrap ((bfs L j).getD c 0 - 1) = (bfs L j).getD c 0 - 1 := wrap64 (by omega) (by omega)
      simp (maxSteps := 1000000) (disch := omega) only [g1, g2, g8, g9, g10, g31, g32, g33, hrow.ix Tryz.underlying38 cs3, hfH.ix Tryz.underlying38 cs3, Int.toNat_natCast, hcq, hfz, hfc, hwr, S, S1, S2, S3, S4, S5, ST, eq_self, reduceIte, reduceCtorEq, Nat.reduceEqDiff, Nat.reduceAdd]
      by_cases e5 : (bfs L j).getD z 0 = (bfs L j).getD c 0 - 1
      · rw [decide_eq_true e5] at hfd
        have hzn : z = nx := by
          have := Option.some.inj hfd
          omega
        subst hzn
        obtain ⟨U', H2, j1, j2, j3, j4, j5, j6⟩ := own1_38 hO pH (by
          have : O.length ≤ W.length := by rw [← hT]; simp
          omega) (z : Int)
        simp (maxSteps := 1000000) (disch := omega) only [decide_eq_true e5, g1, g2, g8, g9, g10, g31, g32, g33, j1, S, S1, S2, S3, S4, S5, ST, eq_self, reduceIte, reduceCtorEq, Nat.reduceEqDiff, Nat.reduceAdd]
        refine ⟨k, by omega, z, O ++ [(z : Int)], ?_⟩
        (repeat' first | exact n2 | exact j2 | exact hT2 | exact j3 | apply And.intro) <;> first | (simp only [Value.int.injEq, true_and]; omega) | omega | rfl | assumption | (simp; done) | (simp; omega)
      · rw [decide_eq_false e5] at hfd
        simp (maxSteps := 1000000) (disch := omega) only [decide_eq_false e5, g1, g2, g8, g9, g10, g31, g32, g33, wrap64, S, S1, S2, S3, S4, S5, ST, eq_self, reduceIte, reduceCtorEq, Nat.reduceEqDiff, Nat.reduceAdd]
        refine ⟨m' - 1, by omega, q + 1, ?_⟩
        (repeat' first | exact hfd | apply And.intro) <;> first | (simp only [Value.int.injEq, true_and]; omega) | omega | rfl | assumption | (simp; done) | (simp; omega)
    · rw [List.drop_of_length_le (by omega)] at hfd
      simp at hfd
theorem bsRowW {H0 : AH} {v : Value} {xs : List Int} (h : Row 3 H0 v xs) (K : AH) : buildSliceA Tryz.prog 26 1 [(0, v)] K = some (.slice (some ⟨K.length, 0, none⟩) 1 1, K ++ [.cells [v] 38 false]) := by
  obtain ⟨q, eq⟩ := h.shape
  rw [eq]
  exact bs1 Tryz.underlying26 cs38 ze38 ⟨by kernel_rfl, by kernel_rfl⟩ K rfl
/-- is there a way between two states; the states of the first -/
def wkB (ls : List (List Int)) (ps : List (Int × Int)) (x y : List Int) : Bool := decide (x ∈ ls ∧ y ∈ ls ∧ 0 ≤ (bfs (rdS ls.length ps) (ls.idxOf y)).getD (ls.idxOf x) 0)
def wkL (ls : List (List Int)) (ps : List (Int × Int)) (x y : List Int) : List (List Int) :=
  if wkB ls ps x y = true then (wyS (rdS ls.length ps) (bfs (rdS ls.length ps) (ls.idxOf y)) ((ls.idxOf y : Nat) : Int) ((bfs (rdS ls.length ps) (ls.idxOf y)).getD (ls.idxOf x) 0).toNat ((ls.idxOf x : Nat) : Int)).map fun k => ls.getD k.toNat [] else []
theorem idx_of {ls : List (List Int)} (h : SrtL ls) {t : List Int} {i : Nat} (hi : i < ls.length) (e : ls.getD i [] = t) : i = ls.idxOf t := by
  have hm : t ∈ ls := by rw [← e]; simp [hi]
  have h1 := List.idxOf_lt_length_iff.2 hm
  refine srt_uniq h hi h1 ?_
  rw [e]
  simp [h1]
theorem idx_lt {ls : List (List Int)} {t : List Int} (h : t ∈ ls) : ls.idxOf t < ls.length := List.idxOf_lt_length_iff.2 h
set_option maxRecDepth 20000 in
set_option maxHeartbeats 4000000 in
theorem walk_c {a b va vb : Value} {us : List Value} {ls : List (List Int)} {ps : List (Int × Int)} {x y : List Int} {H : AH} (hr : SpRow H a b ls ps) (h : Sts H a us ls) (hn : ls.length ≤ 1000) (hp : ps.length ≤ 1000000) (hps : StpOk ls.length ps) (hdeg : ∀ x, (nbS ps x).length ≤ 12)
    (hx : Row 3 H va x) (hy : Row 3 H vb y) (hlx : x.length ≤ 1099511627776) (hly : y.length ≤ 1099511627776) :
    ACalls Tryz.prog 54 [.agg (List.toArray [a, b]), va, vb] H fun r H' => (∃ g, r = .tuple (List.toArray [g, .bool (wkB ls ps x y)]) ∧ InL H.length H'.length 38 3 H' g (wkL ls ps x y)) ∧ H <+: H' := by
  refine in54 rfl ?_
  intro Q hQ
  have hul := h.len
  simp (maxSteps := 1000000) (disch := omega) only [cd54, hr.box, S, S1, S2, S3, S4, S5, ST, eq_self, reduceIte, reduceCtorEq, Nat.reduceEqDiff, Nat.reduceAdd]
  generalize hA : H ++ [AObj.cells [a, b] 28 false] = A
  have pA : H <+: A := by rw [← hA]; exact List.prefix_append _ _
  have cA : A[H.length]? = some (.cells [a, b] 28 false) := by rw [← hA]; exact at_new ..
  simp (maxSteps := 1000000) (disch := omega) only [ld_agg ag28 cs28 cA, S, S1, S2, S3, S4, S5, ST, eq_self, reduceIte, reduceCtorEq, Nat.reduceEqDiff, Nat.reduceAdd]
  refine CallH.by (place_c (hr.pre pA) (h.pre pA) (hx.pre pA) hlx) ?_
  rintro _ B ⟨⟨i, rfl, hi⟩, pB⟩
  have cB := pre_at pB cA
  have pHB := pA.trans pB
  simp (maxSteps := 1000000) (disch := omega) only [ld_agg ag28 cs28 cB, S, S1, S2, S3, S4, S5, ST, eq_self, reduceIte, reduceCtorEq, Nat.reduceEqDiff, Nat.reduceAdd]
  refine CallH.by (place_c (hr.pre pHB) (h.pre pHB) (hy.pre pHB) hly) ?_
  rintro _ C ⟨⟨j, rfl, hj⟩, pC⟩
  have cC := pre_at pC cB
  have pHC := pHB.trans pC
  simp (maxSteps := 1000000) (disch := omega) only [S, S1, S2, S3, S4, S5, ST, eq_self, reduceIte, reduceCtorEq, Nat.reduceEqDiff, Nat.reduceAdd]
  by_cases ex : x ∈ ls
  rotate_left
  · have hb : wkB ls ps x y = false := by unfold wkB; rw [decide_eq_false (fun q => ex q.1)]
    simp (maxSteps := 1000000) (disch := omega) only [decide_eq_false ex, S, S1, S2, S3, S4, S5, ST, eq_self, reduceIte, reduceCtorEq, Nat.reduceEqDiff, Nat.reduceAdd]
    refine hQ _ _ _ ?_
    simp (maxSteps := 1000000) (disch := omega) only [S, S1, S2, S3, S4, S5, ST, eq_self, reduceIte, reduceCtorEq, Nat.reduceEqDiff, Nat.reduceAdd]
    rw [hb, show wkL ls ps x y = [] by unfold wkL; rw [hb]; rfl]
    exact ⟨⟨_, rfl, .inl ⟨rfl, rfl⟩⟩, pHC⟩
  by_cases ey : y ∈ ls
  rotate_left
  · have hb : wkB ls ps x y = false := by unfold wkB; rw [decide_eq_false (fun q => ey q.2.1)]
    simp (maxSteps := 1000000) (disch := omega) only [decide_eq_true ex, decide_eq_false ey, S, S1, S2, S3, S4, S5, ST, eq_self, reduceIte, reduceCtorEq, Nat.reduceEqDiff, Nat.reduceAdd]
    refine hQ _ _ _ ?_
    simp (maxSteps := 1000000) (disch := omega) only [S, S1, S2, S3, S4, S5, ST, eq_self, reduceIte, reduceCtorEq, Nat.reduceEqDiff, Nat.reduceAdd]
    rw [hb, show wkL ls ps x y = [] by unfold wkL; rw [hb]; rfl]
    exact ⟨⟨_, rfl, .inl ⟨rfl, rfl⟩⟩, pHC⟩
  obtain ⟨i1, i2⟩ := hi ex
  obtain ⟨j1, j2⟩ := hj ey
  have hie := idx_of h.srt i1 i2
  have hje := idx_of h.srt j1 j2
  simp (maxSteps := 1000000) (disch := omega) only [decide_eq_true ex, decide_eq_true ey, ld_agg ag28 cs28 cC, S, S1, S2, S3, S4, S5, ST, eq_self, reduceIte, reduceCtorEq, Nat.reduceEqDiff, Nat.reduceAdd]
  refine CallH.by (firstWay_c (hr.pre pHC) hn hp hps hdeg i1 j1) ?_
  rintro _ D ⟨⟨g, rfl, hg⟩, pD⟩
  have hb : wkB ls ps x y = decide (0 ≤ (bfs (rdS ls.length ps) j).getD i 0) := by
    unfold wkB
    rw [← hie, ← hje]
    exact decide_eq_decide.2 ⟨fun q => q.2.2, fun q => ⟨ex, ey, q⟩⟩
  have hwl : wkL ls ps x y = (if 0 ≤ (bfs (rdS ls.length ps) j).getD i 0 then wyS (rdS ls.length ps) (bfs (rdS ls.length ps) j) (j : Int) ((bfs (rdS ls.length ps) j).getD i 0).toNat (i : Int) else []).map fun k => ls.getD k.toNat [] := by
    unfold wkL
    rw [hb, ← hie, ← hje]
    by_cases q : 0 ≤ (bfs (rdS ls.length ps) j).getD i 0
    · rw [if_pos (decide_eq_true q), if_pos q]
    · rw [if_neg (by simpa using q), if_neg q]; rfl
  have hrng : ∀ z ∈ (if 0 ≤ (bfs (rdS ls.length ps) j).getD i 0 then wyS (rdS ls.length ps) (bfs (rdS ls.length ps) j) (j : Int) ((bfs (rdS ls.length ps) j).getD i 0).toNat (i : Int) else []), 0 ≤ z ∧ z < ls.length := by
    intro z hz
    split at hz
    · rename_i q
      have := (wy_len (rdS_ok hps) (rdS_sym ps) (by rw [rdS_len]; exact j1) ((bfs (rdS ls.length ps) j).getD i 0).toNat i (by rw [rdS_len]; exact i1) (by omega)).2 z hz
      rwa [rdS_len] at this
    · simp at hz
  have hwy : (if 0 ≤ (bfs (rdS ls.length ps) j).getD i 0 then wyS (rdS ls.length ps) (bfs (rdS ls.length ps) j) (j : Int) ((bfs (rdS ls.length ps) j).getD i 0).toNat (i : Int) else []).length ≤ 1000000 := by
    split
    · rename_i q
      have hL := rdS_ok hps
      have hlt : j < (rdS ls.length ps).length := by rw [rdS_len]; exact j1
      have := (wy_len hL (rdS_sym ps) hlt ((bfs (rdS ls.length ps) j).getD i 0).toNat i (by rw [rdS_len]; exact i1) (by omega)).1
      obtain ⟨q', h'⟩ := bfs_DI hL hlt
      have h1 := h'.bi.lo i (by rw [rdS_len]; exact i1)
      have h2 := h'.bi.len_le
      have h1' : (bfs (rdS ls.length ps) j).getD i 0 < (q'.length : Nat) := h1.2
      have h2' : q'.length ≤ (rdS ls.length ps).length := h2
      rw [rdS_len] at h2'
      omega
    · simp
  rw [hwl, hb] at hQ
  generalize (if 0 ≤ (bfs (rdS ls.length ps) j).getD i 0 then wyS (rdS ls.length ps) (bfs (rdS ls.length ps) j) (j : Int) ((bfs (rdS ls.length ps) j).getD i 0).toNat (i : Int) else []) = W at *
  generalize decide (0 ≤ (bfs (rdS ls.length ps) j).getD i 0) = ok at *
  have u0 := InU.new H.length 38 3 D (pHC.trans pD).length_le
  simp (maxSteps := 1000000) (disch := omega) only [S, S1, S2, S3, S4, S5, ST, eq_self, reduceIte, reduceCtorEq, Nat.reduceEqDiff, Nat.reduceAdd]
  generalize hE : D ++ [AObj.cells [] 38 false] = E at *
  have pE : D <+: E := by rw [← hE]; exact List.prefix_append _ _
  have lE : E.length = D.length + 1 := by rw [← hE]; simp
  have cE := pre_at (pD.trans pE) cC
  have hgE := hg.pre pE
  have hlD := (pHC.trans pD).length_le
  have hHC : A.length ≤ D.length := (pB.trans (pC.trans pD)).length_le
  have lA : A.length = H.length + 1 := by rw [← hA]; simp
  have u0' : InU A.length E.length 38 3 E D.length [] ((W.take 0).map fun k => ls.getD k.toNat []) := by
    rw [lE]
    have := InU.new A.length 38 3 D hHC
    rw [hE] at this
    exact this
  simp (maxSteps := 1000000) (disch := omega) only [hgE.len Tryz.underlying38, S, S1, S2, S3, S4, S5, ST, eq_self, reduceIte, reduceCtorEq, Nat.reduceEqDiff, Nat.reduceAdd]
  have pDE := pE
  refine LoopH.by (fun m s H' => ∃ (i o : Nat) (vs : List Value), m + i = W.length ∧ s 3 = .pointer (some ⟨H.length, 0, none⟩) ∧ s 13 = .bool ok ∧ s 14 = .slice (some ⟨o, 0, none⟩) ((W.take i).map fun k => ls.getD k.toNat []).length ((W.take i).map fun k => ls.getD k.toNat []).length ∧ s 43 = g ∧ s 44 = .int .i64 (W.length : Int) ∧ s 45 = .int .i64 ((i : Nat) : Int) ∧ D.length ≤ o ∧ InU A.length H'.length 38 3 H' o vs ((W.take i).map fun k => ls.getD k.toNat []) ∧ D <+: H') W.length ?_ ?_
  · exact ⟨0, D.length, [], by simp, rfl, rfl, rfl, rfl, rfl, rfl, Nat.le_refl _, u0', pDE⟩
  rintro m s H' ⟨i, o, vs, hm, h3, h13, h14, h43, h44, h45, hoD, hin, hpp⟩
  have hgH := hg.pre hpp
  have cH := pre_at (pD.trans hpp) cC
  have hH := h.pre (pHC.trans (pD.trans hpp))
  have hml : ((W.take i).map fun k => ls.getD k.toNat []).length = i := by rw [List.length_map, List.length_take]; omega
  simp (maxSteps := 1000000) (disch := omega) only [h3, h13, h14, h43, h44, h45, S, S1, S2, S3, S4, S5, ST, eq_self, reduceIte, reduceCtorEq, Nat.reduceEqDiff, Nat.reduceAdd]
  refine brD.intro (fun q => ?_) (fun q => ?_)
  · have hi : i < W.length := by omega
    have hzm : W.getD i 0 ∈ W := by simp [hi]
    have hzr := hrng _ hzm
    have hst : (W.take (i + 1)).map (fun k => ls.getD k.toNat []) = (W.take i).map (fun k => ls.getD k.toNat []) ++ [ls.getD (W.getD i 0).toNat []] := by
      rw [List.take_add_one, List.getElem?_eq_getElem hi, List.map_append]
      have : W.getD i 0 = W[i] := by simp [hi]
      rw [this]; rfl
    have hci := hgH.cell hi
    obtain ⟨z, hz⟩ : ∃ z : Nat, W.getD i 0 = z := ⟨(W.getD i 0).toNat, by omega⟩
    rw [hz, Int.toNat_natCast] at hst
    rw [hz] at hci hzr
    have hcz := hH.cell (show z < ls.length by omega)
    simp (maxSteps := 1000000) (disch := omega) only [h3, h13, h14, h43, h44, h45, hgH.ix Tryz.underlying38 cs3, Int.toNat_natCast, hci, cell_of cH, hH.row.ix Tryz.underlying26 cs38, hcz, S, S1, S2, S3, S4, S5, ST, eq_self, reduceIte, reduceCtorEq, Nat.reduceEqDiff, Nat.reduceAdd]
    refine CallH.by (Clone_c _ _ H' (hH.each z (by omega)) (hH.small z (by omega))) ?_
    rintro c F ⟨hc, pF⟩
    have hinw := InI.of hc.mine
    obtain ⟨H3, k1, k2, k3, k4⟩ := (hin.pre pF).app1 (P := Tryz.prog) (t2 := 26) Tryz.underlying26 cs38 (by rw [by38]; decide) zk38 hinw (by have := hpp.length_le; omega) pF.length_le (Nat.le_refl _) (by omega)
    rw [hml] at k1 k2
    rw [← hst] at k2
    have hml2 : ((W.take (i + 1)).map fun k => ls.getD k.toNat []).length = i + 1 := by rw [List.length_map, List.length_take]; omega
    have f1 : D <+: H3 := prefix_of fun j x hx' => k4 j x (by have := at_lt hx'; omega) (pre_at (hpp.trans pF) hx')
    have f2 : InU A.length H3.length 38 3 H3 (F.length + 1) (vs.take i ++ [c]) ((W.take (i + 1)).map fun k => ls.getD k.toNat []) := by rw [k3]; exact k2
    have hlF := (hpp.trans pF).length_le
    simp (maxSteps := 1000000) (disch := omega) only [h3, h13, h14, h43, h44, h45, hml, bsRowW hc.row, k1, wrap64, S, S1, S2, S3, S4, S5, ST, eq_self, reduceIte, reduceCtorEq, Nat.reduceEqDiff, Nat.reduceAdd]
    refine ⟨m - 1, by omega, i + 1, F.length + 1, vs.take i ++ [c], ?_⟩
    rw [hml2]
    (repeat' first | exact f1 | exact f2 | apply And.intro) <;> first | (simp only [Value.int.injEq, true_and]; omega) | omega | rfl | assumption | (simp; done) | (simp; omega)
  · have hi : i = W.length := by omega
    subst hi
    simp (maxSteps := 1000000) (disch := omega) only [h13, h14, S, S1, S2, S3, S4, S5, ST, eq_self, reduceIte, reduceCtorEq, Nat.reduceEqDiff, Nat.reduceAdd]
    refine hQ _ _ _ ?_
    simp (maxSteps := 1000000) (disch := omega) only [S, S1, S2, S3, S4, S5, ST, eq_self, reduceIte, reduceCtorEq, Nat.reduceEqDiff, Nat.reduceAdd]
    have e1 : W.take W.length = W := List.take_length
    rw [e1] at hin ⊢
    exact ⟨⟨_, rfl, hin.inl.wide (by omega) (Nat.le_refl _)⟩, pHC.trans (pD.trans hpp)⟩
end Go.Proofs.YtlfongfhbkefmaaGreat.Ai
namespace Go.Proofs.YtlfongfhbkefmaaGreat.Ai
open Go
set_option linter.unusedVariables false
theorem stpI_mem {p : List Int → List Int → Bool} {ls : List (List Int)} {i : Nat} {e : Int × Int} : ∀ k, e ∈ stpI p ls i k ↔ e.1 = i ∧ ((i : Int) < e.2 ∧ e.2 < i + 1 + k) ∧ p (ls.getD i []) (ls.getD e.2.toNat []) = true
  | 0 => by simp [stpI]; omega
  | k + 1 => by
    rw [stpI, List.mem_append, stpI_mem k]
    constructor
    · rintro (⟨h1, h2, h3⟩ | h)
      · exact ⟨h1, by omega, h3⟩
      · split at h
        · rename_i hp
          rw [List.mem_singleton] at h
          subst h
          exact ⟨rfl, by simp only; omega, by rw [Int.toNat_natCast]; exact hp⟩
        · simp at h
    · rintro ⟨h1, h2, h3⟩
      by_cases q : e.2 = ((i + 1 + k : Nat) : Int)
      · right
        rw [q, Int.toNat_natCast] at h3
        rw [if_pos h3, List.mem_singleton]
        exact Prod.ext h1 q
      · exact .inl ⟨h1, by omega, h3⟩
theorem stpI_srt (p : List Int → List Int → Bool) (ls : List (List Int)) (i : Nat) : ∀ k, (stpI p ls i k).Pairwise pairLt
  | 0 => .nil
  | k + 1 => by
    rw [stpI, List.pairwise_append]
    refine ⟨stpI_srt p ls i k, by split <;> simp, fun a ha b hb => ?_⟩
    have h1 := (stpI_mem k).1 ha
    split at hb
    · rw [List.mem_singleton] at hb
      subst hb
      unfold pairLt; simp only; omega
    · simp at hb
theorem stpO_mem {p : List Int → List Int → Bool} {ls : List (List Int)} {e : Int × Int} : ∀ i, i ≤ ls.length → (e ∈ stpO p ls i ↔ (0 ≤ e.1 ∧ e.1 < i) ∧ (e.1 < e.2 ∧ e.2 < ls.length) ∧ p (ls.getD e.1.toNat []) (ls.getD e.2.toNat []) = true)
  | 0, _ => by simp [stpO]; omega
  | i + 1, hi => by
    rw [stpO, List.mem_append, stpO_mem i (by omega), stpI_mem]
    constructor
    · rintro (⟨h1, h2, h3⟩ | ⟨h1, h2, h3⟩)
      · exact ⟨by omega, h2, h3⟩
      · refine ⟨by omega, by omega, ?_⟩
        rw [h1, Int.toNat_natCast]; exact h3
    · rintro ⟨h1, h2, h3⟩
      by_cases q : e.1 = i
      · right
        rw [q, Int.toNat_natCast] at h3
        exact ⟨q, by omega, h3⟩
      · exact .inl ⟨by omega, h2, h3⟩
theorem stpO_srt (p : List Int → List Int → Bool) (ls : List (List Int)) : ∀ i, i ≤ ls.length → (stpO p ls i).Pairwise pairLt
  | 0, _ => .nil
  | i + 1, hi => by
    rw [stpO, List.pairwise_append]
    refine ⟨stpO_srt p ls i (by omega), stpI_srt p ls i _, fun a ha b hb => ?_⟩
    have h1 := (stpO_mem i (by omega)).1 ha
    have h2 := (stpI_mem _).1 hb
    unfold pairLt; omega
theorem steps_ok (p : List Int → List Int → Bool) (ls : List (List Int)) : StpOk ls.length (steps p ls) :=
  ⟨fun e he => by have := (stpO_mem _ (Nat.le_refl _)).1 he; omega, stpO_srt p ls _ (Nat.le_refl _)⟩
theorem steps_nb (p : List Int → List Int → Bool) (ls : List (List Int)) {x y : Nat} (hx : x < ls.length) (hy : y < ls.length) : (y : Int) ∈ nbS (steps p ls) x ↔ (y < x ∧ p (ls.getD y []) (ls.getD x []) = true) ∨ (x < y ∧ p (ls.getD x []) (ls.getD y []) = true) := by
  rw [nbS_mem, stpO_mem _ (Nat.le_refl _), stpO_mem _ (Nat.le_refl _)]
  simp only [Int.toNat_natCast]
  constructor
  · rintro (⟨h1, h2, h3⟩ | ⟨h1, h2, h3⟩)
    · exact .inl ⟨by omega, h3⟩
    · exact .inr ⟨by omega, h3⟩
  · rintro (⟨h1, h2⟩ | ⟨h1, h2⟩)
    · exact .inl ⟨by omega, by omega, h2⟩
    · exact .inr ⟨by omega, by omega, h2⟩
/-- how many are joined with one -/
theorem nbS_cnt (p : List Int → List Int → Bool) (ls : List (List Int)) (x : Nat) : (nbS (steps p ls) x).length ≤ ls.countP fun m => p m (ls.getD x []) || p (ls.getD x []) m := by
  have hok := steps_ok p ls
  have hasc := nbS_asc hok (x : Int)
  have hm : (nbS (steps p ls) x).map (fun z => z.toNat) = ((List.range ls.length).filter fun y : Nat => decide ((y : Int) ∈ nbS (steps p ls) x)) := by
    have hs : ((nbS (steps p ls) x).map (fun z => z.toNat)).Pairwise (· < ·) := by
      rw [List.pairwise_map]
      refine List.Pairwise.imp_of_mem ?_ hasc
      intro a b ha hb hab
      have := nbS_rng hok ha; omega
    have hs2 := (List.pairwise_lt_range (n := ls.length)).filter (fun y : Nat => decide ((y : Int) ∈ nbS (steps p ls) x))
    refine List.Perm.eq_of_pairwise (le := (· < ·)) (fun a b _ _ h3 h4 => by omega) hs hs2 ?_
    rw [List.perm_ext_iff_of_nodup (hs.imp fun h => by omega) (hs2.imp fun h => by omega)]
    intro y
    simp only [List.mem_map, List.mem_filter, List.mem_range, decide_eq_true_eq]
    constructor
    · rintro ⟨z, hz, rfl⟩
      have := nbS_rng hok hz
      refine ⟨by omega, ?_⟩
      rw [Int.toNat_of_nonneg this.1]; exact hz
    · rintro ⟨_, h⟩
      exact ⟨_, h, by simp⟩
  have hl := congrArg List.length hm
  rw [List.length_map] at hl
  rw [hl]
  by_cases hx : x < ls.length
  · have e1 : ls = (List.range ls.length).map fun i => ls.getD i [] := by
      refine List.ext_getElem (by simp) fun i h1 h2 => ?_
      simp [h1]
    conv => rhs; rw [e1]
    rw [List.countP_map, ← List.countP_eq_length_filter]
    refine List.countP_mono_left fun y hy hd => ?_
    have hyl := List.mem_range.1 hy
    have := (steps_nb p ls hx hyl).1 (of_decide_eq_true hd)
    have e2 : ((List.range ls.length).map fun i => ls.getD i []).getD x [] = ls.getD x [] := by rw [← e1]
    simp only [Function.comp_apply, e2, Bool.or_eq_true]
    rcases this with h | h
    · exact .inl h.2
    · exact .inr h.2
  · have : ((List.range ls.length).filter fun y : Nat => decide ((y : Int) ∈ nbS (steps p ls) x)) = [] := by
      rw [List.filter_eq_nil_iff]
      intro y hy
      rw [decide_eq_true_eq, nbS_mem]
      rintro (h | h)
      · have := hok.rng _ h; simp only at this; omega
      · have := hok.rng _ h; simp only at this; omega
    rw [this]; simp
end Go.Proofs.YtlfongfhbkefmaaGreat.Ai
namespace Go.Proofs.YtlfongfhbkefmaaGreat.Ai
open Go
def ords101 : List (Nat × List (Nat × Bool)) := [(8, [(0, false), (1, false), (2, false), (3, false), (4, false), (5, false), (6, false), (7, false), (8, false), (9, false), (10, false), (11, false), (12, false), (13, false), (14, false), (15, false)])]
def cd101 : Cd := (.seq (.reg [⟨⟨some 3, Op.box 28 (Operand.tmp 0), none⟩, []⟩,
  ⟨⟨some 6, Op.assign (Operand.const (Value.slice none 0 0)), none⟩, []⟩]) (.seq (.reg [⟨⟨some 11, Op.load 28 (Operand.tmp 3), none⟩, []⟩,
  ⟨⟨some 12, Op.call { callee := (Callee.value (Operand.func 136)), args := #[(Operand.tmp 11)], argTypes := #[28] }, none⟩, []⟩,
  ⟨⟨some 7, Op.assign (Operand.tmp 12), none⟩, []⟩]) (.seq (.reg [⟨⟨some 13, Op.move (Operand.tmp 7), none⟩, []⟩,
  ⟨⟨some 14, Op.move (Operand.tmp 2), none⟩, []⟩,
  ⟨⟨some 15, Op.call { callee := (Callee.value (Operand.func 137)), args := #[(Operand.tmp 13), (Operand.tmp 14)], argTypes := #[26, 3] }, none⟩, []⟩,
  ⟨⟨some 8, Op.assign (Operand.tmp 15), none⟩, []⟩]) (.seq (.seq (.reg [⟨⟨some 16, Op.move (Operand.tmp 8), none⟩, []⟩,
  ⟨⟨some 17, Op.move (Operand.tmp 1), none⟩, []⟩,
  ⟨⟨some 18, Op.indexAddr 38 (Operand.tmp 16) (Operand.tmp 17), none⟩, []⟩,
  ⟨⟨some 19, Op.load 3 (Operand.tmp 18), none⟩, []⟩,
  ⟨⟨some 20, Op.binOp BinOp.lss 3 (Operand.tmp 19) (Operand.const (Value.int IntKind.i64 0)) 3, none⟩, []⟩]) (.cond (Operand.tmp 20) (.seq (.reg [⟨⟨some 21, Op.buildSlice 38 0 #[], none⟩, []⟩,
  ⟨⟨some 6, Op.assign (Operand.tmp 21), none⟩, []⟩]) .ret) .skip)) (.seq (.reg [⟨⟨some 22, Op.move (Operand.tmp 1), none⟩, []⟩,
  ⟨⟨some 23, Op.buildSlice 38 1 #[(0, (Operand.tmp 22))], none⟩, []⟩,
  ⟨⟨some 9, Op.assign (Operand.tmp 23), none⟩, []⟩]) (.seq (.block 0 (.loop (.seq (.seq (.reg [⟨⟨some 24, Op.move (Operand.tmp 1), none⟩, []⟩,
  ⟨⟨some 25, Op.move (Operand.tmp 2), none⟩, []⟩,
  ⟨⟨some 26, Op.binOp BinOp.neq 3 (Operand.tmp 24) (Operand.tmp 25) 3, none⟩, []⟩]) (.cond (Operand.tmp 26) .skip (.exit 0))) (.block 1 (.seq (.reg [⟨⟨some 10, Op.assign (Operand.const (Value.int IntKind.i64 0)), none⟩, []⟩]) (.seq (.block 2 (.loop (.seq (.seq (.reg [⟨⟨some 27, Op.move (Operand.tmp 8), none⟩, []⟩,
  ⟨⟨some 28, Op.move (Operand.tmp 7), none⟩, []⟩,
  ⟨⟨some 29, Op.move (Operand.tmp 1), none⟩, []⟩,
  ⟨⟨some 30, Op.indexAddr 26 (Operand.tmp 28) (Operand.tmp 29), none⟩, []⟩,
  ⟨⟨some 31, Op.load 38 (Operand.tmp 30), none⟩, []⟩,
  ⟨⟨some 32, Op.move (Operand.tmp 10), none⟩, []⟩,
  ⟨⟨some 33, Op.indexAddr 38 (Operand.tmp 31) (Operand.tmp 32), none⟩, []⟩,
  ⟨⟨some 34, Op.load 3 (Operand.tmp 33), none⟩, []⟩,
  ⟨⟨some 35, Op.indexAddr 38 (Operand.tmp 27) (Operand.tmp 34), none⟩, []⟩,
  ⟨⟨some 36, Op.load 3 (Operand.tmp 35), none⟩, []⟩,
  ⟨⟨some 37, Op.move (Operand.tmp 8), none⟩, []⟩,
  ⟨⟨some 38, Op.move (Operand.tmp 1), none⟩, []⟩,
  ⟨⟨some 39, Op.indexAddr 38 (Operand.tmp 37) (Operand.tmp 38), none⟩, []⟩,
  ⟨⟨some 40, Op.load 3 (Operand.tmp 39), none⟩, []⟩,
  ⟨⟨some 41, Op.binOp BinOp.sub 3 (Operand.tmp 40) (Operand.const (Value.int IntKind.i64 1)) 3, none⟩, []⟩,
  ⟨⟨some 42, Op.binOp BinOp.neq 3 (Operand.tmp 36) (Operand.tmp 41) 3, none⟩, []⟩]) (.cond (Operand.tmp 42) .skip (.exit 2))) (.block 3 (.reg [⟨⟨some 43, Op.move (Operand.tmp 10), none⟩, []⟩,
  ⟨⟨some 44, Op.binOp BinOp.add 3 (Operand.tmp 43) (Operand.const (Value.int IntKind.i64 1)) 3, none⟩, []⟩,
  ⟨⟨some 10, Op.assign (Operand.tmp 44), none⟩, []⟩]))))) (.seq (.reg [⟨⟨some 45, Op.move (Operand.tmp 7), none⟩, []⟩,
  ⟨⟨some 46, Op.move (Operand.tmp 1), none⟩, []⟩,
  ⟨⟨some 47, Op.indexAddr 26 (Operand.tmp 45) (Operand.tmp 46), none⟩, []⟩,
  ⟨⟨some 48, Op.load 38 (Operand.tmp 47), none⟩, []⟩,
  ⟨⟨some 49, Op.move (Operand.tmp 10), none⟩, []⟩,
  ⟨⟨some 50, Op.indexAddr 38 (Operand.tmp 48) (Operand.tmp 49), none⟩, []⟩,
  ⟨⟨some 51, Op.load 3 (Operand.tmp 50), none⟩, []⟩,
  ⟨⟨some 1, Op.assign (Operand.tmp 51), none⟩, []⟩]) (.reg [⟨⟨some 52, Op.move (Operand.tmp 9), none⟩, []⟩,
  ⟨⟨some 53, Op.move (Operand.tmp 1), none⟩, []⟩,
  ⟨⟨some 54, Op.buildSlice 38 1 #[(0, (Operand.tmp 53))], none⟩, []⟩,
  ⟨⟨some 55, Op.call { callee := (Callee.builtin Builtin.append), args := #[(Operand.tmp 52), (Operand.tmp 54)], argTypes := #[38, 38] }, none⟩, []⟩,
  ⟨⟨some 9, Op.assign (Operand.tmp 55), none⟩, []⟩])))))))) (.seq (.reg [⟨⟨some 56, Op.move (Operand.tmp 9), none⟩, []⟩,
  ⟨⟨some 6, Op.assign (Operand.tmp 56), none⟩, []⟩]) .ret)))))))
theorem sl101 : slim Tryz.f101.ntmps ords101 (Tryz.f101.body.getD .skip) = some cd101 := by kernel_rfl
theorem in101 {args : List Value} {H : AH} {R : Value → AH → Prop} (hl : args.length = 3) (h : ∀ (Q : Exit → Sl → AH → Prop), (∀ e s H, endA Tryz.prog [ResultVar.tmp 6] R e s H → Q e s H) → wpC Tryz.prog cd101 Q (enterA args) H) : ACalls Tryz.prog 101 args H R :=
  ACalls.intro (by kernel_rfl) Tryz.func101 rfl (by kernel_rfl) sl101 hl (of_decide_eq_true (by kernel_rfl)) (by kernel_rfl) h
def ords50 : List (Nat × List (Nat × Bool)) := [(1, [(0, false), (1, false), (3, false), (4, false), (2, true), (5, true), (6, false), (7, false)]), (9, [(0, false), (1, false), (2, false), (3, false), (4, false), (5, false), (6, false), (7, false), (8, false), (9, true), (10, false), (11, true), (12, true)])]
def cd50 : Cd := (.seq (.reg [⟨⟨some 3, Op.box 28 (Operand.tmp 0), none⟩, []⟩,
  ⟨⟨some 6, Op.assign (Operand.const (Value.slice none 0 0)), none⟩, []⟩]) (.seq (.reg [⟨⟨some 12, Op.load 28 (Operand.tmp 3), none⟩, []⟩,
  ⟨⟨some 13, Op.move (Operand.tmp 1), none⟩, []⟩,
  ⟨⟨some 15, Op.load 28 (Operand.tmp 3), none⟩, []⟩,
  ⟨⟨some 16, Op.move (Operand.tmp 2), none⟩, []⟩,
  ⟨⟨some 14, Op.call { callee := (Callee.value (Operand.func 100)), args := #[(Operand.tmp 12), (Operand.tmp 13)], argTypes := #[28, 38] }, none⟩, [⟨some 15, Op.load 28 (Operand.tmp 3), none⟩]⟩,
  ⟨⟨some 17, Op.call { callee := (Callee.value (Operand.func 100)), args := #[(Operand.tmp 15), (Operand.tmp 16)], argTypes := #[28, 38] }, none⟩, []⟩,
  ⟨⟨some 7, Op.assign (Operand.tmp 14), none⟩, []⟩,
  ⟨⟨some 8, Op.assign (Operand.tmp 17), none⟩, []⟩]) (.seq (.reg [⟨⟨some 18, Op.buildSlice 26 0 #[], none⟩, []⟩,
  ⟨⟨some 9, Op.assign (Operand.tmp 18), none⟩, []⟩]) (.seq (.seq (.reg [⟨⟨some 19, Op.move (Operand.tmp 7), none⟩, []⟩,
  ⟨⟨some 20, Op.binOp BinOp.lss 3 (Operand.tmp 19) (Operand.const (Value.int IntKind.i64 0)) 3, none⟩, []⟩,
  ⟨⟨some 21, Op.move (Operand.tmp 20), none⟩, []⟩,
  ⟨⟨some 22, Op.move (Operand.tmp 8), some (21, false)⟩, []⟩,
  ⟨⟨some 23, Op.binOp BinOp.lss 3 (Operand.tmp 22) (Operand.const (Value.int IntKind.i64 0)) 3, some (21, false)⟩, []⟩,
  ⟨⟨some 24, Op.pick (Operand.tmp 21) (Operand.const (Value.bool true)) (Operand.tmp 23), none⟩, []⟩]) (.cond (Operand.tmp 24) (.seq (.reg [⟨⟨some 25, Op.move (Operand.tmp 9), none⟩, []⟩,
  ⟨⟨some 6, Op.assign (Operand.tmp 25), none⟩, []⟩]) .ret) .skip)) (.seq (.reg [⟨⟨some 26, Op.load 28 (Operand.tmp 3), none⟩, []⟩,
  ⟨⟨some 27, Op.move (Operand.tmp 7), none⟩, []⟩,
  ⟨⟨some 28, Op.move (Operand.tmp 8), none⟩, []⟩,
  ⟨⟨some 29, Op.call { callee := (Callee.value (Operand.func 101)), args := #[(Operand.tmp 26), (Operand.tmp 27), (Operand.tmp 28)], argTypes := #[28, 3, 3] }, none⟩, []⟩,
  ⟨⟨some 10, Op.assign (Operand.tmp 29), none⟩, []⟩]) (.seq (.seq (.reg [⟨⟨some 11, Op.assign (Operand.const (Value.int IntKind.i64 0)), none⟩, []⟩]) (.block 0 (.loop (.seq (.seq (.reg [⟨⟨some 30, Op.move (Operand.tmp 11), none⟩, []⟩,
  ⟨⟨some 31, Op.move (Operand.tmp 10), none⟩, []⟩,
  ⟨⟨some 32, Op.call { callee := (Callee.builtin Builtin.len), args := #[(Operand.tmp 31)], argTypes := #[38] }, none⟩, []⟩,
  ⟨⟨some 33, Op.binOp BinOp.lss 3 (Operand.tmp 30) (Operand.tmp 32) 3, none⟩, []⟩]) (.cond (Operand.tmp 33) .skip (.exit 0))) (.seq (.block 1 (.reg [⟨⟨some 36, Op.move (Operand.tmp 9), none⟩, []⟩,
  ⟨⟨some 37, Op.fieldAddr 28 (Operand.tmp 3) 0, none⟩, []⟩,
  ⟨⟨some 38, Op.load 26 (Operand.tmp 37), none⟩, []⟩,
  ⟨⟨some 39, Op.move (Operand.tmp 10), none⟩, []⟩,
  ⟨⟨some 40, Op.move (Operand.tmp 11), none⟩, []⟩,
  ⟨⟨some 41, Op.indexAddr 38 (Operand.tmp 39) (Operand.tmp 40), none⟩, []⟩,
  ⟨⟨some 42, Op.load 3 (Operand.tmp 41), none⟩, []⟩,
  ⟨⟨some 43, Op.indexAddr 26 (Operand.tmp 38) (Operand.tmp 42), none⟩, []⟩,
  ⟨⟨some 44, Op.load 38 (Operand.tmp 43), none⟩, []⟩,
  ⟨⟨some 45, Op.call { callee := (Callee.value (Operand.func 79)), args := #[(Operand.tmp 44)], argTypes := #[38] }, none⟩, []⟩,
  ⟨⟨some 46, Op.buildSlice 26 1 #[(0, (Operand.tmp 45))], none⟩, []⟩,
  ⟨⟨some 47, Op.call { callee := (Callee.builtin Builtin.append), args := #[(Operand.tmp 36), (Operand.tmp 46)], argTypes := #[26, 26] }, none⟩, []⟩,
  ⟨⟨some 9, Op.assign (Operand.tmp 47), none⟩, []⟩])) (.reg [⟨⟨some 34, Op.move (Operand.tmp 11), none⟩, []⟩,
  ⟨⟨some 35, Op.binOp BinOp.add 3 (Operand.tmp 34) (Operand.const (Value.int IntKind.i64 1)) 3, none⟩, []⟩,
  ⟨⟨some 11, Op.assign (Operand.tmp 35), none⟩, []⟩])))))) (.seq (.reg [⟨⟨some 48, Op.move (Operand.tmp 9), none⟩, []⟩,
  ⟨⟨some 6, Op.assign (Operand.tmp 48), none⟩, []⟩]) .ret)))))))
theorem sl50 : slim Tryz.f50.ntmps ords50 (Tryz.f50.body.getD .skip) = some cd50 := by kernel_rfl
theorem in50 {args : List Value} {H : AH} {R : Value → AH → Prop} (hl : args.length = 3) (h : ∀ (Q : Exit → Sl → AH → Prop), (∀ e s H, endA Tryz.prog [ResultVar.tmp 6] R e s H → Q e s H) → wpC Tryz.prog cd50 Q (enterA args) H) : ACalls Tryz.prog 50 args H R :=
  ACalls.intro (by kernel_rfl) Tryz.func50 rfl (by kernel_rfl) sl50 hl (of_decide_eq_true (by kernel_rfl)) (by kernel_rfl) h
def ords49 : List (Nat × List (Nat × Bool)) := []
def cd49 : Cd := (.seq (.reg [⟨⟨some 2, Op.assign (Operand.const (Value.slice none 0 0)), none⟩, []⟩,
  ⟨⟨some 3, Op.assign (Operand.const (Value.bool false)), none⟩, []⟩]) (.seq (.reg [⟨⟨some 4, Op.move (Operand.tmp 0), none⟩, []⟩,
  ⟨⟨some 5, Op.move (Operand.tmp 0), none⟩, []⟩,
  ⟨⟨some 6, Op.call { callee := (Callee.builtin Builtin.len), args := #[(Operand.tmp 5)], argTypes := #[26] }, none⟩, []⟩,
  ⟨⟨some 7, Op.binOp BinOp.gtr 3 (Operand.tmp 6) (Operand.const (Value.int IntKind.i64 0)) 3, none⟩, []⟩,
  ⟨⟨some 2, Op.assign (Operand.tmp 4), none⟩, []⟩,
  ⟨⟨some 3, Op.assign (Operand.tmp 7), none⟩, []⟩]) .ret))
theorem sl49 : slim Tryz.f49.ntmps ords49 (Tryz.f49.body.getD .skip) = some cd49 := by kernel_rfl
theorem in49 {args : List Value} {H : AH} {R : Value → AH → Prop} (hl : args.length = 1) (h : ∀ (Q : Exit → Sl → AH → Prop), (∀ e s H, endA Tryz.prog [ResultVar.tmp 2, ResultVar.tmp 3] R e s H → Q e s H) → wpC Tryz.prog cd49 Q (enterA args) H) : ACalls Tryz.prog 49 args H R :=
  ACalls.intro (by kernel_rfl) Tryz.func49 rfl (by kernel_rfl) sl49 hl (of_decide_eq_true (by kernel_rfl)) (by kernel_rfl) h
end Go.Proofs.YtlfongfhbkefmaaGreat.Ai
namespace Go.Proofs.YtlfongfhbkefmaaGreat.Ai
open Go Go.RowKit
set_option linter.unusedVariables false
set_option linter.unusedSimpArgs false
theorem deg_le (p : List Int → List Int → Bool) (ls : List (List Int)) (x : Int) : (nbS (steps p ls) x).length ≤ ls.length := by
  by_cases hx : 0 ≤ x ∧ x < ls.length
  · obtain ⟨y, rfl⟩ : ∃ y : Nat, x = y := ⟨x.toNat, by omega⟩
    exact Nat.le_trans (nbS_cnt p ls y) List.countP_le_length
  · have : nbS (steps p ls) x = [] := by
      refine List.eq_nil_iff_forall_not_mem.2 fun z hz => ?_
      have hok := steps_ok p ls
      rcases (nbS_mem _ _ _).1 hz with q | q
      · have := hok.rng _ q; simp only at this; omega
      · have := hok.rng _ q; simp only at this; omega
    rw [this]; simp
theorem wyS_pos (L : List (List Int)) (far : List Int) (j : Int) (f : Nat) (i : Int) : 0 < (wyS L far j f i).length := by
  rw [wyS_head]; simp
set_option maxRecDepth 20000 in
set_option maxHeartbeats 4000000 in
theorem l2Walk_c {a b : Value} {ls : List (List Int)} {ps : List (Int × Int)} {H : AH} (hr : SpRow H a b ls ps) (hn : ls.length ≤ 1000) (hp : ps.length ≤ 1000000) (hps : StpOk ls.length ps) (hdeg : ∀ x, (nbS ps x).length ≤ 12) {i j : Nat} (hi : i < ls.length) (hj : j < ls.length) :
    ACalls Tryz.prog 101 [.agg (List.toArray [a, b]), .int .i64 (i : Int), .int .i64 (j : Int)] H fun r H' =>
      Own 3 H H' r (if 0 ≤ (bfs (rdS ls.length ps) j).getD i 0 then wyS (rdS ls.length ps) (bfs (rdS ls.length ps) j) (j : Int) ((bfs (rdS ls.length ps) j).getD i 0).toNat (i : Int) else []) ∧ H <+: H' := by
  refine in101 rfl ?_
  intro Q hQ
  simp (maxSteps := 1000000) (disch := omega) only [cd101, hr.box, S, S1, S2, S3, S4, S5, ST, eq_self, reduceIte, reduceCtorEq, Nat.reduceEqDiff, Nat.reduceAdd]
  generalize hA : H ++ [AObj.cells [a, b] 28 false] = A
  have pA : H <+: A := by rw [← hA]; exact List.prefix_append _ _
  have cA : A[H.length]? = some (.cells [a, b] 28 false) := by rw [← hA]; exact at_new ..
  simp (maxSteps := 1000000) (disch := omega) only [ld_agg ag28 cs28 cA, S, S1, S2, S3, S4, S5, ST, eq_self, reduceIte, reduceCtorEq, Nat.reduceEqDiff, Nat.reduceAdd]
  refine CallH.by (l2Lists_c a b ls ps A (hr.pre pA) hn hp hps hdeg) ?_
  rintro v B ⟨⟨bd, hv⟩, pB⟩
  have hrl := rdS_len ls.length ps
  have hLk := rdS_ok hps
  have hsy := rdS_sym (n := ls.length) ps
  have hsm : ∀ x, ((rdS ls.length ps).getD x []).length ≤ 12 := fun x => by
    by_cases hx : x < ls.length
    · rw [rdS_at _ _ hx]; exact hdeg (x : Int)
    · rw [List.getD_eq_getElem?_getD, List.getElem?_eq_none (by omega)]; simp
  generalize rdS ls.length ps = L at *
  generalize ls.length = N at *
  simp (maxSteps := 1000000) (disch := omega) only [S, S1, S2, S3, S4, S5, ST, eq_self, reduceIte, reduceCtorEq, Nat.reduceEqDiff, Nat.reduceAdd]
  refine CallH.by (l2Spread_c v L j B hv hLk (by omega) (by omega) (fun x => by have := hsm x; omega)) ?_
  rintro fv C ⟨hf, pC⟩
  have hfl : (bfs L j).length = N := by
    obtain ⟨q, h⟩ := bfs_DI hLk (show j < L.length by omega)
    have := h.bi.len
    rw [hrl] at this; exact this
  have hf0 := hf.row
  have hci := hf0.cell (show i < (bfs L j).length by omega)
  simp (maxSteps := 1000000) (disch := omega) only [hf0.ix Tryz.underlying38 cs3, Int.toNat_natCast, hci, S, S1, S2, S3, S4, S5, ST, eq_self, reduceIte, reduceCtorEq, Nat.reduceEqDiff, Nat.reduceAdd]
  refine brD.intro (fun e => ?_) (fun e => ?_)
  · simp (maxSteps := 1000000) (disch := omega) only [S, S1, S2, S3, S4, S5, ST, eq_self, reduceIte, reduceCtorEq, Nat.reduceEqDiff, Nat.reduceAdd]
    refine hQ _ _ _ ?_
    simp (maxSteps := 1000000) (disch := omega) only [S, S1, S2, S3, S4, S5, ST, eq_self, reduceIte, reduceCtorEq, Nat.reduceEqDiff, Nat.reduceAdd]
    rw [if_neg (by omega)]
    exact ⟨own_base (show Own 3 C _ (.slice (some ⟨C.length, 0, none⟩) 0 0) [] from .inr ⟨C.length, rfl, Nat.le_refl _, at_new C (.cells (ints []) 3 false)⟩) (pA.trans (pB.trans pC)).length_le, pre_app (pA.trans (pB.trans pC)) _⟩
  have e0 : 0 ≤ (bfs L j).getD i 0 := by omega
  rw [if_pos e0] at hQ
  obtain ⟨d, hd⟩ : ∃ d : Nat, (bfs L j).getD i 0 = d := ⟨((bfs L j).getD i 0).toNat, by omega⟩
  rw [hd, Int.toNat_natCast] at hQ
  simp (maxSteps := 1000000) (disch := omega) only [S, S1, S2, S3, S4, S5, ST, eq_self, reduceIte, reduceCtorEq, Nat.reduceEqDiff, Nat.reduceAdd]
  generalize hD : C ++ [AObj.cells [.int .i64 (i : Int)] 3 false] = D
  have pD : C <+: D := by rw [← hD]; exact List.prefix_append _ _
  have cD : D[C.length]? = some (.cells (ints [(i : Int)]) 3 false) := by rw [← hD]; exact at_new ..
  have lD : D.length = C.length + 1 := by rw [← hD]; simp
  have own0 : Own 3 C D (.slice (some ⟨C.length, 0, none⟩) 1 1) [(i : Int)] := .inr ⟨C.length, rfl, Nat.le_refl _, cD⟩
  have hW : [(i : Int)] ++ (wyS L (bfs L j) (j : Int) d (i : Int)).tail = wyS L (bfs L j) (j : Int) d (i : Int) := (wyS_head _ _ _ _ _).symm
  generalize hWW : wyS L (bfs L j) (j : Int) d (i : Int) = W at hW hQ
  have hWl : W.length = d + 1 := by rw [← hWW]; exact (wy_len hLk hsy (by omega) d i (by omega) hd).1
  have hbN : ∀ x, x < N → (bfs L j).getD x 0 < N := by
    intro x hx
    obtain ⟨q, h⟩ := bfs_DI hLk (show j < L.length by omega)
    have h1 := h.bi.lo x (by omega)
    have h2 := h.bi.len_le
    have h1' : (bfs L j).getD x 0 < (q.length : Nat) := h1.2
    have h2' : q.length ≤ L.length := h2
    omega
  have hdN : d < N := by have := hbN i (by omega); omega
  refine LoopH.by (fun m s H' => ∃ (c : Nat) (O : List Int), c < N ∧ (bfs L j).getD c 0 = (m : Int) ∧ s 1 = .int .i64 (c : Int) ∧ s 2 = .int .i64 (j : Int) ∧ s 7 = v ∧ s 8 = fv ∧ Own 3 C H' (s 9) O ∧ O ++ (wyS L (bfs L j) (j : Int) m (c : Int)).tail = W ∧ C <+: H') d ?_ ?_
  · refine ⟨i, [(i : Int)], ?_⟩
    have hW2 : (i : Int) :: (wyS L (bfs L j) (j : Int) d (i : Int)).tail = W := by rw [hWW]; exact hW
    simp (maxSteps := 1000000) (disch := omega) only [S, S1, S2, S3, S4, S5, ST, eq_self, reduceIte, reduceCtorEq, Nat.reduceEqDiff, Nat.reduceAdd]
    (repeat' first | exact hd | exact own0 | exact hW2 | exact pD | apply And.intro) <;> first | (simp only [Value.int.injEq, true_and]; omega) | omega | rfl | assumption | (simp; done) | (simp; omega)
  rintro m s H' ⟨c, O, hc, hm, h1, h2, h7, h8, hO, hT, pH⟩
  generalize hU : s 9 = U at *
  simp (maxSteps := 1000000) (disch := omega) only [h1, h2, h7, h8, hU, S, S1, S2, S3, S4, S5, ST, eq_self, reduceIte, reduceCtorEq, Nat.reduceEqDiff, Nat.reduceAdd]
  by_cases ec : c = j
  · have ec' : ¬ ¬ (c : Int) = (j : Int) := by omega
    subst ec
    simp (maxSteps := 1000000) (disch := omega) only [decide_eq_false ec', h1, h2, h7, h8, hU, S, S1, S2, S3, S4, S5, ST, eq_self, reduceIte, reduceCtorEq, Nat.reduceEqDiff, Nat.reduceAdd]
    refine hQ _ _ _ ?_
    simp (maxSteps := 1000000) (disch := omega) only [hO.row.tup, S, S1, S2, S3, S4, S5, ST, eq_self, reduceIte, reduceCtorEq, Nat.reduceEqDiff, Nat.reduceAdd]
    rw [wyS_end] at hT
    have hOW : O = W := by simpa using hT
    rw [← hOW]
    exact ⟨own_base hO (pA.trans (pB.trans pC)).length_le, pA.trans (pB.trans (pC.trans pH))⟩
  · have ec' : ¬ (c : Int) = (j : Int) := by omega
    have hcN := hbN c hc
    have hpos := far_pos hLk hsy (show j < L.length by omega) (show c < L.length by omega) (by omega) ec
    obtain ⟨k, rfl⟩ : ∃ k, m = k + 1 := ⟨m - 1, by omega⟩
    obtain ⟨n1, n2, n3⟩ := nx_ok hLk hsy (show j < L.length by omega) (show c < L.length by omega) hm
    obtain ⟨nx, hnx⟩ : ∃ nx : Nat, nxS L (bfs L j) (c : Int) = nx := ⟨(nxS L (bfs L j) (c : Int)).toNat, by have := hLk c _ n1; omega⟩
    have hnr := hLk c _ n1
    rw [hnx] at n1 n2 n3 hnr
    rw [Int.toNat_natCast] at n2
    have hT2 : (O ++ [(nx : Int)]) ++ (wyS L (bfs L j) (j : Int) k (nx : Int)).tail = W := by
      rw [← hT]
      have : (wyS L (bfs L j) (j : Int) (k + 1) (c : Int)).tail = wyS L (bfs L j) (j : Int) k (nx : Int) := by
        simp only [wyS]; rw [if_neg ec', hnx]; rfl
      rw [this, List.append_assoc]
      congr 1
      exact (wyS_head _ _ _ _ _).symm
    obtain ⟨us, hus, hvb, hul, hin⟩ := hv.pre (pC.trans pH)
    have hcc := hus.cell (show c < us.length by omega)
    have hrow := (hin c (by omega)).1
    have hfH := hf0.pre pH
    simp (maxSteps := 1000000) (disch := omega) only [decide_eq_true ec', h1, h2, h7, h8, hU, S, S1, S2, S3, S4, S5, ST, eq_self, reduceIte, reduceCtorEq, Nat.reduceEqDiff, Nat.reduceAdd]
    generalize hxs : L.getD c [] = xs at *
    have hxl := hsm c
    rw [hxs] at hxl
    have hxr : ∀ z ∈ xs, 0 ≤ z ∧ z < N := fun z hz => by have := hLk c z (by rw [hxs]; exact hz); omega
    refine LoopH.by (fun m' s' H'' => ∃ (q : Nat), m' + q = xs.length ∧ s' 1 = .int .i64 (c : Int) ∧ s' 2 = .int .i64 (j : Int) ∧ s' 7 = v ∧ s' 8 = fv ∧ s' 9 = U ∧ s' 10 = .int .i64 ((q : Nat) : Int) ∧ H' = H'' ∧ (xs.drop q).find? (fun k => decide ((bfs L j).getD k.toNat 0 = (bfs L j).getD c 0 - 1)) = some (nx : Int)) xs.length ?_ ?_
    · refine ⟨0, ?_⟩
      simp (maxSteps := 1000000) (disch := omega) only [h1, h2, h7, h8, hU, S, S1, S2, S3, S4, S5, ST, eq_self, reduceIte, reduceCtorEq, Nat.reduceEqDiff, Nat.reduceAdd]
      (repeat' first | exact n3 | apply And.intro) <;> first | (simp only [Value.int.injEq, true_and]; omega) | omega | rfl | assumption | (simp; done) | (simp; omega)
    rintro m' s' H'' ⟨q, hm', g1, g2, g7, g8, g9, g10, rfl, hfd⟩
    have hq : q < xs.length := Nat.lt_of_not_le fun h => by
      rw [List.drop_of_length_le h] at hfd
      simp at hfd
    have hzm : xs.getD q 0 ∈ xs := by simp [hq]
    have hzr := hxr _ hzm
    have hcq := hrow.cell hq
    obtain ⟨z, hz⟩ : ∃ z : Nat, xs.getD q 0 = z := ⟨(xs.getD q 0).toNat, by omega⟩
    rw [hz] at hcq hzr
    have hfz := hfH.cell (show z < (bfs L j).length by omega)
    have hfc := hfH.cell (show c < (bfs L j).length by omega)
    have hdrop : xs.drop q = (z : Int) :: xs.drop (q + 1) := by
      rw [List.drop_eq_getElem_cons hq]
      congr 1
      rw [← hz]; simp [hq]
    rw [hdrop, List.find?_cons, Int.toNat_natCast] at hfd
    have hwr : IntKind.i64.wrap ((bfs L j).getD c 0 - 1) = (bfs L j).getD c 0 - 1 := wrap64 (by omega) (by omega)
    simp (maxSteps := 1000000) (disch := omega) only [g1, g2, g7, g8, g9, g10, hus.ix Tryz.underlying26 cs38, hcc, hrow.ix Tryz.underlying38 cs3, hfH.ix Tryz.underlying38 cs3, Int.toNat_natCast, hcq, hfz, hfc, hwr, S, S1, S2, S3, S4, S5, ST, eq_self, reduceIte, reduceCtorEq, Nat.reduceEqDiff, Nat.reduceAdd]
    by_cases e5 : (bfs L j).getD z 0 = (bfs L j).getD c 0 - 1
    · have e5' : ¬ ¬ (bfs L j).getD z 0 = (bfs L j).getD c 0 - 1 := fun h => h e5
      rw [decide_eq_true e5] at hfd
      have hzn : z = nx := by
        have := Option.some.inj hfd
        omega
      subst hzn
      obtain ⟨U', H2, j1, j2, j3, j4, j5, j6⟩ := own1_38 hO pH (by
        have : O.length ≤ W.length := by rw [← hT]; simp
        omega) (z : Int)
      simp (maxSteps := 1000000) (disch := omega) only [decide_eq_false e5', g1, g2, g7, g8, g9, g10, hus.ix Tryz.underlying26 cs38, hcc, hrow.ix Tryz.underlying38 cs3, Int.toNat_natCast, hcq, j1, S, S1, S2, S3, S4, S5, ST, eq_self, reduceIte, reduceCtorEq, Nat.reduceEqDiff, Nat.reduceAdd]
      refine ⟨k, by omega, z, O ++ [(z : Int)], ?_⟩
      (repeat' first | exact n2 | exact j2 | exact hT2 | exact j3 | apply And.intro) <;> first | (simp only [Value.int.injEq, true_and]; omega) | omega | rfl | assumption | (simp; done) | (simp; omega)
    · rw [decide_eq_false e5] at hfd
      simp (maxSteps := 1000000) (disch := omega) only [decide_eq_true e5, g1, g2, g7, g8, g9, g10, wrap64, S, S1, S2, S3, S4, S5, ST, eq_self, reduceIte, reduceCtorEq, Nat.reduceEqDiff, Nat.reduceAdd]
      refine ⟨m' - 1, by omega, q + 1, ?_⟩
      (repeat' first | exact hfd | apply And.intro) <;> first | (simp only [Value.int.injEq, true_and]; omega) | omega | rfl | assumption | (simp; done) | (simp; omega)
set_option maxRecDepth 20000 in
set_option maxHeartbeats 4000000 in
theorem l3Walk_c {a b va vb : Value} {us : List Value} {ls : List (List Int)} {ps : List (Int × Int)} {x y : List Int} {H : AH} (hr : SpRow H a b ls ps) (h : Sts H a us ls) (hn : ls.length ≤ 1000) (hp : ps.length ≤ 1000000) (hps : StpOk ls.length ps) (hdeg : ∀ x, (nbS ps x).length ≤ 12)
    (hx : Row 3 H va x) (hy : Row 3 H vb y) (hlx : x.length ≤ 1099511627776) (hly : y.length ≤ 1099511627776) :
    ACalls Tryz.prog 50 [.agg (List.toArray [a, b]), va, vb] H fun r H' => InL H.length H'.length 38 3 H' r (wkL ls ps x y) ∧ H <+: H' := by
  refine in50 rfl ?_
  intro Q hQ
  have hul := h.len
  simp (maxSteps := 1000000) (disch := omega) only [cd50, hr.box, S, S1, S2, S3, S4, S5, ST, eq_self, reduceIte, reduceCtorEq, Nat.reduceEqDiff, Nat.reduceAdd]
  generalize hA : H ++ [AObj.cells [a, b] 28 false] = A
  have pA : H <+: A := by rw [← hA]; exact List.prefix_append _ _
  have cA : A[H.length]? = some (.cells [a, b] 28 false) := by rw [← hA]; exact at_new ..
  have lA : A.length = H.length + 1 := by rw [← hA]; simp
  simp (maxSteps := 1000000) (disch := omega) only [ld_agg ag28 cs28 cA, S, S1, S2, S3, S4, S5, ST, eq_self, reduceIte, reduceCtorEq, Nat.reduceEqDiff, Nat.reduceAdd]
  refine CallH.by (l2Index_c (hr.pre pA) (h.pre pA) (hx.pre pA) hlx) ?_
  rintro _ B ⟨⟨i, rfl, hi1, hi2⟩, pB⟩
  have cB := pre_at pB cA
  have pHB := pA.trans pB
  simp (maxSteps := 1000000) (disch := omega) only [ld_agg ag28 cs28 cB, S, S1, S2, S3, S4, S5, ST, eq_self, reduceIte, reduceCtorEq, Nat.reduceEqDiff, Nat.reduceAdd]
  refine CallH.by (l2Index_c (hr.pre pHB) (h.pre pHB) (hy.pre pHB) hly) ?_
  rintro _ C ⟨⟨j, rfl, hj1, hj2⟩, pC⟩
  have pHC := pHB.trans pC
  have cC := pre_at pC cB
  have lC := (pB.trans pC).length_le
  simp (maxSteps := 1000000) (disch := omega) only [S, S1, S2, S3, S4, S5, ST, eq_self, reduceIte, reduceCtorEq, Nat.reduceEqDiff, Nat.reduceAdd]
  generalize hE : C ++ [AObj.cells [] 38 false] = E
  have pE : C <+: E := by rw [← hE]; exact List.prefix_append _ _
  have u0 : InU A.length E.length 38 3 E C.length [] [] := by
    have := InU.new A.length 38 3 C lC
    rw [hE] at this
    rw [show E.length = C.length + 1 by rw [← hE]; simp]
    exact this
  have cE := pre_at pE cC
  have pHE := pHC.trans pE
  have none_ : ¬ (x ∈ ls ∧ y ∈ ls) → wkL ls ps x y = [] := fun q => by
    unfold wkL
    rw [if_neg]
    unfold wkB
    rw [decide_eq_true_eq]
    exact fun g => q ⟨g.1, g.2.1⟩
  have out : ∀ s : Sl, True → wkL ls ps x y = [] → InL H.length E.length 38 3 E (.slice (some ⟨C.length, 0, none⟩) 0 0) (wkL ls ps x y) ∧ H <+: E := fun s _ q => by
    rw [q]
    have := u0.inl
    exact ⟨(by simpa using this.wide (show H.length ≤ A.length by omega) (Nat.le_refl _)), pHE⟩
  have m1 : (-1 : Int) < 0 := by decide
  by_cases ex : x ∈ ls
  rotate_left
  · have hi := hi1 ex
    subst hi
    simp (maxSteps := 1000000) (disch := omega) only [decide_eq_true m1, S, S1, S2, S3, S4, S5, ST, eq_self, reduceIte, reduceCtorEq, Nat.reduceEqDiff, Nat.reduceAdd]
    refine hQ _ _ _ ?_
    simp (maxSteps := 1000000) (disch := omega) only [S, S1, S2, S3, S4, S5, ST, eq_self, reduceIte, reduceCtorEq, Nat.reduceEqDiff, Nat.reduceAdd]
    exact out (fun _ => undef) trivial (none_ fun q => ex q.1)
  obtain ⟨⟨i1, i2⟩, i3⟩ := hi2 ex
  obtain ⟨ix, rfl⟩ : ∃ k : Nat, i = k := ⟨i.toNat, by omega⟩
  rw [Int.toNat_natCast] at i3
  have hix := idx_of h.srt (by omega) i3
  have n1 : ¬ (ix : Int) < 0 := by omega
  by_cases ey : y ∈ ls
  rotate_left
  · have hj := hj1 ey
    subst hj
    simp (maxSteps := 1000000) (disch := omega) only [decide_eq_false n1, decide_eq_true m1, S, S1, S2, S3, S4, S5, ST, eq_self, reduceIte, reduceCtorEq, Nat.reduceEqDiff, Nat.reduceAdd]
    refine hQ _ _ _ ?_
    simp (maxSteps := 1000000) (disch := omega) only [S, S1, S2, S3, S4, S5, ST, eq_self, reduceIte, reduceCtorEq, Nat.reduceEqDiff, Nat.reduceAdd]
    exact out (fun _ => undef) trivial (none_ fun q => ey q.2)
  obtain ⟨⟨j1, j2⟩, j3⟩ := hj2 ey
  obtain ⟨jy, rfl⟩ : ∃ k : Nat, j = k := ⟨j.toNat, by omega⟩
  rw [Int.toNat_natCast] at j3
  have hjy := idx_of h.srt (by omega) j3
  have n2 : ¬ (jy : Int) < 0 := by omega
  simp (maxSteps := 1000000) (disch := omega) only [decide_eq_false n1, decide_eq_false n2, ld_agg ag28 cs28 cE, S, S1, S2, S3, S4, S5, ST, eq_self, reduceIte, reduceCtorEq, Nat.reduceEqDiff, Nat.reduceAdd]
  refine CallH.by (l2Walk_c (hr.pre pHE) hn hp hps hdeg (show ix < ls.length by omega) (show jy < ls.length by omega)) ?_
  rintro g D ⟨hg, pD⟩
  have hb : wkB ls ps x y = decide (0 ≤ (bfs (rdS ls.length ps) jy).getD ix 0) := by
    unfold wkB
    rw [← hix, ← hjy]
    exact decide_eq_decide.2 ⟨fun q => q.2.2, fun q => ⟨ex, ey, q⟩⟩
  have hwl : wkL ls ps x y = (if 0 ≤ (bfs (rdS ls.length ps) jy).getD ix 0 then wyS (rdS ls.length ps) (bfs (rdS ls.length ps) jy) (jy : Int) ((bfs (rdS ls.length ps) jy).getD ix 0).toNat (ix : Int) else []).map fun k => ls.getD k.toNat [] := by
    unfold wkL
    rw [hb, ← hix, ← hjy]
    by_cases q : 0 ≤ (bfs (rdS ls.length ps) jy).getD ix 0
    · rw [if_pos (decide_eq_true q), if_pos q]
    · rw [if_neg (by simpa using q), if_neg q]; rfl
  have hrng : ∀ z ∈ (if 0 ≤ (bfs (rdS ls.length ps) jy).getD ix 0 then wyS (rdS ls.length ps) (bfs (rdS ls.length ps) jy) (jy : Int) ((bfs (rdS ls.length ps) jy).getD ix 0).toNat (ix : Int) else []), 0 ≤ z ∧ z < ls.length := by
    intro z hz
    split at hz
    · rename_i q
      have := (wy_len (rdS_ok hps) (rdS_sym ps) (by rw [rdS_len]; omega) ((bfs (rdS ls.length ps) jy).getD ix 0).toNat ix (by rw [rdS_len]; omega) (by omega)).2 z hz
      rwa [rdS_len] at this
    · simp at hz
  have hwy : (if 0 ≤ (bfs (rdS ls.length ps) jy).getD ix 0 then wyS (rdS ls.length ps) (bfs (rdS ls.length ps) jy) (jy : Int) ((bfs (rdS ls.length ps) jy).getD ix 0).toNat (ix : Int) else []).length ≤ 1000000 := by
    split
    · rename_i q
      have hL := rdS_ok hps
      have hlt : jy < (rdS ls.length ps).length := by rw [rdS_len]; omega
      have := (wy_len hL (rdS_sym ps) hlt ((bfs (rdS ls.length ps) jy).getD ix 0).toNat ix (by rw [rdS_len]; omega) (by omega)).1
      obtain ⟨q', h'⟩ := bfs_DI hL hlt
      have h1 := h'.bi.lo ix (by rw [rdS_len]; omega)
      have h2 := h'.bi.len_le
      have h1' : (bfs (rdS ls.length ps) jy).getD ix 0 < (q'.length : Nat) := h1.2
      have h2' : q'.length ≤ (rdS ls.length ps).length := h2
      rw [rdS_len] at h2'
      omega
    · simp
  rw [hwl] at hQ
  clear out none_ hwl hb
  generalize (if 0 ≤ (bfs (rdS ls.length ps) jy).getD ix 0 then wyS (rdS ls.length ps) (bfs (rdS ls.length ps) jy) (jy : Int) ((bfs (rdS ls.length ps) jy).getD ix 0).toNat (ix : Int) else []) = W at *
  have u1 : InU A.length D.length 38 3 D C.length [] ((W.take 0).map fun k => ls.getD k.toNat []) := (u0.pre pD).wide (Nat.le_refl _) pD.length_le
  have hlE : C.length + 1 = E.length := by rw [← hE]; simp
  have pHD := pHE.trans pD
  simp (maxSteps := 1000000) (disch := omega) only [S, S1, S2, S3, S4, S5, ST, eq_self, reduceIte, reduceCtorEq, Nat.reduceEqDiff, Nat.reduceAdd]
  refine LoopH.by (fun m s H' => ∃ (i o : Nat) (vs : List Value), m + i = W.length ∧ s 3 = .pointer (some ⟨H.length, 0, none⟩) ∧ s 9 = .slice (some ⟨o, 0, none⟩) ((W.take i).map fun k => ls.getD k.toNat []).length ((W.take i).map fun k => ls.getD k.toNat []).length ∧ s 10 = g ∧ s 11 = .int .i64 ((i : Nat) : Int) ∧ (o = C.length ∨ D.length ≤ o) ∧ InU A.length H'.length 38 3 H' o vs ((W.take i).map fun k => ls.getD k.toNat []) ∧ (∀ (j : Nat) (y : AObj), j ≠ C.length → D[j]? = some y → H'[j]? = some y) ∧ D.length ≤ H'.length) W.length ?_ ?_
  · exact ⟨0, C.length, [], by simp, rfl, rfl, rfl, rfl, .inl rfl, u1, fun j y _ hy => hy, Nat.le_refl _⟩
  rintro m s H' ⟨i, o, vs, hm, h3, h9, h10, h11, hoD, hin, hk, hAl⟩
  have pCH : C <+: H' := prefix_of fun j y hy => hk j y (by have := at_lt hy; omega) (pre_at (pE.trans pD) hy)
  have hgO := own_nil hg
  have lE : E.length = C.length + 1 := hlE.symm
  have hgH : Row 3 H' g W := by
    rcases hg with q | ⟨og, q1, q2, q3⟩
    · exact .inl q
    · exact (show Own 3 E H' g W from .inr ⟨og, q1, q2, hk _ _ (by omega) q3⟩).row
  have cH : H'[H.length]? = some (.cells [a, b] 28 false) := pre_at pCH cC
  have hH := h.pre (pHC.trans pCH)
  have hml : ((W.take i).map fun k => ls.getD k.toNat []).length = i := by rw [List.length_map, List.length_take]; omega
  simp (maxSteps := 1000000) (disch := omega) only [h3, h9, h10, h11, hgH.len Tryz.underlying38, S, S1, S2, S3, S4, S5, ST, eq_self, reduceIte, reduceCtorEq, Nat.reduceEqDiff, Nat.reduceAdd]
  refine brD.intro (fun q => ?_) (fun q => ?_)
  · have hi : i < W.length := by omega
    have hzm : W.getD i 0 ∈ W := by simp [hi]
    have hzr := hrng _ hzm
    have hst : (W.take (i + 1)).map (fun k => ls.getD k.toNat []) = (W.take i).map (fun k => ls.getD k.toNat []) ++ [ls.getD (W.getD i 0).toNat []] := by
      rw [List.take_add_one, List.getElem?_eq_getElem hi, List.map_append]
      have : W.getD i 0 = W[i] := by simp [hi]
      rw [this]; rfl
    have hci := hgH.cell hi
    obtain ⟨z, hz⟩ : ∃ z : Nat, W.getD i 0 = z := ⟨(W.getD i 0).toNat, by omega⟩
    rw [hz, Int.toNat_natCast] at hst
    rw [hz] at hci hzr
    have hcz := hH.cell (show z < ls.length by omega)
    simp (maxSteps := 1000000) (disch := omega) only [h3, h9, h10, h11, hgH.ix Tryz.underlying38 cs3, Int.toNat_natCast, hci, cell_of cH, hH.row.ix Tryz.underlying26 cs38, hcz, S, S1, S2, S3, S4, S5, ST, eq_self, reduceIte, reduceCtorEq, Nat.reduceEqDiff, Nat.reduceAdd]
    refine CallH.by (l1Own_c _ _ H' (hH.each z (by omega)) (hH.small z (by omega))) ?_
    rintro c F ⟨hc, pF⟩
    have hinw := InI.of hc.mine
    obtain ⟨H3, k1, k2, k3, k4⟩ := (hin.pre pF).app1 (P := Tryz.prog) (t2 := 26) Tryz.underlying26 cs38 (by rw [by38]; decide) zk38 hinw (by have := pCH.length_le; omega) pF.length_le (Nat.le_refl _) (by omega)
    rw [hml] at k1 k2
    rw [← hst] at k2
    have hml2 : ((W.take (i + 1)).map fun k => ls.getD k.toNat []).length = i + 1 := by rw [List.length_map, List.length_take]; omega
    have f1 : ∀ (j : Nat) (y : AObj), j ≠ C.length → D[j]? = some y → H3[j]? = some y := fun j y hj hy => by
      refine k4 j y ?_ (pre_at pF (hk j y hj hy))
      rcases hoD with g | g
      · omega
      · have := at_lt hy; omega
    have f2 : InU A.length H3.length 38 3 H3 (F.length + 1) (vs.take i ++ [c]) ((W.take (i + 1)).map fun k => ls.getD k.toNat []) := by rw [k3]; exact k2
    have hlF := pF.length_le
    have f3 : F.length + 1 = C.length ∨ D.length ≤ F.length + 1 := by omega
    simp (maxSteps := 1000000) (disch := omega) only [h3, h9, h10, h11, hml, bsRowW hc.row, k1, wrap64, S, S1, S2, S3, S4, S5, ST, eq_self, reduceIte, reduceCtorEq, Nat.reduceEqDiff, Nat.reduceAdd]
    refine ⟨m - 1, by omega, i + 1, F.length + 1, vs.take i ++ [c], ?_⟩
    rw [hml2]
    (repeat' first | exact f1 | exact f2 | exact f3 | apply And.intro) <;> first | (simp only [Value.int.injEq, true_and]; omega) | omega | rfl | assumption | (simp; done) | (simp; omega)
  · have hi : i = W.length := by omega
    subst hi
    simp (maxSteps := 1000000) (disch := omega) only [h9, S, S1, S2, S3, S4, S5, ST, eq_self, reduceIte, reduceCtorEq, Nat.reduceEqDiff, Nat.reduceAdd]
    refine hQ _ _ _ ?_
    simp (maxSteps := 1000000) (disch := omega) only [S, S1, S2, S3, S4, S5, ST, eq_self, reduceIte, reduceCtorEq, Nat.reduceEqDiff, Nat.reduceAdd]
    have e1 : W.take W.length = W := List.take_length
    rw [e1] at hin ⊢
    exact ⟨hin.inl.wide (by omega) (Nat.le_refl _), pHC.trans pCH⟩
theorem l3Told_c {lo hi : Nat} (v : Value) (ls : List (List Int)) (H : AH) (h : InL lo hi 38 3 H v ls) :
    ACalls Tryz.prog 49 [v] H fun r H' => r = .tuple (List.toArray [v, .bool (decide (0 < ls.length))]) ∧ H = H' := by
  refine in49 rfl ?_
  intro Q hQ
  obtain ⟨us, r1, r2, r3⟩ := h.parts
  have hd : decide (0 < ls.length) = decide ((0 : Int) < (us.length : Int)) := decide_eq_decide.2 (by omega)
  rw [hd] at hQ
  simp (maxSteps := 1000000) (disch := omega) only [cd49, r1.len Tryz.underlying26, S, S1, S2, S3, S4, S5, ST, eq_self, reduceIte, reduceCtorEq, Nat.reduceEqDiff, Nat.reduceAdd]
  refine hQ _ _ _ ?_
  simp (maxSteps := 1000000) (disch := omega) only [r1.tup, S, S1, S2, S3, S4, S5, ST, eq_self, reduceIte, reduceCtorEq, Nat.reduceEqDiff, Nat.reduceAdd]
end Go.Proofs.YtlfongfhbkefmaaGreat.Ai
