/- Texts of this claim, joined: WyS, LWyS. -/
import Derived.Test.YtlfongfhbkefmaaProg
import Derived.KernelRfl
import Derived.Test.YtlfongfhbkefmaaMgLawWyS5
namespace Go.Proofs.Ytlfongfhbkefmaa.Ai
open Go
def ords103 : List (Nat × List (Nat × Bool)) := []
def cd103 : Cd := (.seq (.reg [⟨⟨some 3, Op.box 31 (Operand.tmp 0), none⟩, []⟩,
  ⟨⟨some 6, Op.assign (Operand.const (Value.bool false)), none⟩, []⟩]) (.seq (.reg [⟨⟨some 7, Op.load 31 (Operand.tmp 3), none⟩, []⟩,
  ⟨⟨some 8, Op.call { callee := (Callee.value (Operand.func 66)), args := #[(Operand.tmp 7)], argTypes := #[31] }, none⟩, []⟩,
  ⟨⟨some 9, Op.move (Operand.tmp 8), none⟩, []⟩,
  ⟨⟨some 10, Op.move (Operand.tmp 1), some (9, true)⟩, []⟩,
  ⟨⟨some 11, Op.fieldAddr 31 (Operand.tmp 3) 0, some (9, true)⟩, []⟩,
  ⟨⟨some 12, Op.load 3 (Operand.tmp 11), some (9, true)⟩, []⟩,
  ⟨⟨some 13, Op.binOp BinOp.sub 3 (Operand.tmp 12) (Operand.const (Value.int IntKind.i64 1)) 3, some (9, true)⟩, []⟩,
  ⟨⟨some 14, Op.call { callee := (Callee.value (Operand.func 67)), args := #[(Operand.tmp 10), (Operand.const (Value.int IntKind.i64 0)), (Operand.tmp 13)], argTypes := #[3, 3, 3] }, some (9, true)⟩, []⟩,
  ⟨⟨some 15, Op.pick (Operand.tmp 9) (Operand.tmp 14) (Operand.const (Value.bool false)), none⟩, []⟩,
  ⟨⟨some 16, Op.move (Operand.tmp 15), none⟩, []⟩,
  ⟨⟨some 17, Op.move (Operand.tmp 2), some (16, true)⟩, []⟩,
  ⟨⟨some 18, Op.fieldAddr 31 (Operand.tmp 3) 0, some (16, true)⟩, []⟩,
  ⟨⟨some 19, Op.load 3 (Operand.tmp 18), some (16, true)⟩, []⟩,
  ⟨⟨some 20, Op.binOp BinOp.sub 3 (Operand.tmp 19) (Operand.const (Value.int IntKind.i64 1)) 3, some (16, true)⟩, []⟩,
  ⟨⟨some 21, Op.call { callee := (Callee.value (Operand.func 67)), args := #[(Operand.tmp 17), (Operand.const (Value.int IntKind.i64 0)), (Operand.tmp 20)], argTypes := #[3, 3, 3] }, some (16, true)⟩, []⟩,
  ⟨⟨some 22, Op.pick (Operand.tmp 16) (Operand.tmp 21) (Operand.const (Value.bool false)), none⟩, []⟩,
  ⟨⟨some 6, Op.assign (Operand.tmp 22), none⟩, []⟩]) .ret))
theorem sl103 : slim Try.f103.ntmps ords103 (Try.f103.body.getD .skip) = some cd103 := by kernel_rfl
theorem in103 {args : List Value} {H : AH} {R : Value → AH → Prop} (hl : args.length = 3) (h : ∀ (Q : Exit → Sl → AH → Prop), (∀ e s H, endA Try.prog [ResultVar.tmp 6] R e s H → Q e s H) → wpC Try.prog cd103 Q (enterA args) H) : ACalls Try.prog 103 args H R :=
  ACalls.intro (by kernel_rfl) Try.func103 rfl (by kernel_rfl) sl103 hl (of_decide_eq_true (by kernel_rfl)) (by kernel_rfl) h
def ords174 : List (Nat × List (Nat × Bool)) := [(8, [(0, false), (1, false), (2, false), (3, false), (4, false), (5, false), (6, false), (7, false), (8, false), (9, false), (10, false), (11, false), (12, false), (13, false), (14, false), (15, false), (16, false), (17, false), (18, false), (19, false)]), (9, [(0, false), (1, false), (2, false), (3, false), (4, false), (5, false), (6, false), (7, true), (8, false), (9, true)])]
def cd174 : Cd := (.seq (.reg [⟨⟨some 3, Op.box 31 (Operand.tmp 0), none⟩, []⟩,
  ⟨⟨some 6, Op.assign (Operand.const (Value.int IntKind.i64 0)), none⟩, []⟩]) (.seq (.seq (.reg [⟨⟨some 10, Op.move (Operand.tmp 1), none⟩, []⟩,
  ⟨⟨some 11, Op.move (Operand.tmp 2), none⟩, []⟩,
  ⟨⟨some 12, Op.indexAddr 38 (Operand.tmp 10) (Operand.tmp 11), none⟩, []⟩,
  ⟨⟨some 13, Op.load 3 (Operand.tmp 12), none⟩, []⟩,
  ⟨⟨some 14, Op.binOp BinOp.eql 3 (Operand.tmp 13) (Operand.const (Value.int IntKind.i64 0)) 3, none⟩, []⟩]) (.cond (Operand.tmp 14) (.seq (.reg [⟨⟨some 6, Op.assign (Operand.const (Value.int IntKind.i64 1)), none⟩, []⟩]) .ret) .skip)) (.seq (.reg [⟨⟨some 7, Op.assign (Operand.const (Value.int IntKind.i64 0)), none⟩, []⟩]) (.seq (.reg [⟨⟨some 15, Op.load 31 (Operand.tmp 3), none⟩, []⟩,
  ⟨⟨some 16, Op.move (Operand.tmp 2), none⟩, []⟩,
  ⟨⟨some 17, Op.call { callee := (Callee.value (Operand.func 228)), args := #[(Operand.tmp 15), (Operand.tmp 16)], argTypes := #[31, 3] }, none⟩, []⟩,
  ⟨⟨some 8, Op.assign (Operand.tmp 17), none⟩, []⟩]) (.seq (.seq (.reg [⟨⟨some 9, Op.assign (Operand.const (Value.int IntKind.i64 0)), none⟩, []⟩]) (.block 0 (.loop (.seq (.seq (.reg [⟨⟨some 18, Op.move (Operand.tmp 9), none⟩, []⟩,
  ⟨⟨some 19, Op.move (Operand.tmp 8), none⟩, []⟩,
  ⟨⟨some 20, Op.call { callee := (Callee.builtin Builtin.len), args := #[(Operand.tmp 19)], argTypes := #[38] }, none⟩, []⟩,
  ⟨⟨some 21, Op.binOp BinOp.lss 3 (Operand.tmp 18) (Operand.tmp 20) 3, none⟩, []⟩]) (.cond (Operand.tmp 21) .skip (.exit 0))) (.seq (.block 1 (.seq (.reg [⟨⟨some 24, Op.move (Operand.tmp 1), none⟩, []⟩,
  ⟨⟨some 25, Op.move (Operand.tmp 2), none⟩, []⟩,
  ⟨⟨some 26, Op.indexAddr 38 (Operand.tmp 24) (Operand.tmp 25), none⟩, []⟩,
  ⟨⟨some 27, Op.load 3 (Operand.tmp 26), none⟩, []⟩,
  ⟨⟨some 28, Op.binOp BinOp.gtr 3 (Operand.tmp 27) (Operand.const (Value.int IntKind.i64 0)) 3, none⟩, []⟩,
  ⟨⟨some 29, Op.move (Operand.tmp 28), none⟩, []⟩,
  ⟨⟨some 30, Op.move (Operand.tmp 1), some (29, true)⟩, []⟩,
  ⟨⟨some 31, Op.move (Operand.tmp 8), some (29, true)⟩, []⟩,
  ⟨⟨some 32, Op.move (Operand.tmp 9), some (29, true)⟩, []⟩,
  ⟨⟨some 33, Op.indexAddr 38 (Operand.tmp 31) (Operand.tmp 32), some (29, true)⟩, []⟩,
  ⟨⟨some 34, Op.load 3 (Operand.tmp 33), some (29, true)⟩, []⟩,
  ⟨⟨some 35, Op.indexAddr 38 (Operand.tmp 30) (Operand.tmp 34), some (29, true)⟩, []⟩,
  ⟨⟨some 36, Op.load 3 (Operand.tmp 35), some (29, true)⟩, []⟩,
  ⟨⟨some 37, Op.move (Operand.tmp 1), some (29, true)⟩, []⟩,
  ⟨⟨some 38, Op.move (Operand.tmp 2), some (29, true)⟩, []⟩,
  ⟨⟨some 39, Op.indexAddr 38 (Operand.tmp 37) (Operand.tmp 38), some (29, true)⟩, []⟩,
  ⟨⟨some 40, Op.load 3 (Operand.tmp 39), some (29, true)⟩, []⟩,
  ⟨⟨some 41, Op.binOp BinOp.sub 3 (Operand.tmp 40) (Operand.const (Value.int IntKind.i64 1)) 3, some (29, true)⟩, []⟩,
  ⟨⟨some 42, Op.binOp BinOp.eql 3 (Operand.tmp 36) (Operand.tmp 41) 3, some (29, true)⟩, []⟩,
  ⟨⟨some 43, Op.pick (Operand.tmp 29) (Operand.tmp 42) (Operand.const (Value.bool false)), none⟩, []⟩]) (.cond (Operand.tmp 43) (.reg [⟨⟨some 44, Op.move (Operand.tmp 7), none⟩, []⟩,
  ⟨⟨some 45, Op.load 31 (Operand.tmp 3), none⟩, []⟩,
  ⟨⟨some 46, Op.move (Operand.tmp 1), none⟩, []⟩,
  ⟨⟨some 47, Op.move (Operand.tmp 8), none⟩, []⟩,
  ⟨⟨some 48, Op.move (Operand.tmp 9), none⟩, []⟩,
  ⟨⟨some 49, Op.indexAddr 38 (Operand.tmp 47) (Operand.tmp 48), none⟩, []⟩,
  ⟨⟨some 50, Op.load 3 (Operand.tmp 49), none⟩, []⟩,
  ⟨⟨some 51, Op.call { callee := (Callee.value (Operand.func 174)), args := #[(Operand.tmp 45), (Operand.tmp 46), (Operand.tmp 50)], argTypes := #[31, 38, 3] }, none⟩, []⟩,
  ⟨⟨some 52, Op.binOp BinOp.add 3 (Operand.tmp 44) (Operand.tmp 51) 3, none⟩, []⟩,
  ⟨⟨some 7, Op.assign (Operand.tmp 52), none⟩, []⟩]) .skip))) (.reg [⟨⟨some 22, Op.move (Operand.tmp 9), none⟩, []⟩,
  ⟨⟨some 23, Op.binOp BinOp.add 3 (Operand.tmp 22) (Operand.const (Value.int IntKind.i64 1)) 3, none⟩, []⟩,
  ⟨⟨some 9, Op.assign (Operand.tmp 23), none⟩, []⟩])))))) (.seq (.reg [⟨⟨some 53, Op.move (Operand.tmp 7), none⟩, []⟩,
  ⟨⟨some 6, Op.assign (Operand.tmp 53), none⟩, []⟩]) .ret))))))
theorem sl174 : slim Try.f174.ntmps ords174 (Try.f174.body.getD .skip) = some cd174 := by kernel_rfl
theorem in174 {args : List Value} {H : AH} {R : Value → AH → Prop} (hl : args.length = 3) (h : ∀ (Q : Exit → Sl → AH → Prop), (∀ e s H, endA Try.prog [ResultVar.tmp 6] R e s H → Q e s H) → wpC Try.prog cd174 Q (enterA args) H) : ACalls Try.prog 174 args H R :=
  ACalls.intro (by kernel_rfl) Try.func174 rfl (by kernel_rfl) sl174 hl (of_decide_eq_true (by kernel_rfl)) (by kernel_rfl) h
def ords175 : List (Nat × List (Nat × Bool)) := [(8, [(0, false), (1, false), (2, false), (3, false), (4, false), (5, false), (6, false), (7, false), (8, false), (9, false), (10, false), (11, false), (12, false)]), (9, [(0, false), (1, false), (2, false), (4, false), (5, false), (6, false), (7, false), (8, false), (10, false), (3, true), (9, true), (11, true), (12, true)])]
def cd175 : Cd := (.seq (.reg [⟨⟨some 4, Op.box 31 (Operand.tmp 0), none⟩, []⟩,
  ⟨⟨some 8, Op.assign (Operand.const (Value.slice none 0 0)), none⟩, []⟩]) (.seq (.reg [⟨⟨some 12, Op.move (Operand.tmp 2), none⟩, []⟩,
  ⟨⟨some 13, Op.move (Operand.tmp 2), none⟩, []⟩,
  ⟨⟨some 14, Op.call { callee := (Callee.builtin Builtin.len), args := #[(Operand.tmp 13)], argTypes := #[38] }, none⟩, []⟩,
  ⟨⟨some 15, Op.binOp BinOp.sub 3 (Operand.tmp 14) (Operand.const (Value.int IntKind.i64 1)) 3, none⟩, []⟩,
  ⟨⟨some 16, Op.indexAddr 38 (Operand.tmp 12) (Operand.tmp 15), none⟩, []⟩,
  ⟨⟨some 17, Op.load 3 (Operand.tmp 16), none⟩, []⟩,
  ⟨⟨some 9, Op.assign (Operand.tmp 17), none⟩, []⟩]) (.seq (.seq (.reg [⟨⟨some 18, Op.move (Operand.tmp 1), none⟩, []⟩,
  ⟨⟨some 19, Op.move (Operand.tmp 9), none⟩, []⟩,
  ⟨⟨some 20, Op.indexAddr 38 (Operand.tmp 18) (Operand.tmp 19), none⟩, []⟩,
  ⟨⟨some 21, Op.load 3 (Operand.tmp 20), none⟩, []⟩,
  ⟨⟨some 22, Op.binOp BinOp.eql 3 (Operand.tmp 21) (Operand.const (Value.int IntKind.i64 0)) 3, none⟩, []⟩]) (.cond (Operand.tmp 22) (.seq (.reg [⟨⟨some 23, Op.move (Operand.tmp 3), none⟩, []⟩,
  ⟨⟨some 24, Op.move (Operand.tmp 2), none⟩, []⟩,
  ⟨⟨some 25, Op.buildSlice 26 1 #[(0, (Operand.tmp 24))], none⟩, []⟩,
  ⟨⟨some 26, Op.call { callee := (Callee.builtin Builtin.append), args := #[(Operand.tmp 23), (Operand.tmp 25)], argTypes := #[26, 26] }, none⟩, []⟩,
  ⟨⟨some 8, Op.assign (Operand.tmp 26), none⟩, []⟩]) .ret) .skip)) (.seq (.reg [⟨⟨some 27, Op.load 31 (Operand.tmp 4), none⟩, []⟩,
  ⟨⟨some 28, Op.move (Operand.tmp 9), none⟩, []⟩,
  ⟨⟨some 29, Op.call { callee := (Callee.value (Operand.func 228)), args := #[(Operand.tmp 27), (Operand.tmp 28)], argTypes := #[31, 3] }, none⟩, []⟩,
  ⟨⟨some 10, Op.assign (Operand.tmp 29), none⟩, []⟩]) (.seq (.seq (.reg [⟨⟨some 11, Op.assign (Operand.const (Value.int IntKind.i64 0)), none⟩, []⟩]) (.block 0 (.loop (.seq (.seq (.reg [⟨⟨some 30, Op.move (Operand.tmp 11), none⟩, []⟩,
  ⟨⟨some 31, Op.move (Operand.tmp 10), none⟩, []⟩,
  ⟨⟨some 32, Op.call { callee := (Callee.builtin Builtin.len), args := #[(Operand.tmp 31)], argTypes := #[38] }, none⟩, []⟩,
  ⟨⟨some 33, Op.binOp BinOp.lss 3 (Operand.tmp 30) (Operand.tmp 32) 3, none⟩, []⟩]) (.cond (Operand.tmp 33) .skip (.exit 0))) (.seq (.block 1 (.seq (.reg [⟨⟨some 36, Op.move (Operand.tmp 1), none⟩, []⟩,
  ⟨⟨some 37, Op.move (Operand.tmp 10), none⟩, []⟩,
  ⟨⟨some 38, Op.move (Operand.tmp 11), none⟩, []⟩,
  ⟨⟨some 39, Op.indexAddr 38 (Operand.tmp 37) (Operand.tmp 38), none⟩, []⟩,
  ⟨⟨some 40, Op.load 3 (Operand.tmp 39), none⟩, []⟩,
  ⟨⟨some 41, Op.indexAddr 38 (Operand.tmp 36) (Operand.tmp 40), none⟩, []⟩,
  ⟨⟨some 42, Op.load 3 (Operand.tmp 41), none⟩, []⟩,
  ⟨⟨some 43, Op.move (Operand.tmp 1), none⟩, []⟩,
  ⟨⟨some 44, Op.move (Operand.tmp 9), none⟩, []⟩,
  ⟨⟨some 45, Op.indexAddr 38 (Operand.tmp 43) (Operand.tmp 44), none⟩, []⟩,
  ⟨⟨some 46, Op.load 3 (Operand.tmp 45), none⟩, []⟩,
  ⟨⟨some 47, Op.binOp BinOp.sub 3 (Operand.tmp 46) (Operand.const (Value.int IntKind.i64 1)) 3, none⟩, []⟩,
  ⟨⟨some 48, Op.binOp BinOp.eql 3 (Operand.tmp 42) (Operand.tmp 47) 3, none⟩, []⟩]) (.cond (Operand.tmp 48) (.reg [⟨⟨some 49, Op.load 31 (Operand.tmp 4), none⟩, []⟩,
  ⟨⟨some 50, Op.move (Operand.tmp 1), none⟩, []⟩,
  ⟨⟨some 51, Op.move (Operand.tmp 2), none⟩, []⟩,
  ⟨⟨some 53, Op.move (Operand.tmp 10), none⟩, []⟩,
  ⟨⟨some 54, Op.move (Operand.tmp 11), none⟩, []⟩,
  ⟨⟨some 55, Op.indexAddr 38 (Operand.tmp 53) (Operand.tmp 54), none⟩, []⟩,
  ⟨⟨some 56, Op.load 3 (Operand.tmp 55), none⟩, []⟩,
  ⟨⟨some 57, Op.buildSlice 38 1 #[(0, (Operand.tmp 56))], none⟩, []⟩,
  ⟨⟨some 59, Op.move (Operand.tmp 3), none⟩, []⟩,
  ⟨⟨some 52, Op.call { callee := (Callee.value (Operand.func 82)), args := #[(Operand.tmp 51)], argTypes := #[38] }, none⟩, [⟨some 57, Op.buildSlice 38 1 #[(0, (Operand.tmp 56))], none⟩, ⟨some 56, Op.load 3 (Operand.tmp 55), none⟩, ⟨some 49, Op.load 31 (Operand.tmp 4), none⟩]⟩,
  ⟨⟨some 58, Op.call { callee := (Callee.builtin Builtin.append), args := #[(Operand.tmp 52), (Operand.tmp 57)], argTypes := #[38, 38] }, none⟩, [⟨some 49, Op.load 31 (Operand.tmp 4), none⟩]⟩,
  ⟨⟨some 60, Op.call { callee := (Callee.value (Operand.func 175)), args := #[(Operand.tmp 49), (Operand.tmp 50), (Operand.tmp 58), (Operand.tmp 59)], argTypes := #[31, 38, 38, 26] }, none⟩, []⟩,
  ⟨⟨some 3, Op.assign (Operand.tmp 60), none⟩, []⟩]) .skip))) (.reg [⟨⟨some 34, Op.move (Operand.tmp 11), none⟩, []⟩,
  ⟨⟨some 35, Op.binOp BinOp.add 3 (Operand.tmp 34) (Operand.const (Value.int IntKind.i64 1)) 3, none⟩, []⟩,
  ⟨⟨some 11, Op.assign (Operand.tmp 35), none⟩, []⟩])))))) (.seq (.reg [⟨⟨some 61, Op.move (Operand.tmp 3), none⟩, []⟩,
  ⟨⟨some 8, Op.assign (Operand.tmp 61), none⟩, []⟩]) .ret))))))
theorem sl175 : slim Try.f175.ntmps ords175 (Try.f175.body.getD .skip) = some cd175 := by kernel_rfl
theorem in175 {args : List Value} {H : AH} {R : Value → AH → Prop} (hl : args.length = 4) (h : ∀ (Q : Exit → Sl → AH → Prop), (∀ e s H, endA Try.prog [ResultVar.tmp 8] R e s H → Q e s H) → wpC Try.prog cd175 Q (enterA args) H) : ACalls Try.prog 175 args H R :=
  ACalls.intro (by kernel_rfl) Try.func175 rfl (by kernel_rfl) sl175 hl (of_decide_eq_true (by kernel_rfl)) (by kernel_rfl) h
def ords104 : List (Nat × List (Nat × Bool)) := []
def cd104 : Cd := (.seq (.reg [⟨⟨some 3, Op.box 31 (Operand.tmp 0), none⟩, []⟩,
  ⟨⟨some 6, Op.assign (Operand.const (Value.slice none 0 0)), none⟩, []⟩]) (.seq (.reg [⟨⟨some 8, Op.load 31 (Operand.tmp 3), none⟩, []⟩,
  ⟨⟨some 9, Op.move (Operand.tmp 2), none⟩, []⟩,
  ⟨⟨some 10, Op.call { callee := (Callee.value (Operand.func 173)), args := #[(Operand.tmp 8), (Operand.tmp 9)], argTypes := #[31, 3] }, none⟩, []⟩,
  ⟨⟨some 7, Op.assign (Operand.tmp 10), none⟩, []⟩]) (.seq (.seq (.reg [⟨⟨some 11, Op.move (Operand.tmp 7), none⟩, []⟩,
  ⟨⟨some 12, Op.move (Operand.tmp 1), none⟩, []⟩,
  ⟨⟨some 13, Op.indexAddr 38 (Operand.tmp 11) (Operand.tmp 12), none⟩, []⟩,
  ⟨⟨some 14, Op.load 3 (Operand.tmp 13), none⟩, []⟩,
  ⟨⟨some 15, Op.binOp BinOp.lss 3 (Operand.tmp 14) (Operand.const (Value.int IntKind.i64 0)) 3, none⟩, []⟩,
  ⟨⟨some 16, Op.move (Operand.tmp 15), none⟩, []⟩,
  ⟨⟨some 17, Op.load 31 (Operand.tmp 3), some (16, false)⟩, []⟩,
  ⟨⟨some 18, Op.move (Operand.tmp 7), some (16, false)⟩, []⟩,
  ⟨⟨some 19, Op.move (Operand.tmp 1), some (16, false)⟩, []⟩,
  ⟨⟨some 20, Op.call { callee := (Callee.value (Operand.func 174)), args := #[(Operand.tmp 17), (Operand.tmp 18), (Operand.tmp 19)], argTypes := #[31, 38, 3] }, some (16, false)⟩, []⟩,
  ⟨⟨some 21, Op.binOp BinOp.gtr 3 (Operand.tmp 20) (Operand.const (Value.int IntKind.i64 300)) 3, some (16, false)⟩, []⟩,
  ⟨⟨some 22, Op.pick (Operand.tmp 16) (Operand.const (Value.bool true)) (Operand.tmp 21), none⟩, []⟩]) (.cond (Operand.tmp 22) (.seq (.reg [⟨⟨some 23, Op.buildSlice 26 0 #[], none⟩, []⟩,
  ⟨⟨some 6, Op.assign (Operand.tmp 23), none⟩, []⟩]) .ret) .skip)) (.seq (.reg [⟨⟨some 24, Op.load 31 (Operand.tmp 3), none⟩, []⟩,
  ⟨⟨some 25, Op.move (Operand.tmp 7), none⟩, []⟩,
  ⟨⟨some 26, Op.move (Operand.tmp 1), none⟩, []⟩,
  ⟨⟨some 27, Op.buildSlice 38 1 #[(0, (Operand.tmp 26))], none⟩, []⟩,
  ⟨⟨some 28, Op.buildSlice 26 0 #[], none⟩, []⟩,
  ⟨⟨some 29, Op.call { callee := (Callee.value (Operand.func 175)), args := #[(Operand.tmp 24), (Operand.tmp 25), (Operand.tmp 27), (Operand.tmp 28)], argTypes := #[31, 38, 38, 26] }, none⟩, []⟩,
  ⟨⟨some 6, Op.assign (Operand.tmp 29), none⟩, []⟩]) .ret))))
theorem sl104 : slim Try.f104.ntmps ords104 (Try.f104.body.getD .skip) = some cd104 := by kernel_rfl
theorem in104 {args : List Value} {H : AH} {R : Value → AH → Prop} (hl : args.length = 3) (h : ∀ (Q : Exit → Sl → AH → Prop), (∀ e s H, endA Try.prog [ResultVar.tmp 6] R e s H → Q e s H) → wpC Try.prog cd104 Q (enterA args) H) : ACalls Try.prog 104 args H R :=
  ACalls.intro (by kernel_rfl) Try.func104 rfl (by kernel_rfl) sl104 hl (of_decide_eq_true (by kernel_rfl)) (by kernel_rfl) h
def ords105 : List (Nat × List (Nat × Bool)) := [(8, [(0, false), (1, false), (2, false), (3, false), (4, false), (5, false), (6, false), (7, false), (8, true), (9, false), (10, false)])]
def cd105 : Cd := (.seq (.reg [⟨⟨some 2, Op.alloc 28, none⟩, []⟩]) (.seq (.reg [⟨⟨some 6, Op.move (Operand.tmp 0), none⟩, []⟩,
  ⟨⟨some 7, Op.buildSlice 22 0 #[], none⟩, []⟩,
  ⟨⟨some 8, Op.build 28 #[(0, (Operand.tmp 6)), (1, (Operand.tmp 7))], none⟩, []⟩,
  ⟨⟨some 3, Op.alloc 28, none⟩, []⟩,
  ⟨⟨none, Op.store 28 (Operand.tmp 3) (Operand.tmp 8), none⟩, []⟩]) (.seq (.seq (.reg [⟨⟨some 4, Op.assign (Operand.const (Value.int IntKind.i64 0)), none⟩, []⟩]) (.block 0 (.loop (.seq (.seq (.reg [⟨⟨some 9, Op.move (Operand.tmp 4), none⟩, []⟩,
  ⟨⟨some 10, Op.move (Operand.tmp 0), none⟩, []⟩,
  ⟨⟨some 11, Op.call { callee := (Callee.builtin Builtin.len), args := #[(Operand.tmp 10)], argTypes := #[26] }, none⟩, []⟩,
  ⟨⟨some 12, Op.binOp BinOp.lss 3 (Operand.tmp 9) (Operand.tmp 11) 3, none⟩, []⟩]) (.cond (Operand.tmp 12) .skip (.exit 0))) (.seq (.block 1 (.seq (.reg [⟨⟨some 15, Op.move (Operand.tmp 4), none⟩, []⟩,
  ⟨⟨some 16, Op.binOp BinOp.add 3 (Operand.tmp 15) (Operand.const (Value.int IntKind.i64 1)) 3, none⟩, []⟩,
  ⟨⟨some 5, Op.assign (Operand.tmp 16), none⟩, []⟩]) (.block 2 (.loop (.seq (.seq (.reg [⟨⟨some 17, Op.move (Operand.tmp 5), none⟩, []⟩,
  ⟨⟨some 18, Op.move (Operand.tmp 0), none⟩, []⟩,
  ⟨⟨some 19, Op.call { callee := (Callee.builtin Builtin.len), args := #[(Operand.tmp 18)], argTypes := #[26] }, none⟩, []⟩,
  ⟨⟨some 20, Op.binOp BinOp.lss 3 (Operand.tmp 17) (Operand.tmp 19) 3, none⟩, []⟩]) (.cond (Operand.tmp 20) .skip (.exit 2))) (.seq (.block 3 (.seq (.reg [⟨⟨some 23, Op.move (Operand.tmp 0), none⟩, []⟩,
  ⟨⟨some 24, Op.move (Operand.tmp 4), none⟩, []⟩,
  ⟨⟨some 25, Op.indexAddr 26 (Operand.tmp 23) (Operand.tmp 24), none⟩, []⟩,
  ⟨⟨some 26, Op.load 38 (Operand.tmp 25), none⟩, []⟩,
  ⟨⟨some 27, Op.move (Operand.tmp 0), none⟩, []⟩,
  ⟨⟨some 28, Op.move (Operand.tmp 5), none⟩, []⟩,
  ⟨⟨some 29, Op.indexAddr 26 (Operand.tmp 27) (Operand.tmp 28), none⟩, []⟩,
  ⟨⟨some 30, Op.load 38 (Operand.tmp 29), none⟩, []⟩,
  ⟨⟨some 31, Op.call { callee := (Callee.value (Operand.func 176)), args := #[(Operand.tmp 26), (Operand.tmp 30)], argTypes := #[38, 38] }, none⟩, []⟩,
  ⟨⟨some 32, Op.call { callee := (Callee.builtin Builtin.len), args := #[(Operand.tmp 31)], argTypes := #[38] }, none⟩, []⟩,
  ⟨⟨some 33, Op.binOp BinOp.eql 3 (Operand.tmp 32) (Operand.const (Value.int IntKind.i64 1)) 3, none⟩, []⟩]) (.cond (Operand.tmp 33) (.reg [⟨⟨some 34, Op.fieldAddr 28 (Operand.tmp 3) 1, none⟩, []⟩,
  ⟨⟨some 35, Op.load 22 (Operand.tmp 34), none⟩, []⟩,
  ⟨⟨some 36, Op.move (Operand.tmp 4), none⟩, []⟩,
  ⟨⟨some 37, Op.move (Operand.tmp 5), none⟩, []⟩,
  ⟨⟨some 38, Op.build 81 #[(0, (Operand.tmp 36)), (1, (Operand.tmp 37))], none⟩, []⟩,
  ⟨⟨some 39, Op.buildSlice 22 1 #[(0, (Operand.tmp 38))], none⟩, []⟩,
  ⟨⟨some 40, Op.call { callee := (Callee.builtin Builtin.append), args := #[(Operand.tmp 35), (Operand.tmp 39)], argTypes := #[22, 22] }, none⟩, []⟩,
  ⟨⟨some 41, Op.fieldAddr 28 (Operand.tmp 3) 1, none⟩, []⟩,
  ⟨⟨none, Op.store 22 (Operand.tmp 41) (Operand.tmp 40), none⟩, []⟩]) .skip))) (.reg [⟨⟨some 21, Op.move (Operand.tmp 5), none⟩, []⟩,
  ⟨⟨some 22, Op.binOp BinOp.add 3 (Operand.tmp 21) (Operand.const (Value.int IntKind.i64 1)) 3, none⟩, []⟩,
  ⟨⟨some 5, Op.assign (Operand.tmp 22), none⟩, []⟩]))))))) (.reg [⟨⟨some 13, Op.move (Operand.tmp 4), none⟩, []⟩,
  ⟨⟨some 14, Op.binOp BinOp.add 3 (Operand.tmp 13) (Operand.const (Value.int IntKind.i64 1)) 3, none⟩, []⟩,
  ⟨⟨some 4, Op.assign (Operand.tmp 14), none⟩, []⟩])))))) (.seq (.reg [⟨⟨some 42, Op.load 28 (Operand.tmp 3), none⟩, []⟩,
  ⟨⟨none, Op.store 28 (Operand.tmp 2) (Operand.tmp 42), none⟩, []⟩]) .ret))))
theorem sl105 : slim Try.f105.ntmps ords105 (Try.f105.body.getD .skip) = some cd105 := by kernel_rfl
set_option maxRecDepth 20000 in
theorem in105 {args : List Value} {H : AH} {R : Value → AH → Prop} (hl : args.length = 1) (h : ∀ (Q : Exit → Sl → AH → Prop), (∀ e s H, endA Try.prog [ResultVar.cell 2 28] R e s H → Q e s H) → wpC Try.prog cd105 Q (enterA args) H) : ACalls Try.prog 105 args H R :=
  ACalls.intro (by kernel_rfl) Try.func105 rfl (by kernel_rfl) sl105 hl (of_decide_eq_true (by kernel_rfl)) (by kernel_rfl) h
def ords33 : List (Nat × List (Nat × Bool)) := []
def cd33 : Cd := (.seq (.reg [⟨⟨some 3, Op.box 31 (Operand.tmp 0), none⟩, []⟩,
  ⟨⟨some 6, Op.alloc 28, none⟩, []⟩,
  ⟨⟨some 7, Op.assign (Operand.const (Value.bool false)), none⟩, []⟩]) (.seq (.seq (.reg [⟨⟨some 9, Op.load 31 (Operand.tmp 3), none⟩, []⟩,
  ⟨⟨some 10, Op.move (Operand.tmp 1), none⟩, []⟩,
  ⟨⟨some 11, Op.move (Operand.tmp 2), none⟩, []⟩,
  ⟨⟨some 12, Op.call { callee := (Callee.value (Operand.func 103)), args := #[(Operand.tmp 9), (Operand.tmp 10), (Operand.tmp 11)], argTypes := #[31, 3, 3] }, none⟩, []⟩,
  ⟨⟨some 13, Op.unOp UnOp.not 4 (Operand.tmp 12), none⟩, []⟩]) (.cond (Operand.tmp 13) (.seq (.reg [⟨⟨some 14, Op.build 28 #[], none⟩, []⟩,
  ⟨⟨none, Op.store 28 (Operand.tmp 6) (Operand.tmp 14), none⟩, []⟩,
  ⟨⟨some 7, Op.assign (Operand.const (Value.bool false)), none⟩, []⟩]) .ret) .skip)) (.seq (.reg [⟨⟨some 15, Op.load 31 (Operand.tmp 3), none⟩, []⟩,
  ⟨⟨some 16, Op.move (Operand.tmp 1), none⟩, []⟩,
  ⟨⟨some 17, Op.move (Operand.tmp 2), none⟩, []⟩,
  ⟨⟨some 18, Op.call { callee := (Callee.value (Operand.func 104)), args := #[(Operand.tmp 15), (Operand.tmp 16), (Operand.tmp 17)], argTypes := #[31, 3, 3] }, none⟩, []⟩,
  ⟨⟨some 8, Op.assign (Operand.tmp 18), none⟩, []⟩]) (.seq (.seq (.reg [⟨⟨some 19, Op.move (Operand.tmp 8), none⟩, []⟩,
  ⟨⟨some 20, Op.call { callee := (Callee.builtin Builtin.len), args := #[(Operand.tmp 19)], argTypes := #[26] }, none⟩, []⟩,
  ⟨⟨some 21, Op.binOp BinOp.eql 3 (Operand.tmp 20) (Operand.const (Value.int IntKind.i64 0)) 3, none⟩, []⟩]) (.cond (Operand.tmp 21) (.seq (.reg [⟨⟨some 22, Op.build 28 #[], none⟩, []⟩,
  ⟨⟨none, Op.store 28 (Operand.tmp 6) (Operand.tmp 22), none⟩, []⟩,
  ⟨⟨some 7, Op.assign (Operand.const (Value.bool false)), none⟩, []⟩]) .ret) .skip)) (.seq (.reg [⟨⟨some 23, Op.move (Operand.tmp 8), none⟩, []⟩,
  ⟨⟨some 24, Op.call { callee := (Callee.value (Operand.func 105)), args := #[(Operand.tmp 23)], argTypes := #[26] }, none⟩, []⟩,
  ⟨⟨none, Op.store 28 (Operand.tmp 6) (Operand.tmp 24), none⟩, []⟩,
  ⟨⟨some 7, Op.assign (Operand.const (Value.bool true)), none⟩, []⟩]) .ret)))))
theorem sl33 : slim Try.f33.ntmps ords33 (Try.f33.body.getD .skip) = some cd33 := by kernel_rfl
set_option maxRecDepth 20000 in
theorem in33 {args : List Value} {H : AH} {R : Value → AH → Prop} (hl : args.length = 3) (h : ∀ (Q : Exit → Sl → AH → Prop), (∀ e s H, endA Try.prog [ResultVar.cell 6 28, ResultVar.tmp 7] R e s H → Q e s H) → wpC Try.prog cd33 Q (enterA args) H) : ACalls Try.prog 33 args H R :=
  ACalls.intro (by kernel_rfl) Try.func33 rfl (by kernel_rfl) sl33 hl (of_decide_eq_true (by kernel_rfl)) (by kernel_rfl) h
end Go.Proofs.Ytlfongfhbkefmaa.Ai
namespace Go.Proofs.Ytlfongfhbkefmaa.Ai
open Go Go.RowKit
set_option linter.unusedVariables false
set_option linter.unusedSimpArgs false
theorem bsRowS {H0 : AH} {v : Value} {xs : List Int} (h : Row 3 H0 v xs) (K : AH) : buildSliceA Try.prog 26 1 [(0, v)] K = some (.slice (some ⟨K.length, 0, none⟩) 1 1, K ++ [.cells [v] 38 false]) := by
  obtain ⟨q, eq⟩ := h.shape
  rw [eq]
  exact bs1 Try.underlying26 cs38 ze38 ⟨by kernel_rfl, by kernel_rfl⟩ K rfl
theorem InU.app1w {P : Program} {t2 e2 e : TypeId} (hu : P.underlying t2 = some (.slice e2)) (hc : P.cellsOf e2 = 1) (hby : P.bytesOf e2 ≤ 64) (hz : zeroOk P e2 = true) {lo hi hi2 : Nat} {H : AH} {o : Nat} {us : List Value} {w : Value} {ls : List (List Int)} {l : List Int}
    (h : InU lo hi e2 e H o us ls) (hw : InI lo hi2 e H w l) (hwo : w = .slice none 0 0 ∨ rowO w ≠ o) (aw : ∀ i, i < ls.length → Apart (us.getD i undef) w) (hl2 : hi ≤ H.length) (hl3 : hi2 ≤ H.length) (hb : ls.length ≤ 1099511627775) :
    ∃ H', appendA P t2 t2 (.slice (some ⟨o, 0, none⟩) ls.length ls.length) (.slice (some ⟨H.length, 0, none⟩) 1 1) (H ++ [.cells [w] e2 false]) = some (.slice (some ⟨H.length + 1, 0, none⟩) (ls.length + 1) (ls.length + 1), H') ∧
      InU lo (H.length + 2) e2 e H' (H.length + 1) (us.take ls.length ++ [w]) (ls ++ [l]) ∧ H'.length = H.length + 2 ∧ (∀ (j : Nat) (y : AObj), j ≠ o → H[j]? = some y → H'[j]? = some y) := by
  have bb : ∀ n : Nat, n ≤ 1099511627776 → n * P.bytesOf e2 ≤ 140737488355328 := fun n hn => by
    refine Nat.le_trans (Nat.mul_le_mul_left _ hby) ?_
    omega
  have hsc : sliceCells P e2 (.slice (some ⟨H.length, 0, none⟩) 1 1) (H ++ [.cells [w] e2 false]) = some (1, [w]) := by
    simp only [sliceCells, at_new, hc]; simp
  obtain ⟨h2, h3, h4, h5, h6, h7⟩ := h
  have ho := at_lt h4
  have hlt : o < (H ++ [AObj.cells [w] e2 false]).length := by simp; omega
  have keep : ∀ (j : Nat) (y : AObj), j ≠ o → H[j]? = some y → ((H ++ [AObj.cells [w] e2 false]).set o AObj.dead ++ [AObj.cells (us.take ls.length ++ [w]) e2 false])[j]? = some y := by
    intro j y hj hy
    exact at_old (at_app hy _) (fun e => hj e.symm) _
  refine ⟨(H ++ [AObj.cells [w] e2 false]).set o AObj.dead ++ [AObj.cells (us.take ls.length ++ [w]) e2 false], ?_, ?_, by simp, keep⟩
  · have ho2 : (H ++ [AObj.cells [w] e2 false])[o]? = some (.cells us e2 false) := at_app h4 _
    simp only [appendA, hu, hc, hsc, hz, ho2]
    rw [if_pos (by simp), if_neg (by simp), if_pos ⟨trivial, by omega, bb _ (by omega), by omega, trivial⟩]
    simp
  · have hul : (us.take ls.length).length = ls.length := by simp; omega
    have uat : ∀ i, i < ls.length → (us.take ls.length ++ [w]).getD i undef = us.getD i undef := by
      intro i hi'
      rw [List.getD_eq_getElem?_getD, List.getD_eq_getElem?_getD, List.getElem?_append_left (by omega), List.getElem?_take, if_pos hi']
    have ulast : (us.take ls.length ++ [w]).getD ls.length undef = w := by
      rw [List.getD_eq_getElem?_getD, List.getElem?_append_right (by omega), hul]; simp
    have lat : ∀ i, i < ls.length → (ls ++ [l]).getD i [] = ls.getD i [] := by
      intro i hi'
      rw [List.getD_eq_getElem?_getD, List.getD_eq_getElem?_getD, List.getElem?_append_left hi']
    have llast : (ls ++ [l]).getD ls.length [] = l := by
      rw [List.getD_eq_getElem?_getD, List.getElem?_append_right (by omega)]; simp
    refine ⟨by omega, by omega, ?_, by simp; omega, ?_, ?_⟩
    · rw [List.getElem?_append_right (by simp)]; simp
    · intro i hi'
      simp only [List.length_append, List.length_cons, List.length_nil] at hi'
      by_cases hc' : i < ls.length
      · rw [uat i hc', lat i hc']
        obtain ⟨k1, k2⟩ := h6 i hc'
        refine ⟨(k1.move fun y hn hy => ?_).wide (Nat.le_refl _) (by omega), ?_⟩
        · rcases k2 with g | g
          · exact absurd g hn
          · exact keep _ _ g hy
        · rcases k1.at_ with g | g
          · exact .inl g
          · exact .inr (by omega)
      · obtain rfl : i = ls.length := by omega
        rw [ulast, llast]
        refine ⟨(hw.move fun y hn hy => ?_).wide (Nat.le_refl _) (by omega), ?_⟩
        · rcases hwo with g | g
          · exact absurd g hn
          · exact keep _ _ g hy
        · rcases hw.at_ with g | g
          · exact .inl g
          · exact .inr (by omega)
    · intro i j hij hi' hj'
      simp only [List.length_append, List.length_cons, List.length_nil] at hi' hj'
      by_cases ci : i < ls.length <;> by_cases cj : j < ls.length
      · rw [uat i ci, uat j cj]; exact h7 i j hij ci cj
      · obtain rfl : j = ls.length := by omega
        rw [uat i ci, ulast]; exact aw i ci
      · obtain rfl : i = ls.length := by omega
        rw [uat j cj, ulast]
        rcases aw j cj with g | g | g
        · exact .inr (.inl g)
        · exact .inl g
        · exact .inr (.inr fun e => g e.symm)
      · omega
set_option maxHeartbeats 2000000 in
theorem l7Ends_c (n : Int) (v : Value) (es : List (Int × Int)) (s t : Int) (H : AH) (hr : RowP 81 H v es) (hlen : es.length ≤ 1099511627776) :
    ACalls Try.prog 103 [.agg (List.toArray [.int .i64 n, v]), .int .i64 s, .int .i64 t] H fun r H' => r = .bool (decide (WsOk n es s t)) ∧ H <+: H' := by
  refine in103 rfl ?_
  intro Q hQ
  simp (maxSteps := 1000000) (disch := omega) only [cd103, hr.boxG, S, S1, S2, S3, S4, S5, ST, eq_self, reduceIte, reduceCtorEq, Nat.reduceEqDiff, Nat.reduceAdd]
  generalize hA : H ++ [AObj.cells [.int .i64 n, v] 31 false] = A
  have pA : H <+: A := by rw [← hA]; exact List.prefix_append _ _
  have cA : A[H.length]? = some (.cells [.int .i64 n, v] 31 false) := by rw [← hA]; exact at_new ..
  have rA := hr.pre pA
  simp (maxSteps := 1000000) (disch := omega) only [ld_agg ag31 cs31 cA, S, S1, S2, S3, S4, S5, ST, eq_self, reduceIte, reduceCtorEq, Nat.reduceEqDiff, Nat.reduceAdd]
  refine CallH.by (l2Good_c n v es A rA hlen) ?_
  rintro _ B ⟨rfl, pB⟩
  have cB := pre_at pB cA
  have pHB := pA.trans pB
  by_cases e : Grd n es
  rotate_left
  · simp (maxSteps := 1000000) (disch := omega) only [decide_eq_false e, S, S1, S2, S3, S4, S5, ST, eq_self, reduceIte, reduceCtorEq, Nat.reduceEqDiff, Nat.reduceAdd]
    refine hQ _ _ _ ?_
    simp (maxSteps := 1000000) (disch := omega) only [S, S1, S2, S3, S4, S5, ST, eq_self, reduceIte, reduceCtorEq, Nat.reduceEqDiff, Nat.reduceAdd]
    exact ⟨by rw [decide_eq_false (fun h => e h.1)], pHB⟩
  have hn := e.1
  have hw : IntKind.i64.wrap (n - 1) = n - 1 := wrap64 (by omega) (by omega)
  simp (maxSteps := 1000000) (disch := omega) only [decide_eq_true e, cell_of cB, hw, S, S1, S2, S3, S4, S5, ST, eq_self, reduceIte, reduceCtorEq, Nat.reduceEqDiff, Nat.reduceAdd]
  refine CallH.by (l1In_c s 0 (n - 1) B) ?_
  rintro _ _ ⟨rfl, rfl⟩
  by_cases e1 : 0 ≤ s ∧ s ≤ n - 1
  rotate_left
  · simp (maxSteps := 1000000) (disch := omega) only [decide_eq_false e1, S, S1, S2, S3, S4, S5, ST, eq_self, reduceIte, reduceCtorEq, Nat.reduceEqDiff, Nat.reduceAdd]
    refine hQ _ _ _ ?_
    simp (maxSteps := 1000000) (disch := omega) only [S, S1, S2, S3, S4, S5, ST, eq_self, reduceIte, reduceCtorEq, Nat.reduceEqDiff, Nat.reduceAdd]
    exact ⟨by rw [decide_eq_false (fun h => e1 ⟨h.2.1.1, by have := h.2.1.2; omega⟩)], pHB⟩
  simp (maxSteps := 1000000) (disch := omega) only [decide_eq_true e1, cell_of cB, hw, S, S1, S2, S3, S4, S5, ST, eq_self, reduceIte, reduceCtorEq, Nat.reduceEqDiff, Nat.reduceAdd]
  refine CallH.by (l1In_c t 0 (n - 1) B) ?_
  rintro _ _ ⟨rfl, rfl⟩
  simp (maxSteps := 1000000) (disch := omega) only [S, S1, S2, S3, S4, S5, ST, eq_self, reduceIte, reduceCtorEq, Nat.reduceEqDiff, Nat.reduceAdd]
  refine hQ _ _ _ ?_
  simp (maxSteps := 1000000) (disch := omega) only [S, S1, S2, S3, S4, S5, ST, eq_self, reduceIte, reduceCtorEq, Nat.reduceEqDiff, Nat.reduceAdd]
  refine ⟨?_, pHB⟩
  rw [Value.bool.injEq, decide_eq_decide]
  exact ⟨fun h => ⟨e, by omega, by omega⟩, fun h => by have := h.2.2; omega⟩
set_option maxRecDepth 20000 in
set_option maxHeartbeats 4000000 in
theorem l7Count_c (n : Int) (v vf : Value) (es : List (Int × Int)) (hg : Grd n es) (hlen : es.length ≤ 1099511627776) {far : List Int} {t : Nat} (hF : FarOk n.toNat (roadsL n.toNat es) far t) : ∀ (d x : Nat) (H : AH), x < n.toNat → far.getD x 0 = (d : Int) → RowP 81 H v es → Row 3 H vf far →
    ACalls Try.prog 174 [.agg (List.toArray [.int .i64 n, v]), vf, .int .i64 (x : Int)] H fun r H' => r = .int .i64 ((wN (roadsL n.toNat es) far d (x : Int) : Nat) : Int) ∧ H <+: H' := by
  intro d
  have h8 := hg.1
  have hfl := hF.fl
  induction d with
  | zero =>
    intro x H hx hd hr hf
    refine in174 rfl ?_
    intro Q hQ
    have hc := hf.cell (show x < far.length by omega)
    rw [hd] at hc
    simp (maxSteps := 1000000) (disch := omega) only [cd174, hr.boxG, S, S1, S2, S3, S4, S5, ST, eq_self, reduceIte, reduceCtorEq, Nat.reduceEqDiff, Nat.reduceAdd]
    generalize hA : H ++ [AObj.cells [.int .i64 n, v] 31 false] = A
    have pA : H <+: A := by rw [← hA]; exact List.prefix_append _ _
    have cA : A[H.length]? = some (.cells [.int .i64 n, v] 31 false) := by rw [← hA]; exact at_new ..
    have rA := hr.pre pA
    have hcA := (hf.pre pA).cell (show x < far.length by omega)
    rw [hd] at hcA
    have h00 : ((0 : Nat) : Int) = 0 := rfl
    simp (maxSteps := 1000000) (disch := omega) only [hf.ix Try.underlying38 cs3, Int.toNat_natCast, hcA, decide_eq_true h00, S, S1, S2, S3, S4, S5, ST, eq_self, reduceIte, reduceCtorEq, Nat.reduceEqDiff, Nat.reduceAdd]
    refine hQ _ _ _ ?_
    simp (maxSteps := 1000000) (disch := omega) only [S, S1, S2, S3, S4, S5, ST, eq_self, reduceIte, reduceCtorEq, Nat.reduceEqDiff, Nat.reduceAdd]
    exact ⟨rfl, pA⟩
  | succ d ih =>
    intro x H hx hd hr hf
    have h9 := hF.nine (by omega) hx hd
    have hdb := hF.lo x hx
    rw [hd] at hdb
    refine in174 rfl ?_
    intro Q hQ
    simp (maxSteps := 1000000) (disch := omega) only [cd174, hr.boxG, S, S1, S2, S3, S4, S5, ST, eq_self, reduceIte, reduceCtorEq, Nat.reduceEqDiff, Nat.reduceAdd]
    generalize hA : H ++ [AObj.cells [.int .i64 n, v] 31 false] = A
    have pA : H <+: A := by rw [← hA]; exact List.prefix_append _ _
    have cA : A[H.length]? = some (.cells [.int .i64 n, v] 31 false) := by rw [← hA]; exact at_new ..
    have rA := hr.pre pA
    have hcA := (hf.pre pA).cell (show x < far.length by omega)
    rw [hd] at hcA
    have hne : ¬ (((d + 1 : Nat) : Int) = 0) := by omega
    simp (maxSteps := 1000000) (disch := omega) only [hf.ix Try.underlying38 cs3, Int.toNat_natCast, hcA, decide_eq_false hne, ld_agg ag31 cs31 cA, S, S1, S2, S3, S4, S5, ST, eq_self, reduceIte, reduceCtorEq, Nat.reduceEqDiff, Nat.reduceAdd]
    refine CallH.by (l2Neighbors_c n v es (x : Int) A rA hlen h8) ?_
    rintro w B ⟨hw, pB⟩
    rw [← roadsL_at n.toNat es x hx] at hw
    have eN : wN (roadsL n.toNat es) far (d + 1) (x : Int) = wNT far (wN (roadsL n.toNat es) far d) (d : Int) ((roadsL n.toNat es).getD x []) := by rw [wN, Int.toNat_natCast]
    rw [eN] at hQ h9
    have hlx := hF.lok x
    have hsm := roadsL_small n.toNat es (by omega) x
    have hw0 := hw.row
    generalize roadsL n.toNat es = L at *
    generalize hxs : L.getD x [] = xs at *
    have pHB := pA.trans pB
    simp (maxSteps := 1000000) (disch := omega) only [S, S1, S2, S3, S4, S5, ST, eq_self, reduceIte, reduceCtorEq, Nat.reduceEqDiff, Nat.reduceAdd]
    refine LoopH.by (fun m s H' => ∃ (k : Nat), m + k = xs.length ∧ s 1 = vf ∧ s 2 = .int .i64 (x : Int) ∧ s 3 = .pointer (some ⟨H.length, 0, none⟩) ∧ s 7 = .int .i64 ((wNT far (wN L far d) (d : Int) (xs.take k) : Nat) : Int) ∧ s 8 = w ∧ s 9 = .int .i64 ((k : Nat) : Int) ∧ B <+: H') xs.length ?_ ?_
    · exact ⟨0, by simp, rfl, rfl, rfl, rfl, rfl, rfl, List.prefix_refl _⟩
    rintro m s H' ⟨k, hm, h1, h2, h3, h7, h8s, h9s, pp⟩
    have hwH := hw0.pre pp
    have hfH := hf.pre (pHB.trans pp)
    have cH := pre_at (pB.trans pp) cA
    simp (maxSteps := 1000000) (disch := omega) only [h1, h2, h3, h7, h8s, h9s, hwH.len Try.underlying38, S, S1, S2, S3, S4, S5, ST, eq_self, reduceIte, reduceCtorEq, Nat.reduceEqDiff, Nat.reduceAdd]
    refine brD.intro (fun g => ?_) (fun g => ?_)
    rotate_left
    · have hk : k = xs.length := by omega
      subst hk
      simp (maxSteps := 1000000) (disch := omega) only [h7, S, S1, S2, S3, S4, S5, ST, eq_self, reduceIte, reduceCtorEq, Nat.reduceEqDiff, Nat.reduceAdd]
      refine hQ _ _ _ ?_
      simp (maxSteps := 1000000) (disch := omega) only [S, S1, S2, S3, S4, S5, ST, eq_self, reduceIte, reduceCtorEq, Nat.reduceEqDiff, Nat.reduceAdd]
      rw [List.take_length]
      exact ⟨rfl, pHB.trans pp⟩
    have hk : k < xs.length := by omega
    have hym : xs.getD k 0 ∈ xs := by simp [hk]
    have hyr := hlx _ hym
    have hck := hwH.cell hk
    have htk : xs.take (k + 1) = xs.take k ++ [xs.getD k 0] := by
      rw [List.take_add_one, List.getElem?_eq_getElem hk]
      simp [hk]
    have htot : wNT far (wN L far d) (d : Int) (xs.take (k + 1)) ≤ 9 := by
      refine Nat.le_trans ?_ h9
      conv => rhs; rw [← List.take_append_drop (k + 1) xs]
      rw [wNT_append]; omega
    obtain ⟨y, hy⟩ : ∃ y : Nat, xs.getD k 0 = y := ⟨(xs.getD k 0).toNat, by omega⟩
    rw [hy] at hck hyr htk
    have hstep : wNT far (wN L far d) (d : Int) (xs.take (k + 1)) = wNT far (wN L far d) (d : Int) (xs.take k) + if far.getD y 0 = (d : Int) then wN L far d (y : Int) else 0 := by
      rw [htk, wNT_append]
      simp only [wNT, Int.toNat_natCast, Nat.add_zero]
    have hcy := hfH.cell (show y < far.length by omega)
    have hcx := hfH.cell (show x < far.length by omega)
    rw [hd] at hcx
    have hw1 : IntKind.i64.wrap (((d + 1 : Nat) : Int) - 1) = (d : Int) := by rw [wrap64 (by omega) (by omega)]; omega
    have hgt : (0 : Int) < ((d + 1 : Nat) : Int) := by omega
    simp (maxSteps := 1000000) (disch := omega) only [h1, h2, h3, h7, h8s, h9s, hwH.ix Try.underlying38 cs3, hfH.ix Try.underlying38 cs3, Int.toNat_natCast, hck, hcx, hcy, decide_eq_true hgt, hw1, S, S1, S2, S3, S4, S5, ST, eq_self, reduceIte, reduceCtorEq, Nat.reduceEqDiff, Nat.reduceAdd]
    by_cases e : far.getD y 0 = (d : Int)
    · rw [if_pos e] at hstep
      simp (maxSteps := 1000000) (disch := omega) only [decide_eq_true e, h1, h2, h3, h7, h8s, h9s, hwH.ix Try.underlying38 cs3, Int.toNat_natCast, hck, ld_agg ag31 cs31 cH, S, S1, S2, S3, S4, S5, ST, eq_self, reduceIte, reduceCtorEq, Nat.reduceEqDiff, Nat.reduceAdd]
      refine CallH.by (ih y H' (by omega) e (hr.pre (pHB.trans pp)) hfH) ?_
      rintro _ K ⟨rfl, pK⟩
      have hwr : IntKind.i64.wrap (((wNT far (wN L far d) (d : Int) (xs.take k) : Nat) : Int) + ((wN L far d (y : Int) : Nat) : Int)) = ((wNT far (wN L far d) (d : Int) (xs.take (k + 1)) : Nat) : Int) := by
        rw [wrap64 (by omega) (by omega)]; omega
      have pK2 := pp.trans pK
      simp (maxSteps := 1000000) (disch := omega) only [h1, h2, h3, h7, h8s, h9s, hwr, wrap64, S, S1, S2, S3, S4, S5, ST, eq_self, reduceIte, reduceCtorEq, Nat.reduceEqDiff, Nat.reduceAdd]
      refine ⟨m - 1, by omega, k + 1, ?_⟩
      (repeat' first | exact pK2 | apply And.intro) <;> first | (simp only [Value.int.injEq, true_and]; omega) | omega | rfl | assumption | (simp; done) | (simp; omega)
    · rw [if_neg e, Nat.add_zero] at hstep
      simp (maxSteps := 1000000) (disch := omega) only [decide_eq_false e, h1, h2, h3, h7, h8s, h9s, ← hstep, wrap64, S, S1, S2, S3, S4, S5, ST, eq_self, reduceIte, reduceCtorEq, Nat.reduceEqDiff, Nat.reduceAdd]
      refine ⟨m - 1, by omega, k + 1, ?_⟩
      (repeat' first | exact pp | apply And.intro) <;> first | (simp only [Value.int.injEq, true_and]; omega) | omega | rfl | assumption | (simp; done) | (simp; omega)
set_option maxRecDepth 20000 in
set_option maxHeartbeats 4000000 in
theorem l7More_c (n : Int) (v vf : Value) (es : List (Int × Int)) (hg : Grd n es) (hlen : es.length ≤ 1099511627776) {far : List Int} {t : Nat} (hF : FarOk n.toNat (roadsL n.toNat es) far t) (B0 : AH) (hr : RowP 81 B0 v es) (hf : Row 3 B0 vf far) :
    ∀ (d x : Nat) (w : Value) (b : List Int) (o hi : Nat) (us : List Value) (ls : List (List Int)) (H : AH), x < n.toNat → far.getD x 0 = (d : Int) → 0 < b.length → b.length + d ≤ 100 → b.getD (b.length - 1) 0 = (x : Int) → InI B0.length H.length 3 H w b → (w = .slice none 0 0 ∨ rowO w ≠ o) → (∀ i, i < ls.length → Apart (us.getD i undef) w) → InU B0.length hi 38 3 H o us ls → hi ≤ H.length → B0 <+: H → ls.length + wN (roadsL n.toNat es) far d (x : Int) ≤ 1000000 →
    ACalls Try.prog 175 [.agg (List.toArray [.int .i64 n, v]), vf, w, .slice (some ⟨o, 0, none⟩) ls.length ls.length] H fun r H' => ∃ o' us', r = .slice (some ⟨o', 0, none⟩) (ls ++ wA (roadsL n.toNat es) far d (x : Int) b).length (ls ++ wA (roadsL n.toNat es) far d (x : Int) b).length ∧ InU B0.length H'.length 38 3 H' o' us' (ls ++ wA (roadsL n.toNat es) far d (x : Int) b) ∧
      (∀ (j : Nat) (y : AObj), j ≠ o → H[j]? = some y → H'[j]? = some y) ∧ H.length ≤ H'.length ∧ (o' = o ∨ H.length ≤ o') := by
  intro d
  have h8 := hg.1
  have hfl := hF.fl
  induction d with
  | zero =>
    intro x w b o hi us ls H hx hd hb hbd hbx hwi hwo hwa hin hhi pB0 hls
    refine in175 rfl ?_
    intro Q hQ
    have hw := hwi.row.1
    have hrH := hr.pre pB0
    have hfH := hf.pre pB0
    have hls' : ls.length + 1 ≤ 1000000 := hls
    simp (maxSteps := 1000000) (disch := omega) only [cd175, hrH.boxG, S, S1, S2, S3, S4, S5, ST, eq_self, reduceIte, reduceCtorEq, Nat.reduceEqDiff, Nat.reduceAdd]
    generalize hA : H ++ [AObj.cells [.int .i64 n, v] 31 false] = A
    have pA : H <+: A := by rw [← hA]; exact List.prefix_append _ _
    have cA : A[H.length]? = some (.cells [.int .i64 n, v] 31 false) := by rw [← hA]; exact at_new ..
    have rA := hrH.pre pA
    have hwA := hw.pre pA
    have hcb := hwA.cell (show b.length - 1 < b.length by omega)
    rw [hbx] at hcb
    have hcA := (hfH.pre pA).cell (show x < far.length by omega)
    rw [hd] at hcA
    have hw1 : IntKind.i64.wrap ((b.length : Int) - 1) = ((b.length - 1 : Nat) : Int) := by rw [wrap64 (by omega) (by omega)]; omega
    have lA : A.length = H.length + 1 := by rw [← hA]; simp
    have hwi2 : InI B0.length A.length 3 A w b := (hwi.move fun y _ hy => pre_at pA hy).wide (Nat.le_refl _) (by omega)
    have hlo := hin.1
    have hlo2 := hin.2.1
    obtain ⟨H3, k1, k2, k3, k4⟩ := (hin.pre pA).app1w (P := Try.prog) (t2 := 26) Try.underlying26 cs38 (by rw [by38]; decide) zk38 hwi2 hwo hwa (by omega) (Nat.le_refl _) (by omega)
    have h00 : ((0 : Nat) : Int) = 0 := rfl
    simp (maxSteps := 1000000) (disch := omega) only [hwA.len Try.underlying38, hw1, hwA.ix Try.underlying38 cs3, Int.toNat_natCast, hcb, hfH.ix Try.underlying38 cs3, hcA, decide_eq_true h00, bsRowS hwA A, k1, S, S1, S2, S3, S4, S5, ST, eq_self, reduceIte, reduceCtorEq, Nat.reduceEqDiff, Nat.reduceAdd]
    refine hQ _ _ _ ?_
    simp (maxSteps := 1000000) (disch := omega) only [S, S1, S2, S3, S4, S5, ST, eq_self, reduceIte, reduceCtorEq, Nat.reduceEqDiff, Nat.reduceAdd]
    have e : wA (roadsL n.toNat es) far 0 (x : Int) b = [b] := rfl
    rw [e]
    refine ⟨A.length + 1, us.take ls.length ++ [w], by simp, by rw [k3]; exact k2, fun j y hj hy => k4 j y hj (pre_at pA hy), by omega, by omega⟩
  | succ d ih =>
    intro x w b o hi us ls H hx hd hb hbd hbx hwi hwo hwa hin hhi pB0 hls
    refine in175 rfl ?_
    intro Q hQ
    have hw := hwi.row.1
    have hrH := hr.pre pB0
    have hfH := hf.pre pB0
    simp (maxSteps := 1000000) (disch := omega) only [cd175, hrH.boxG, S, S1, S2, S3, S4, S5, ST, eq_self, reduceIte, reduceCtorEq, Nat.reduceEqDiff, Nat.reduceAdd]
    generalize hA : H ++ [AObj.cells [.int .i64 n, v] 31 false] = A
    have pA : H <+: A := by rw [← hA]; exact List.prefix_append _ _
    have cA : A[H.length]? = some (.cells [.int .i64 n, v] 31 false) := by rw [← hA]; exact at_new ..
    have rA := hrH.pre pA
    have hwA := hw.pre pA
    have hcb := hwA.cell (show b.length - 1 < b.length by omega)
    rw [hbx] at hcb
    have hcA := (hfH.pre pA).cell (show x < far.length by omega)
    rw [hd] at hcA
    have hw1 : IntKind.i64.wrap ((b.length : Int) - 1) = ((b.length - 1 : Nat) : Int) := by rw [wrap64 (by omega) (by omega)]; omega
    have lA : A.length = H.length + 1 := by rw [← hA]; simp
    have hne : ¬ (((d + 1 : Nat) : Int) = 0) := by omega
    have hlo := hin.1
    have hlo2 := hin.2.1
    simp (maxSteps := 1000000) (disch := omega) only [hwA.len Try.underlying38, hw1, hwA.ix Try.underlying38 cs3, Int.toNat_natCast, hcb, hfH.ix Try.underlying38 cs3, hcA, decide_eq_false hne, ld_agg ag31 cs31 cA, S, S1, S2, S3, S4, S5, ST, eq_self, reduceIte, reduceCtorEq, Nat.reduceEqDiff, Nat.reduceAdd]
    refine CallH.by (l2Neighbors_c n v es (x : Int) A rA hlen h8) ?_
    rintro nb B ⟨hnb, pB⟩
    rw [← roadsL_at n.toNat es x hx] at hnb
    have eN : wN (roadsL n.toNat es) far (d + 1) (x : Int) = wNT far (wN (roadsL n.toNat es) far d) (d : Int) ((roadsL n.toNat es).getD x []) := by rw [wN, Int.toNat_natCast]
    have eM : wA (roadsL n.toNat es) far (d + 1) (x : Int) b = wT far (wA (roadsL n.toNat es) far d) (d : Int) b ((roadsL n.toNat es).getD x []) := by rw [wA, Int.toNat_natCast]
    rw [eM] at hQ
    rw [eN] at hls
    have hlx := hF.lok x
    have hsm := roadsL_small n.toNat es (by omega) x
    generalize roadsL n.toNat es = L at *
    generalize hxs : L.getD x [] = xs at *
    have pHB := pA.trans pB
    have lB := pB.length_le
    have cB := pre_at pB cA
    have hnO : nb = .slice none 0 0 ∨ (A.length ≤ rowO nb ∧ rowO nb < B.length) := by
      rcases InI.of hnb.mine with q | ⟨oo, zs, q1, q2, q3, _⟩
      · exact .inl q.1
      · right; rw [q1]; exact ⟨q2, q3⟩
    have hwO := hwo
    have hnb0 := hnb.row
    have hinB := (hin.pre pHB).wide (Nat.le_refl _) (show hi ≤ B.length by omega)
    have hb0 : b.length ≤ 100 := by omega
    simp (maxSteps := 1000000) (disch := omega) only [S, S1, S2, S3, S4, S5, ST, eq_self, reduceIte, reduceCtorEq, Nat.reduceEqDiff, Nat.reduceAdd]
    refine LoopH.by (fun m s H' => ∃ (k o' : Nat) (us' : List Value) (ls' : List (List Int)), m + k = xs.length ∧ s 1 = vf ∧ s 2 = w ∧ s 3 = .slice (some ⟨o', 0, none⟩) ls'.length ls'.length ∧ s 4 = .pointer (some ⟨H.length, 0, none⟩) ∧ s 9 = .int .i64 (x : Int) ∧ s 10 = nb ∧ s 11 = .int .i64 ((k : Nat) : Int) ∧
      ls' ++ wT far (wA L far d) (d : Int) b (xs.drop k) = ls ++ wT far (wA L far d) (d : Int) b xs ∧ ls'.length + wNT far (wN L far d) (d : Int) (xs.drop k) ≤ 1000000 ∧ InU B0.length H'.length 38 3 H' o' us' ls' ∧ (o' = o ∨ B.length ≤ o') ∧ (∀ (j : Nat) (y : AObj), j ≠ o → B[j]? = some y → H'[j]? = some y) ∧ B.length ≤ H'.length) xs.length ?_ ?_
    · exact ⟨0, o, us, ls, by simp, rfl, rfl, rfl, rfl, rfl, rfl, rfl, rfl, hls, hinB, .inl rfl, fun j y _ hy => hy, Nat.le_refl _⟩
    rintro m s H' ⟨k, o', us', ls', hm, h1, h2, h3, h4, h9, h10, h11, hT, hl', hin', ho', hk, hAl⟩
    have hkA : Kept (.slice (some ⟨o, 0, none⟩) 0 0) B H' := fun j y hj hy => by
      rcases hj with hj | hj
      · cases hj
      · exact hk j y hj hy
    have hoB : o < hi := hlo2
    have apw : Apart w (.slice (some ⟨o, 0, none⟩) 0 0) := by
      rcases hwO with q | q
      · exact .inr (.inl q)
      · refine .inr (.inr ?_)
        show rowO w ≠ o
        exact q
    have apn : Apart nb (.slice (some ⟨o, 0, none⟩) 0 0) := by
      rcases hnO with q | q
      · exact .inr (.inl q)
      · refine .inr (.inr ?_)
        show rowO nb ≠ o
        omega
    have hw' : Row 3 H' w b := (hw.pre pHB).kept apw hkA
    have hn' : Row 3 H' nb xs := hnb0.kept apn hkA
    have pB0H : B0 <+: H' := prefix_of fun j y hy => hk j y (by have := at_lt hy; omega) (pre_at (pB0.trans pHB) hy)
    have hf' := hf.pre pB0H
    have cH : H'[H.length]? = some (.cells [.int .i64 n, v] 31 false) := hk _ _ (by omega) cB
    simp (maxSteps := 1000000) (disch := omega) only [h1, h2, h3, h4, h9, h10, h11, hn'.len Try.underlying38, S, S1, S2, S3, S4, S5, ST, eq_self, reduceIte, reduceCtorEq, Nat.reduceEqDiff, Nat.reduceAdd]
    refine brD.intro (fun g1 => ?_) (fun g1 => ?_)
    rotate_left
    · simp (maxSteps := 1000000) (disch := omega) only [h3, S, S1, S2, S3, S4, S5, ST, eq_self, reduceIte, reduceCtorEq, Nat.reduceEqDiff, Nat.reduceAdd]
      refine hQ _ _ _ ?_
      simp (maxSteps := 1000000) (disch := omega) only [S, S1, S2, S3, S4, S5, ST, eq_self, reduceIte, reduceCtorEq, Nat.reduceEqDiff, Nat.reduceAdd]
      have hk0 : k = xs.length := by omega
      subst hk0
      rw [List.drop_length] at hT
      have e0 : ls' = ls ++ wT far (wA L far d) (d : Int) b xs := by rw [← hT]; simp [wT]
      rw [← e0]
      exact ⟨o', us', rfl, hin', fun j y hj hy => hk j y hj (pre_at pHB hy), by omega, by omega⟩
    have hk1 : k < xs.length := by omega
    have hym : xs.getD k 0 ∈ xs := by simp [hk1]
    have hyr := hlx _ hym
    have hck := hn'.cell hk1
    obtain ⟨y, hy⟩ : ∃ y : Nat, xs.getD k 0 = y := ⟨(xs.getD k 0).toNat, by omega⟩
    rw [hy] at hck hyr
    have hdrop : xs.drop k = (y : Int) :: xs.drop (k + 1) := by
      rw [List.drop_eq_getElem_cons hk1]
      congr 1
      rw [← hy]; simp [hk1]
    rw [hdrop, wT, Int.toNat_natCast] at hT
    rw [hdrop, wNT, Int.toNat_natCast] at hl'
    have hcy := hf'.cell (show y < far.length by omega)
    have hcx := hf'.cell (show x < far.length by omega)
    rw [hd] at hcx
    have hw2 : IntKind.i64.wrap (((d + 1 : Nat) : Int) - 1) = (d : Int) := by rw [wrap64 (by omega) (by omega)]; omega
    simp (maxSteps := 1000000) (disch := omega) only [h1, h2, h3, h4, h9, h10, h11, hn'.ix Try.underlying38 cs3, hf'.ix Try.underlying38 cs3, Int.toNat_natCast, hck, hcx, hcy, hw2, S, S1, S2, S3, S4, S5, ST, eq_self, reduceIte, reduceCtorEq, Nat.reduceEqDiff, Nat.reduceAdd]
    by_cases e : far.getD y 0 = (d : Int)
    · rw [if_pos e] at hT hl'
      simp (maxSteps := 1000000) (disch := omega) only [decide_eq_true e, h1, h2, h3, h4, h9, h10, h11, hn'.ix Try.underlying38 cs3, Int.toNat_natCast, hck, ld_agg ag31 cs31 cH, S, S1, S2, S3, S4, S5, ST, eq_self, reduceIte, reduceCtorEq, Nat.reduceEqDiff, Nat.reduceAdd]
      generalize hG2 : H' ++ [AObj.cells [.int .i64 (y : Int)] 3 false] = G2
      have pG2 : H' <+: G2 := by rw [← hG2]; exact List.prefix_append _ _
      have at1 : G2[H'.length]? = some (.cells [.int .i64 (y : Int)] 3 false) := by rw [← hG2]; exact at_new ..
      have lG2 : G2.length = H'.length + 1 := by rw [← hG2]; simp
      refine CallH.by (l1Own_c w b G2 (hw'.pre pG2) (by omega)) ?_
      rintro w1 C ⟨hc, pC⟩
      have hx1 : Row 3 C (.slice (some ⟨H'.length, 0, none⟩) 1 1) [(y : Int)] := .inr ⟨H'.length, 0, [.int .i64 (y : Int)], false, rfl, pre_at pC at1, by simp, rfl⟩
      have hkeq : C[H'.length]? = G2[H'.length]? := by rw [pre_at pC at1, at1]
      obtain ⟨v', H2, j1, j2, j3, j4, j5⟩ := hc.app (P := Try.prog) (t := 38) Try.underlying38 cs3 (by rw [by3]; decide) zk3 hx1 pC (by simp only [List.length_cons, List.length_nil]; omega)
      have hckC := (hn'.pre (pG2.trans pC)).cell hk1
      rw [hy] at hckC
      have lH2 := j3.length_le
      have lC := pC.length_le
      have ho1 := hin'.2.1
      have hin0 := InI.of j2.mine
      have lB0 := pB0H.length_le
      have hinw := hin0.wide (show B0.length ≤ G2.length by omega) (Nat.le_refl _)
      have hvo : v' = .slice none 0 0 ∨ rowO v' ≠ o' := by
        rcases hin0.at_ with q | q
        · exact .inl q
        · right; omega
      have hva : ∀ i, i < ls'.length → Apart (us'.getD i undef) v' := fun i hi' => by
        rcases (hin'.2.2.2.2.1 i hi').1.at_ with q | q
        · exact .inr (.inl q)
        · rcases hin0.at_ with q2 | q2
          · exact .inl q2
          · exact .inr (.inr (by omega))
      have j3' := pG2.trans j3
      have hinH := hin'.pre j3'
      have hlast : (b ++ [(y : Int)]).getD ((b ++ [(y : Int)]).length - 1) 0 = (y : Int) := by simp
      have hrec := ih y v' (b ++ [(y : Int)]) o' H'.length us' ls' H2 (by omega) e (by simp) (by simp; omega) hlast hinw hvo hva hinH (by omega) (pB0H.trans j3') (by omega)
      simp (maxSteps := 1000000) (disch := omega) only [h1, h2, h3, h4, h9, h10, h11, hn'.ix Try.underlying38 cs3, Int.toNat_natCast, hck, ld_agg ag31 cs31 cH, ld_agg ag31 cs31 (pre_at pG2 cH), ld_agg ag31 cs31 (pre_at (pG2.trans pC) cH), ld_agg ag31 cs31 (pre_at j3' cH), hkeq, hckC, j1, S, S1, S2, S3, S4, S5, ST, eq_self, reduceIte, reduceCtorEq, Nat.reduceEqDiff, Nat.reduceAdd]
      refine CallH.by hrec ?_
      rintro _ H3 ⟨o2, us2, rfl, i1, i2, i3, i4⟩
      have f1 : o2 = o ∨ B.length ≤ o2 := by omega
      have f2 : ∀ (j : Nat) (y : AObj), j ≠ o → B[j]? = some y → H3[j]? = some y := fun j y hj hy => by
        refine i2 j y ?_ (pre_at j3' (hk j y hj hy))
        rcases ho' with q1 | q1
        · rw [q1]; exact hj
        · have := at_lt hy; omega
      have f3 : (ls' ++ wA L far d (y : Int) (b ++ [(y : Int)])).length + wNT far (wN L far d) (d : Int) (xs.drop (k + 1)) ≤ 1000000 := by rw [List.length_append, wA_len]; omega
      have f4 : (ls' ++ wA L far d (y : Int) (b ++ [(y : Int)])) ++ wT far (wA L far d) (d : Int) b (xs.drop (k + 1)) = ls ++ wT far (wA L far d) (d : Int) b xs := by rw [← hT, List.append_assoc]
      have f5 : B.length ≤ H3.length := by omega
      simp (maxSteps := 1000000) (disch := omega) only [h1, h2, h3, h4, h9, h10, h11, wrap64, S, S1, S2, S3, S4, S5, ST, eq_self, reduceIte, reduceCtorEq, Nat.reduceEqDiff, Nat.reduceAdd]
      refine ⟨m - 1, by omega, k + 1, o2, us2, ls' ++ wA L far d (y : Int) (b ++ [(y : Int)]), ?_⟩
      (repeat' first | exact f4 | exact f3 | exact i1 | exact f1 | exact f2 | exact f5 | apply And.intro) <;> first | (simp only [Value.int.injEq, true_and]; omega) | omega | rfl | assumption | (simp; done) | (simp; omega)
    · rw [if_neg e, List.nil_append] at hT
      rw [if_neg e, Nat.zero_add] at hl'
      simp (maxSteps := 1000000) (disch := omega) only [decide_eq_false e, h1, h2, h3, h4, h9, h10, h11, wrap64, S, S1, S2, S3, S4, S5, ST, eq_self, reduceIte, reduceCtorEq, Nat.reduceEqDiff, Nat.reduceAdd]
      refine ⟨m - 1, by omega, k + 1, o', us', ls', ?_⟩
      (repeat' first | exact hT | exact hl' | exact hin' | exact ho' | exact hk | exact hAl | apply And.intro) <;> first | (simp only [Value.int.injEq, true_and]; omega) | omega | rfl | assumption | (simp; done) | (simp; omega)
set_option maxRecDepth 20000 in
set_option maxHeartbeats 4000000 in
theorem l7Ways_c (n : Int) (v : Value) (es : List (Int × Int)) (s t : Int) (H : AH) (hr : RowP 81 H v es) (hlen : es.length ≤ 1099511627776) (hw : WsOk n es s t) :
    ACalls Try.prog 104 [.agg (List.toArray [.int .i64 n, v]), .int .i64 s, .int .i64 t] H fun r H' => InL H.length H'.length 38 3 H' r (wsL n es s t) ∧ H <+: H' := by
  have hF := farG_ok hw
  obtain ⟨hg, hs, ht⟩ := hw
  have h8 := hg.1
  obtain ⟨sN, rfl⟩ : ∃ k : Nat, s = k := ⟨s.toNat, by omega⟩
  obtain ⟨tN, rfl⟩ : ∃ k : Nat, t = k := ⟨t.toNat, by omega⟩
  have hWs : wsL n es (sN : Int) (tN : Int) = if 0 ≤ (farG n es (tN : Int)).getD sN 0 then wA (roadsL n.toNat es) (farG n es (tN : Int)) ((farG n es (tN : Int)).getD sN 0).toNat (sN : Int) [(sN : Int)] else [] := by
    unfold wsL
    rw [Int.toNat_natCast]
    by_cases e : 0 ≤ (farG n es (tN : Int)).getD sN 0
    · rw [if_pos ⟨⟨hg, hs, ht⟩, e⟩, if_pos e]
    · rw [if_neg (fun q => e q.2), if_neg e]
  refine in104 rfl ?_
  intro Q hQ
  rw [hWs] at hQ
  simp (maxSteps := 1000000) (disch := omega) only [cd104, hr.boxG, S, S1, S2, S3, S4, S5, ST, eq_self, reduceIte, reduceCtorEq, Nat.reduceEqDiff, Nat.reduceAdd]
  generalize hA : H ++ [AObj.cells [.int .i64 n, v] 31 false] = A
  have pA : H <+: A := by rw [← hA]; exact List.prefix_append _ _
  have cA : A[H.length]? = some (.cells [.int .i64 n, v] 31 false) := by rw [← hA]; exact at_new ..
  have rA := hr.pre pA
  simp (maxSteps := 1000000) (disch := omega) only [ld_agg ag31 cs31 cA, S, S1, S2, S3, S4, S5, ST, eq_self, reduceIte, reduceCtorEq, Nat.reduceEqDiff, Nat.reduceAdd]
  refine CallH.by (l3Far_c n v es tN A rA hlen h8 (by omega)) ?_
  rintro vf B ⟨hf, pB⟩
  have hfar : farG n es (tN : Int) = bfs (roadsL n.toNat es) tN := by unfold farG; rw [Int.toNat_natCast]
  rw [Int.toNat_natCast] at hF
  rw [← hfar] at hf
  have hb := hF.lo sN (by omega)
  have hfl := hF.fl
  generalize farG n es (tN : Int) = far at *
  have hcs := hf.row.cell (show sN < far.length by omega)
  have cB := pre_at pB cA
  have pHB := pA.trans pB
  simp (maxSteps := 1000000) (disch := omega) only [hf.row.ix Try.underlying38 cs3, Int.toNat_natCast, hcs, S, S1, S2, S3, S4, S5, ST, eq_self, reduceIte, reduceCtorEq, Nat.reduceEqDiff, Nat.reduceAdd]
  by_cases e : far.getD sN 0 < 0
  · simp (maxSteps := 1000000) (disch := omega) only [decide_eq_true e, S, S1, S2, S3, S4, S5, ST, eq_self, reduceIte, reduceCtorEq, Nat.reduceEqDiff, Nat.reduceAdd]
    refine hQ _ _ _ ?_
    simp (maxSteps := 1000000) (disch := omega) only [S, S1, S2, S3, S4, S5, ST, eq_self, reduceIte, reduceCtorEq, Nat.reduceEqDiff, Nat.reduceAdd]
    rw [if_neg (by omega)]
    have u0 := InU.new H.length 38 3 B pHB.length_le
    refine ⟨?_, pre_app pHB _⟩
    have := u0.inl
    simpa using this
  rw [if_pos (by omega)] at hQ
  obtain ⟨d, hd⟩ : ∃ d : Nat, far.getD sN 0 = d := ⟨(far.getD sN 0).toNat, by omega⟩
  rw [hd, Int.toNat_natCast] at hQ
  have h9 := hF.nine (by omega) (show sN < n.toNat by omega) hd
  rw [hd] at hb
  simp (maxSteps := 1000000) (disch := omega) only [decide_eq_false e, ld_agg ag31 cs31 cB, S, S1, S2, S3, S4, S5, ST, eq_self, reduceIte, reduceCtorEq, Nat.reduceEqDiff, Nat.reduceAdd]
  refine CallH.by (l7Count_c n v vf es hg hlen hF d sN B (by omega) hd (rA.pre pB) hf.row) ?_
  rintro _ C ⟨rfl, pC⟩
  have cC := pre_at pC cB
  have h300 : ¬ (300 : Int) < ((wN (roadsL n.toNat es) far d (sN : Int) : Nat) : Int) := by omega
  simp (maxSteps := 1000000) (disch := omega) only [decide_eq_false h300, ld_agg ag31 cs31 cC, S, S1, S2, S3, S4, S5, ST, eq_self, reduceIte, reduceCtorEq, Nat.reduceEqDiff, Nat.reduceAdd]
  generalize hD : C ++ [AObj.cells [.int .i64 (sN : Int)] 3 false] = D
  have pD : C <+: D := by rw [← hD]; exact List.prefix_append _ _
  have cD : D[C.length]? = some (.cells (ints [(sN : Int)]) 3 false) := by rw [← hD]; exact at_new ..
  have lD : D.length = C.length + 1 := by rw [← hD]; simp
  generalize hE : D ++ [AObj.cells [] 38 false] = E
  have pE : D <+: E := by rw [← hE]; exact List.prefix_append _ _
  have cE : E[D.length]? = some (.cells [] 38 false) := by rw [← hE]; exact at_new ..
  have lE : E.length = D.length + 1 := by rw [← hE]; simp
  have pBE := pC.trans (pD.trans pE)
  have lC := pC.length_le
  have hwi : InI B.length E.length 3 E (.slice (some ⟨C.length, 0, none⟩) 1 1) [(sN : Int)] := .inr ⟨C.length, [(sN : Int)], rfl, lC, by omega, pre_at pE cD, rfl⟩
  have hin : InU B.length E.length 38 3 E D.length [] [] := ⟨by omega, by omega, cE, Nat.le_refl _, fun i hi => absurd hi (by simp), fun i j _ hi _ => absurd hi (by simp)⟩
  refine CallH.by (l7More_c n v vf es hg hlen hF B (rA.pre pB) hf.row d sN (.slice (some ⟨C.length, 0, none⟩) 1 1) [(sN : Int)] D.length E.length [] [] E (by omega) hd (by simp) (by simp; omega) rfl hwi (.inr (by show C.length ≠ D.length; omega)) (fun i hi => absurd hi (by simp)) hin (Nat.le_refl _) pBE (by simp; omega)) ?_
  rintro _ G ⟨o', us', rfl, i1, i2, i3, i4⟩
  simp (maxSteps := 1000000) (disch := omega) only [S, S1, S2, S3, S4, S5, ST, eq_self, reduceIte, reduceCtorEq, Nat.reduceEqDiff, Nat.reduceAdd]
  refine hQ _ _ _ ?_
  simp (maxSteps := 1000000) (disch := omega) only [S, S1, S2, S3, S4, S5, ST, eq_self, reduceIte, reduceCtorEq, Nat.reduceEqDiff, Nat.reduceAdd]
  have lHB := pHB.length_le
  rw [List.nil_append] at i1
  refine ⟨i1.inl.wide lHB (Nat.le_refl _), pHB.trans (prefix_of fun j y hy => i2 j y (by have := at_lt hy; omega) (pre_at pBE hy))⟩
set_option maxRecDepth 20000 in
set_option maxHeartbeats 8000000 in
theorem l7Turns_c {H : AH} {a : Value} {ls : List (List Int)} {lo : Nat} (hL : InL lo H.length 38 3 H a ls) (h9 : ls.length ≤ 9) {len : Nat} (hlen : len ≤ 8) (hk : ∀ l ∈ ls, l.length = len) :
    ACalls Try.prog 105 [a] H fun r H' => ∃ b, r = .agg (List.toArray [a, b]) ∧ InP H.length H'.length 81 H' b (steps chB ls) ∧ H <+: H' := by
  refine in105 rfl ?_
  intro Q hQ
  obtain ⟨us, r1, r2, r3⟩ := hL.parts
  obtain ⟨pa, hpa⟩ := r1.shape
  simp (maxSteps := 1000000) (disch := omega) only [cd105, alloc_sp, S, S1, S2, S3, S4, S5, ST, eq_self, reduceIte, reduceCtorEq, Nat.reduceEqDiff, Nat.reduceAdd]
  generalize hA : H ++ [AObj.cells [.slice none 0 0, .slice none 0 0] 28 false] = A
  have pA : H <+: A := by rw [← hA]; exact List.prefix_append _ _
  have cA : A[H.length]? = some (.cells [.slice none 0 0, .slice none 0 0] 28 false) := by rw [← hA]; exact at_new ..
  have lA : A.length = H.length + 1 := by rw [← hA]; simp
  generalize hE : A ++ [AObj.cells [] 81 false] = E
  have pE : A <+: E := by rw [← hE]; exact List.prefix_append _ _
  have lE : E.length = A.length + 1 := by rw [← hE]; simp
  have m0 : MineP 81 A E (.slice (some ⟨A.length, 0, none⟩) 0 0) [] := by rw [← hE]; exact MineP.nil0 (P := Try.prog) A A (Nat.le_refl _)
  have hb2 := bld_sp2 pa (some ⟨A.length, 0, none⟩) us.length us.length 0 0
  rw [← hpa] at hb2
  have st1 := st_ss (at_new E (.cells [.slice none 0 0, .slice none 0 0] 28 false)) rfl pa (some ⟨A.length, 0, none⟩) us.length us.length 0 0
  rw [set_new, ← hpa] at st1
  simp (maxSteps := 1000000) (disch := omega) only [hb2, alloc_sp, st1, S, S1, S2, S3, S4, S5, ST, eq_self, reduceIte, reduceCtorEq, Nat.reduceEqDiff, Nat.reduceAdd]
  generalize hG : E ++ [AObj.cells [a, .slice (some ⟨A.length, 0, none⟩) 0 0] 28 false] = G
  have pG : E <+: G := by rw [← hG]; exact List.prefix_append _ _
  have cG : G[E.length]? = some (.cells [a, .slice (some ⟨A.length, 0, none⟩) 0 0] 28 false) := by rw [← hG]; exact at_new ..
  have lG : G.length = E.length + 1 := by rw [← hG]; simp
  have pAG := pE.trans pG
  have rowA : ∀ {H'}, A <+: H' → RowV 38 H' a us := fun hp => r1.pre (pA.trans hp)
  have rowI : ∀ {H'} (i : Nat), i < ls.length → A <+: H' → Row 3 H' (us.getD i undef) (ls.getD i []) := fun i hi hp => (r3 i hi).row.1.pre (pA.trans hp)
  have sm : ∀ i, i < ls.length → (ls.getD i []).length = len := fun i hi => hk _ (by simp [hi])
  refine LoopH.by (fun m s H' => ∃ i st, m + i = ls.length ∧ s 0 = a ∧ s 2 = .pointer (some ⟨H.length, 0, none⟩) ∧ s 3 = .pointer (some ⟨E.length, 0, none⟩) ∧ s 4 = .int .i64 ((i : Nat) : Int) ∧ H'[E.length]? = some (.cells [a, st] 28 false) ∧ (rowO st = A.length ∨ G.length ≤ rowO st) ∧ st ≠ .slice none 0 0 ∧ MineP 81 A H' st (stpO chB ls i) ∧ A <+: H') ls.length ?_ ?_
  · exact ⟨0, .slice (some ⟨A.length, 0, none⟩) 0 0, by simp, rfl, rfl, rfl, rfl, cG, .inl rfl, (by intro e; cases e), m0.pre pG, pAG⟩
  rintro m s H' ⟨i, st, hm, s0, s2, s3, s4, hc5, hst, hsn, hmn, hpp⟩
  simp (maxSteps := 1000000) (disch := omega) only [s0, s2, s3, s4, (rowA hpp).len Try.underlying26, r2, S, S1, S2, S3, S4, S5, ST, eq_self, reduceIte, reduceCtorEq, Nat.reduceEqDiff, Nat.reduceAdd]
  refine brD.intro (fun g => ?_) (fun g => ?_)
  rotate_left
  · have hi : i = ls.length := by omega
    subst hi
    have hrow : SpRow H' a st ls (stpO chB ls ls.length) := ⟨⟨_, hL.row.pre (pA.trans hpp)⟩, hmn.row⟩
    have cAH := pre_at hpp cA
    have hstore := hrow.store cAH rfl
    simp (maxSteps := 1000000) (disch := omega) only [s0, s2, s3, s4, ld_agg ag28 cs28 hc5, hstore, S, S1, S2, S3, S4, S5, ST, eq_self, reduceIte, reduceCtorEq, Nat.reduceEqDiff, Nat.reduceAdd]
    have d4 := at_set (d := .cells [a, st] 28 false) cAH
    have lH' := hpp.length_le
    refine hQ _ _ _ (end_cell _ _ _ _ _ _ (.agg (List.toArray [a, st])) ?_ rfl ⟨st, rfl, ?_, ?_⟩)
    · simp (maxSteps := 1000000) (disch := omega) only [s2, ld_agg ag28 cs28 d4, S, S1, S2, S3, S4, S5, ST, eq_self, reduceIte, reduceCtorEq, Nat.reduceEqDiff, Nat.reduceAdd]
    · rcases InP.of hmn with q | ⟨o, zs, q1, q2, q3, q4, q5⟩
      · exact .inl q
      · exact .inr ⟨o, zs, q1, by omega, by simpa using q3, by rw [List.getElem?_set_ne (by omega)]; exact q4, q5⟩
    · exact pre_set (pA.trans hpp) (by omega) _
  have hi : i < ls.length := by omega
  simp (maxSteps := 1000000) (disch := omega) only [s0, s2, s3, s4, wrap64, S, S1, S2, S3, S4, S5, ST, eq_self, reduceIte, reduceCtorEq, Nat.reduceEqDiff, Nat.reduceAdd]
  refine LoopH.by (fun m' s' H'' => ∃ j st', m' + j = ls.length - (i + 1) ∧ s' 0 = a ∧ s' 2 = .pointer (some ⟨H.length, 0, none⟩) ∧ s' 3 = .pointer (some ⟨E.length, 0, none⟩) ∧ s' 4 = .int .i64 ((i : Nat) : Int) ∧ s' 5 = .int .i64 ((i + 1 + j : Nat) : Int) ∧ H''[E.length]? = some (.cells [a, st'] 28 false) ∧ (rowO st' = A.length ∨ G.length ≤ rowO st') ∧ st' ≠ .slice none 0 0 ∧ MineP 81 A H'' st' (stpO chB ls i ++ stpI chB ls i j) ∧ A <+: H'') (ls.length - (i + 1)) ?_ ?_
  · refine ⟨0, st, by simp, ?_⟩
    simp only [S, S1, S2, S3, S4, S5, ST, eq_self, reduceIte, reduceCtorEq, Nat.reduceEqDiff, Nat.reduceAdd, s0, s2, s3, s4]
    have f0 : MineP 81 A H' st (stpO chB ls i ++ stpI chB ls i 0) := by rw [stpI, List.append_nil]; exact hmn
    (repeat' first | exact hc5 | exact hst | exact hsn | exact f0 | exact hpp | apply And.intro) <;> first | (simp only [Value.int.injEq, true_and]; omega) | omega | rfl | assumption | (simp; done) | (simp; omega)
  · rintro m' s' H'' ⟨j, st', hm', g0, g2, g3, g4, g5, hc5', hst', hsn', hmn', hpp'⟩
    simp (maxSteps := 1000000) (disch := omega) only [g0, g2, g3, g4, g5, (rowA hpp').len Try.underlying26, r2, S, S1, S2, S3, S4, S5, ST, eq_self, reduceIte, reduceCtorEq, Nat.reduceEqDiff, Nat.reduceAdd]
    refine brD.intro (fun q => ?_) (fun q => ?_)
    · have hj : i + 1 + j < ls.length := by omega
      have hci := (rowA hpp').cell (show i < us.length by omega)
      have hcj := (rowA hpp').cell (show i + 1 + j < us.length by omega)
      have hgi := sm i hi
      have hgj := sm _ hj
      simp (maxSteps := 1000000) (disch := omega) only [g0, g2, g3, g4, g5, (rowA hpp').ix Try.underlying26 cs38, Int.toNat_natCast, hci, hcj, S, S1, S2, S3, S4, S5, ST, eq_self, reduceIte, reduceCtorEq, Nat.reduceEqDiff, Nat.reduceAdd]
      refine CallH.by (l5Changed_c _ _ _ _ H'' (rowI i hi hpp') (rowI (i + 1 + j) hj hpp') (by omega) (by omega)) ?_
      rintro u K ⟨hu, pK⟩
      have hcK := pre_at pK hc5'
      have hpK := hpp'.trans pK
      have hmK := hmn'.pre pK
      have hur := hu.row
      have hsl1 := stpO_len chB ls i
      have hsl2 := stpI_len chB ls i j
      have hmul : i * ls.length ≤ 9 * 9 := Nat.mul_le_mul (by omega) (by omega)
      have lK := hpK.length_le
      have l5 := at_lt hc5'
      have hne : ∀ o, o = E.length → o ≠ rowO st' := fun o ho => by omega
      have hjl : ((dfL (ls.getD i []) (ls.getD (i + 1 + j) [])).length : Int) = 1 ↔ chB (ls.getD i []) (ls.getD (i + 1 + j) []) = true := by
        unfold chB; rw [decide_eq_true_eq]; omega
      simp (maxSteps := 1000000) (disch := omega) only [g0, g2, g3, g4, g5, hur.len Try.underlying38, S, S1, S2, S3, S4, S5, ST, eq_self, reduceIte, reduceCtorEq, Nat.reduceEqDiff, Nat.reduceAdd]
      refine brD.intro (fun e1 => ?_) (fun e1 => ?_)
      · have ht := hjl.1 e1
        have hstep : stpI chB ls i (j + 1) = stpI chB ls i j ++ [((i : Int), ((i + 1 + j : Nat) : Int))] := by rw [stpI, if_pos ht]
        obtain ⟨st2, H3, k1, k2, k3, k4, k5, k6⟩ := own1_22 hmK hpK (by rw [List.length_append]; omega) (i : Int) ((i + 1 + j : Nat) : Int)
        have d5 : H3[E.length]? = some (.cells [a, st'] 28 false) := k4 _ _ (.inr (hne _ rfl)) hcK
        obtain ⟨q2, hq2⟩ := k2.row.shape
        have t2 : st2.cells.toList = [st2] := by rw [hq2]; rfl
        have hst3 := st_at (P := Try.prog) (t := 22) (i := 1) (y := st2) cs22 d5 (by show 1 < 2; decide) k6 t2
        have lGK : G.length ≤ K.length := by have := pK.length_le; omega
        simp (maxSteps := 1000000) (disch := omega) only [e1, g0, g2, g3, g4, g5, cell_of hcK, build_a2, wrap64, k1, hst3, S, S1, S2, S3, S4, S5, ST, eq_self, reduceIte, reduceCtorEq, Nat.reduceEqDiff, Nat.reduceAdd]
        have f5 : (H3.set E.length (.cells ([a, st'].set 1 st2) 28 false))[E.length]? = some (.cells [a, st2] 28 false) := by
          rw [List.getElem?_set_self (at_lt d5)]; rfl
        have fs1 : rowO st2 = A.length ∨ G.length ≤ rowO st2 := .inr (by omega)
        have fs2 : st2 ≠ .slice none 0 0 := by
          intro hh
          rw [hh] at k5
          have : rowO (Value.slice none 0 0) = 0 := rfl
          omega
        have fm : MineP 81 A (H3.set E.length (.cells ([a, st'].set 1 st2) 28 false)) st2 (stpO chB ls i ++ stpI chB ls i (j + 1)) := by
          rw [hstep, ← List.append_assoc]
          exact k2.keepL fun hl y hy => by rw [List.getElem?_set_ne (by omega)]; exact hy
        have fp : A <+: H3.set E.length (.cells ([a, st'].set 1 st2) 28 false) := pre_set k3 (by omega) _
        refine ⟨m' - 1, by omega, j + 1, st2, ?_⟩
        (repeat' first | exact f5 | exact fs1 | exact fs2 | exact fm | exact fp | apply And.intro) <;> first | (simp only [Value.int.injEq, true_and]; omega) | omega | rfl | assumption | (simp; done) | (simp; omega)
      · have ht : ¬ chB (ls.getD i []) (ls.getD (i + 1 + j) []) = true := fun h => e1 (hjl.2 h)
        have hstep : stpI chB ls i (j + 1) = stpI chB ls i j := by rw [stpI, if_neg ht, List.append_nil]
        rw [← hstep] at hmK
        simp (maxSteps := 1000000) (disch := omega) only [e1, g0, g2, g3, g4, g5, wrap64, S, S1, S2, S3, S4, S5, ST, eq_self, reduceIte, reduceCtorEq, Nat.reduceEqDiff, Nat.reduceAdd]
        refine ⟨m' - 1, by omega, j + 1, st', ?_⟩
        (repeat' first | exact hcK | exact hst' | exact hsn' | exact hmK | exact hpK | apply And.intro) <;> first | (simp only [Value.int.injEq, true_and]; omega) | omega | rfl | assumption | (simp; done) | (simp; omega)
    · have hjj : j = ls.length - (i + 1) := by omega
      subst hjj
      have hstO : stpO chB ls (i + 1) = stpO chB ls i ++ stpI chB ls i (ls.length - (i + 1)) := rfl
      rw [← hstO] at hmn'
      simp (maxSteps := 1000000) (disch := omega) only [g0, g2, g3, g4, g5, wrap64, S, S1, S2, S3, S4, S5, ST, eq_self, reduceIte, reduceCtorEq, Nat.reduceEqDiff, Nat.reduceAdd]
      refine ⟨m - 1, by omega, i + 1, st', ?_⟩
      (repeat' first | exact hc5' | exact hst' | exact hsn' | exact hmn' | exact hpp' | apply And.intro) <;> first | (simp only [Value.int.injEq, true_and]; omega) | omega | rfl | assumption | (simp; done) | (simp; omega)
set_option maxRecDepth 20000 in
set_option maxHeartbeats 4000000 in
theorem WyS_c (s t : Int) (n : Int) (v : Value) (es : List (Int × Int)) (H : AH) (hr : RowP 81 H v es) (hlen : es.length ≤ 1099511627776) (hes : ∀ y ∈ es, I64 y.1 ∧ I64 y.2) (hn : I64 n) :
    ACalls Try.prog 33 [.agg (List.toArray [.int .i64 n, v]), .int .i64 s, .int .i64 t] H fun r H' => ∃ a b, r = .tuple (List.toArray [.agg (List.toArray [a, b]), .bool (wsB n es s t)]) ∧ SpIn H.length H'.length H' a b (wsL n es s t) (wsP n es s t) ∧ H <+: H' := by
  refine in33 rfl ?_
  intro Q hQ
  simp (maxSteps := 1000000) (disch := omega) only [cd33, hr.boxG, S, S1, S2, S3, S4, S5, ST, eq_self, reduceIte, reduceCtorEq, Nat.reduceEqDiff, Nat.reduceAdd]
  generalize hA0 : H ++ [AObj.cells [.int .i64 n, v] 31 false] = A0
  have pA0 : H <+: A0 := by rw [← hA0]; exact List.prefix_append _ _
  have cA0 : A0[H.length]? = some (.cells [.int .i64 n, v] 31 false) := by rw [← hA0]; exact at_new ..
  have rA0 := hr.pre pA0
  simp (maxSteps := 1000000) (disch := omega) only [alloc_sp, S, S1, S2, S3, S4, S5, ST, eq_self, reduceIte, reduceCtorEq, Nat.reduceEqDiff, Nat.reduceAdd]
  generalize hA : A0 ++ [AObj.cells [.slice none 0 0, .slice none 0 0] 28 false] = A
  have pA1 : A0 <+: A := by rw [← hA]; exact List.prefix_append _ _
  have lA0 : A0.length = H.length + 1 := by rw [← hA0]; simp
  have cS : A[A0.length]? = some (.cells [.slice none 0 0, .slice none 0 0] 28 false) := by rw [← hA]; exact at_new ..
  have lA : A.length = A0.length + 1 := by rw [← hA]; simp
  have pA := pA0.trans pA1
  have cA := pre_at pA1 cA0
  have rA := rA0.pre pA1
  simp (maxSteps := 1000000) (disch := omega) only [ld_agg ag31 cs31 cA, S, S1, S2, S3, S4, S5, ST, eq_self, reduceIte, reduceCtorEq, Nat.reduceEqDiff, Nat.reduceAdd]
  refine CallH.by (l7Ends_c n v es s t A rA hlen) ?_
  rintro _ B ⟨rfl, pB⟩
  have cB := pre_at pB cA
  have cSB := pre_at pB cS
  have pHB := pA.trans pB
  have lB := pB.length_le
  have no : ∀ {G : AH}, A <+: G → wsL n es s t = [] → ∀ sl : Sl, sl 6 = .pointer (some ⟨A0.length, 0, none⟩) → sl 7 = .bool false → endA Try.prog [.cell 6 28, .tmp 7] (fun r H' => ∃ a b, r = .tuple (List.toArray [.agg (List.toArray [a, b]), .bool (wsB n es s t)]) ∧ SpIn H.length H'.length H' a b (wsL n es s t) (wsP n es s t) ∧ H <+: H') .ret sl (G.set A0.length (.cells [.slice none 0 0, .slice none 0 0] 28 false)) := by
    intro G pG h sl s2 s3
    have cSG := pre_at pG cS
    have lG := pG.length_le
    have d4 := at_set (d := .cells [.slice none 0 0, .slice none 0 0] 28 false) cSG
    have hB : wsB n es s t = false := by unfold wsB; rw [h]; rfl
    have hP : wsP n es s t = [] := by unfold wsP; rw [h]; rfl
    refine end_cell2 _ _ _ _ _ _ _ (.agg (List.toArray [.slice none 0 0, .slice none 0 0])) (.bool false) ?_ rfl s3 rfl ⟨_, _, by rw [hB], ⟨H.length, Nat.le_refl _, by simp; omega, ?_, ?_⟩, ?_⟩
    · simp (maxSteps := 1000000) (disch := omega) only [s2, ld_agg ag28 cs28 d4, S, S1, S2, S3, S4, S5, ST, eq_self, reduceIte, reduceCtorEq, Nat.reduceEqDiff, Nat.reduceAdd]
    · rw [h]; exact .inl ⟨rfl, rfl⟩
    · rw [hP]; exact .inl ⟨rfl, rfl⟩
    · exact pre_set (pA.trans pG) (by omega) _
  by_cases e : WsOk n es s t
  rotate_left
  · have hstore0 := st_ss cSB rfl none none 0 0 0 0
    simp (maxSteps := 1000000) (disch := omega) only [decide_eq_false e, bld_sp0, hstore0, S, S1, S2, S3, S4, S5, ST, eq_self, reduceIte, reduceCtorEq, Nat.reduceEqDiff, Nat.reduceAdd]
    refine hQ _ _ _ (no pB (by unfold wsL; rw [if_neg (fun q => e q.1)]) _ ?_ ?_) <;> simp (maxSteps := 1000000) (disch := omega) only [S, S1, S2, S3, S4, S5, ST, eq_self, reduceIte, reduceCtorEq, Nat.reduceEqDiff, Nat.reduceAdd]
  simp (maxSteps := 1000000) (disch := omega) only [decide_eq_true e, ld_agg ag31 cs31 cB, S, S1, S2, S3, S4, S5, ST, eq_self, reduceIte, reduceCtorEq, Nat.reduceEqDiff, Nat.reduceAdd]
  refine CallH.by (l7Ways_c n v es s t B (rA.pre pB) hlen e) ?_
  rintro a C ⟨hL, pC⟩
  have pBC := pB.trans pC
  have cSC := pre_at pBC cS
  have lC := pC.length_le
  obtain ⟨hsrt, h9, ⟨k, k8, hk⟩, _⟩ := wsL_ok (n := n) (es := es) (s := s) (t := t)
  have hB : wsB n es s t = decide (0 < (wsL n es s t).length) := rfl
  have hP : wsP n es s t = steps chB (wsL n es s t) := rfl
  obtain ⟨us, r1, r2, r3⟩ := hL.parts
  by_cases e2 : (wsL n es s t).length = 0
  · have hnil := List.length_eq_zero_iff.1 e2
    have e3 : ((us.length : Nat) : Int) = 0 := by omega
    have hstore0 := st_ss cSC rfl none none 0 0 0 0
    simp (maxSteps := 1000000) (disch := omega) only [r1.len Try.underlying26, decide_eq_true e3, bld_sp0, hstore0, S, S1, S2, S3, S4, S5, ST, eq_self, reduceIte, reduceCtorEq, Nat.reduceEqDiff, Nat.reduceAdd]
    refine hQ _ _ _ (no pBC hnil _ ?_ ?_) <;> simp (maxSteps := 1000000) (disch := omega) only [S, S1, S2, S3, S4, S5, ST, eq_self, reduceIte, reduceCtorEq, Nat.reduceEqDiff, Nat.reduceAdd]
  rw [hB, hP, decide_eq_true (show 0 < (wsL n es s t).length by omega)] at hQ
  clear no
  generalize wsL n es s t = ls at *
  have e3 : ¬ ((us.length : Nat) : Int) = 0 := by omega
  simp (maxSteps := 1000000) (disch := omega) only [r1.len Try.underlying26, decide_eq_false e3, S, S1, S2, S3, S4, S5, ST, eq_self, reduceIte, reduceCtorEq, Nat.reduceEqDiff, Nat.reduceAdd]
  refine CallH.by (l7Turns_c hL h9 k8 hk) ?_
  rintro _ D ⟨b, rfl, hp, pD⟩
  have lD := pD.length_le
  have cSD := pre_at pD cSC
  have hrow : SpRow D a b ls (steps chB ls) := ⟨⟨_, (hL.row).pre pD⟩, by
    rcases hp with ⟨q1, q2⟩ | ⟨o, zs, q1, q2, q3, q4, q5⟩
    · exact (show MineP 81 D D b (steps chB ls) from .inl ⟨q1, q2⟩).row
    · exact (show MineP 81 C D b (steps chB ls) from .inr ⟨o, zs, q1, q2, q4, q5⟩).row⟩
  have hstore := hrow.store cSD rfl
  simp (maxSteps := 1000000) (disch := omega) only [hstore, S, S1, S2, S3, S4, S5, ST, eq_self, reduceIte, reduceCtorEq, Nat.reduceEqDiff, Nat.reduceAdd]
  have d4 := at_set (d := .cells [a, b] 28 false) cSD
  refine hQ _ _ _ (end_cell2 _ _ _ _ _ _ _ (.agg (List.toArray [a, b])) (.bool true) ?_ rfl ?_ rfl ⟨a, b, rfl, ⟨C.length, by omega, by simp; omega, ?_, ?_⟩, ?_⟩)
  · simp (maxSteps := 1000000) (disch := omega) only [ld_agg ag28 cs28 d4, S, S1, S2, S3, S4, S5, ST, eq_self, reduceIte, reduceCtorEq, Nat.reduceEqDiff, Nat.reduceAdd]
  · simp (maxSteps := 1000000) (disch := omega) only [S, S1, S2, S3, S4, S5, ST, eq_self, reduceIte, reduceCtorEq, Nat.reduceEqDiff, Nat.reduceAdd]
  · rcases hL.pre pD with q | ⟨o, us', q1, q2⟩
    · exact .inl q
    · refine .inr ⟨o, us', q1, (q2.move fun j y hj1 hj2 hy => ?_).wide (by omega) (Nat.le_refl _)⟩
      rw [List.getElem?_set_ne (by omega)]; exact hy
  · rcases hp with q | ⟨o, zs, q1, q2, q3, q4, q5⟩
    · exact .inl q
    · exact .inr ⟨o, zs, q1, q2, by simpa using q3, by rw [List.getElem?_set_ne (by omega)]; exact q4, q5⟩
  · exact pre_set (pA.trans (pBC.trans pD)) (by omega) _
theorem ws_ok (n : Int) (es : List (Int × Int)) (s t : Int) : (wsL n es s t).length ≤ 1099511627776 ∧ sizeL (wsL n es s t) ≤ 549755813888 ∧ (wsP n es s t).length ≤ 1099511627776 := by
  obtain ⟨_, h9, ⟨k, k8, hk⟩, _⟩ := wsL_ok (n := n) (es := es) (s := s) (t := t)
  have h2 := stpO_le_sq chB (wsL n es s t) h9
  have h6 : ∀ (ls : List (List Int)), (∀ l ∈ ls, l.length = k) → sizeL ls ≤ ls.length * 8 := by
    intro ls
    induction ls with
    | nil => intro _; simp [sizeL]
    | cons l ls ih =>
      intro hl
      have := ih (fun x hx => hl x (by simp [hx]))
      have := hl l (by simp)
      simp only [sizeL, List.map_cons, List.sum_cons, List.length_cons, Nat.add_mul, Nat.one_mul] at *
      omega
  have h7 := h6 _ hk
  exact ⟨by omega, by omega, by show (steps chB (wsL n es s t)).length ≤ _; omega⟩
end Go.Proofs.Ytlfongfhbkefmaa.Ai
namespace Go.Proofs.Ytlfongfhbkefmaa.Ai
open Go
def ords7 : List (Nat × List (Nat × Bool)) := [(10, [(0, false), (1, false), (2, true), (3, true), (4, false)])]
def cd7 : Cd := (.seq (.reg [⟨⟨some 3, Op.box 24 (Operand.tmp 0), none⟩, []⟩,
  ⟨⟨some 6, Op.assign (Operand.const (Value.bool false)), none⟩, []⟩]) (.seq (.reg [⟨⟨some 7, Op.assign (Operand.const (Value.int IntKind.i64 1048576)), none⟩, []⟩]) (.seq (.reg [⟨⟨some 18, Op.load 24 (Operand.tmp 3), none⟩, []⟩,
  ⟨⟨some 19, Op.move (Operand.tmp 7), none⟩, []⟩,
  ⟨⟨some 20, Op.call { callee := (Callee.value (Operand.func 12)), args := #[(Operand.tmp 18), (Operand.tmp 19)], argTypes := #[24, 3] }, none⟩, []⟩,
  ⟨⟨some 7, Op.assign (Operand.tmp 20), none⟩, []⟩]) (.seq (.seq (.reg [⟨⟨some 21, Op.move (Operand.tmp 7), none⟩, []⟩,
  ⟨⟨some 22, Op.binOp BinOp.lss 3 (Operand.tmp 21) (Operand.const (Value.int IntKind.i64 0)) 3, none⟩, []⟩]) (.cond (Operand.tmp 22) (.seq (.reg [⟨⟨some 6, Op.assign (Operand.const (Value.bool true)), none⟩, []⟩]) .ret) .skip)) (.seq (.reg [⟨⟨some 24, Op.load 24 (Operand.tmp 3), none⟩, []⟩,
  ⟨⟨some 25, Op.call { callee := (Callee.value (Operand.func 14)), args := #[(Operand.tmp 24)], argTypes := #[24] }, none⟩, []⟩,
  ⟨⟨some 26, Op.move (Operand.tmp 1), none⟩, []⟩,
  ⟨⟨some 27, Op.move (Operand.tmp 2), none⟩, []⟩,
  ⟨⟨some 28, Op.call { callee := (Callee.value (Operand.func 33)), args := #[(Operand.tmp 25), (Operand.tmp 26), (Operand.tmp 27)], argTypes := #[31, 3, 3] }, none⟩, []⟩,
  ⟨⟨some 23, Op.move (Operand.tmp 28), none⟩, []⟩,
  ⟨⟨some 29, Op.extract (Operand.tmp 23) 0, none⟩, []⟩,
  ⟨⟨some 30, Op.extract (Operand.tmp 23) 1, none⟩, []⟩,
  ⟨⟨some 8, Op.alloc 28, none⟩, []⟩,
  ⟨⟨none, Op.store 28 (Operand.tmp 8) (Operand.tmp 29), none⟩, []⟩,
  ⟨⟨some 9, Op.assign (Operand.tmp 30), none⟩, []⟩]) (.seq (.reg [⟨⟨some 31, Op.load 24 (Operand.tmp 3), none⟩, []⟩,
  ⟨⟨some 32, Op.call { callee := (Callee.value (Operand.func 14)), args := #[(Operand.tmp 31)], argTypes := #[24] }, none⟩, []⟩,
  ⟨⟨some 10, Op.alloc 31, none⟩, []⟩,
  ⟨⟨none, Op.store 31 (Operand.tmp 10) (Operand.tmp 32), none⟩, []⟩]) (.seq (.reg [⟨⟨some 34, Op.load 31 (Operand.tmp 10), none⟩, []⟩,
  ⟨⟨some 35, Op.move (Operand.tmp 1), none⟩, []⟩,
  ⟨⟨some 36, Op.move (Operand.tmp 2), none⟩, []⟩,
  ⟨⟨some 37, Op.call { callee := (Callee.value (Operand.func 34)), args := #[(Operand.tmp 34), (Operand.tmp 35), (Operand.tmp 36)], argTypes := #[31, 3, 3] }, none⟩, []⟩,
  ⟨⟨some 33, Op.move (Operand.tmp 37), none⟩, []⟩,
  ⟨⟨some 38, Op.extract (Operand.tmp 33) 0, none⟩, []⟩,
  ⟨⟨some 39, Op.extract (Operand.tmp 33) 1, none⟩, []⟩,
  ⟨⟨some 11, Op.alloc 28, none⟩, []⟩,
  ⟨⟨none, Op.store 28 (Operand.tmp 11) (Operand.tmp 38), none⟩, []⟩,
  ⟨⟨some 12, Op.assign (Operand.tmp 39), none⟩, []⟩]) (.seq (.seq (.reg [⟨⟨some 40, Op.load 28 (Operand.tmp 11), none⟩, []⟩,
  ⟨⟨some 41, Op.load 28 (Operand.tmp 8), none⟩, []⟩,
  ⟨⟨some 42, Op.call { callee := (Callee.value (Operand.func 16)), args := #[(Operand.tmp 40), (Operand.tmp 41)], argTypes := #[28, 28] }, none⟩, []⟩,
  ⟨⟨some 43, Op.unOp UnOp.not 4 (Operand.tmp 42), none⟩, []⟩,
  ⟨⟨some 44, Op.move (Operand.tmp 43), none⟩, []⟩,
  ⟨⟨some 45, Op.move (Operand.tmp 12), some (44, false)⟩, []⟩,
  ⟨⟨some 46, Op.move (Operand.tmp 9), some (44, false)⟩, []⟩,
  ⟨⟨some 47, Op.binOp BinOp.neq 4 (Operand.tmp 45) (Operand.tmp 46) 4, some (44, false)⟩, []⟩,
  ⟨⟨some 48, Op.pick (Operand.tmp 44) (Operand.const (Value.bool true)) (Operand.tmp 47), none⟩, []⟩]) (.cond (Operand.tmp 48) (.seq (.reg [⟨⟨some 6, Op.assign (Operand.const (Value.bool false)), none⟩, []⟩]) .ret) .skip)) (.seq (.seq (.reg [⟨⟨some 49, Op.load 31 (Operand.tmp 10), none⟩, []⟩,
  ⟨⟨some 50, Op.load 24 (Operand.tmp 3), none⟩, []⟩,
  ⟨⟨some 51, Op.call { callee := (Callee.value (Operand.func 14)), args := #[(Operand.tmp 50)], argTypes := #[24] }, none⟩, [⟨some 49, Op.load 31 (Operand.tmp 10), none⟩]⟩,
  ⟨⟨some 52, Op.call { callee := (Callee.value (Operand.func 17)), args := #[(Operand.tmp 49), (Operand.tmp 51)], argTypes := #[31, 31] }, none⟩, []⟩,
  ⟨⟨some 53, Op.unOp UnOp.not 4 (Operand.tmp 52), none⟩, []⟩]) (.cond (Operand.tmp 53) (.seq (.reg [⟨⟨some 6, Op.assign (Operand.const (Value.bool false)), none⟩, []⟩]) .ret) .skip)) (.seq (.reg [⟨⟨some 13, Op.assign (Operand.const (Value.int IntKind.i64 1)), none⟩, []⟩]) (.seq (.reg [⟨⟨some 54, Op.load 31 (Operand.tmp 10), none⟩, []⟩,
  ⟨⟨some 55, Op.move (Operand.tmp 13), none⟩, []⟩,
  ⟨⟨some 56, Op.call { callee := (Callee.value (Operand.func 18)), args := #[(Operand.tmp 54), (Operand.tmp 55)], argTypes := #[31, 3] }, none⟩, []⟩,
  ⟨⟨some 13, Op.assign (Operand.tmp 56), none⟩, []⟩]) (.seq (.seq (.reg [⟨⟨some 57, Op.move (Operand.tmp 13), none⟩, []⟩,
  ⟨⟨some 58, Op.binOp BinOp.lss 3 (Operand.tmp 57) (Operand.const (Value.int IntKind.i64 0)) 3, none⟩, []⟩,
  ⟨⟨some 59, Op.move (Operand.tmp 58), none⟩, []⟩,
  ⟨⟨some 60, Op.load 28 (Operand.tmp 11), some (59, false)⟩, []⟩,
  ⟨⟨some 61, Op.load 28 (Operand.tmp 8), some (59, false)⟩, []⟩,
  ⟨⟨some 62, Op.call { callee := (Callee.value (Operand.func 16)), args := #[(Operand.tmp 60), (Operand.tmp 61)], argTypes := #[28, 28] }, some (59, false)⟩, []⟩,
  ⟨⟨some 63, Op.unOp UnOp.not 4 (Operand.tmp 62), some (59, false)⟩, []⟩,
  ⟨⟨some 64, Op.pick (Operand.tmp 59) (Operand.const (Value.bool true)) (Operand.tmp 63), none⟩, []⟩,
  ⟨⟨some 65, Op.move (Operand.tmp 64), none⟩, []⟩,
  ⟨⟨some 66, Op.move (Operand.tmp 12), some (65, false)⟩, []⟩,
  ⟨⟨some 67, Op.move (Operand.tmp 9), some (65, false)⟩, []⟩,
  ⟨⟨some 68, Op.binOp BinOp.neq 4 (Operand.tmp 66) (Operand.tmp 67) 4, some (65, false)⟩, []⟩,
  ⟨⟨some 69, Op.pick (Operand.tmp 65) (Operand.const (Value.bool true)) (Operand.tmp 68), none⟩, []⟩]) (.cond (Operand.tmp 69) (.seq (.reg [⟨⟨some 6, Op.assign (Operand.const (Value.bool false)), none⟩, []⟩]) .ret) .skip)) (.seq (.reg [⟨⟨some 14, Op.assign (Operand.const (Value.int IntKind.i64 1)), none⟩, []⟩]) (.seq (.reg [⟨⟨some 70, Op.load 28 (Operand.tmp 11), none⟩, []⟩,
  ⟨⟨some 71, Op.move (Operand.tmp 14), none⟩, []⟩,
  ⟨⟨some 72, Op.call { callee := (Callee.value (Operand.func 19)), args := #[(Operand.tmp 70), (Operand.tmp 71)], argTypes := #[28, 3] }, none⟩, []⟩,
  ⟨⟨some 14, Op.assign (Operand.tmp 72), none⟩, []⟩]) (.seq (.reg [⟨⟨some 15, Op.assign (Operand.const (Value.int IntKind.i64 1)), none⟩, []⟩]) (.seq (.reg [⟨⟨some 73, Op.load 28 (Operand.tmp 11), none⟩, []⟩,
  ⟨⟨some 74, Op.move (Operand.tmp 15), none⟩, []⟩,
  ⟨⟨some 75, Op.call { callee := (Callee.value (Operand.func 20)), args := #[(Operand.tmp 73), (Operand.tmp 74)], argTypes := #[28, 3] }, none⟩, []⟩,
  ⟨⟨some 15, Op.assign (Operand.tmp 75), none⟩, []⟩]) (.seq (.seq (.reg [⟨⟨some 76, Op.move (Operand.tmp 15), none⟩, []⟩,
  ⟨⟨some 77, Op.binOp BinOp.lss 3 (Operand.tmp 76) (Operand.const (Value.int IntKind.i64 0)) 3, none⟩, []⟩]) (.cond (Operand.tmp 77) (.seq (.reg [⟨⟨some 6, Op.assign (Operand.const (Value.bool false)), none⟩, []⟩]) .ret) .skip)) (.seq (.seq (.reg [⟨⟨some 78, Op.move (Operand.tmp 15), none⟩, []⟩,
  ⟨⟨some 79, Op.move (Operand.tmp 14), none⟩, []⟩,
  ⟨⟨some 80, Op.binOp BinOp.neq 3 (Operand.tmp 78) (Operand.tmp 79) 3, none⟩, []⟩]) (.cond (Operand.tmp 80) (.seq (.reg [⟨⟨some 6, Op.assign (Operand.const (Value.bool false)), none⟩, []⟩]) .ret) .skip)) (.seq (.reg [⟨⟨some 82, Op.load 24 (Operand.tmp 3), none⟩, []⟩,
  ⟨⟨some 83, Op.call { callee := (Callee.value (Operand.func 14)), args := #[(Operand.tmp 82)], argTypes := #[24] }, none⟩, []⟩,
  ⟨⟨some 84, Op.move (Operand.tmp 1), none⟩, []⟩,
  ⟨⟨some 85, Op.move (Operand.tmp 2), none⟩, []⟩,
  ⟨⟨some 86, Op.call { callee := (Callee.value (Operand.func 34)), args := #[(Operand.tmp 83), (Operand.tmp 84), (Operand.tmp 85)], argTypes := #[31, 3, 3] }, none⟩, []⟩,
  ⟨⟨some 81, Op.move (Operand.tmp 86), none⟩, []⟩,
  ⟨⟨some 87, Op.extract (Operand.tmp 81) 0, none⟩, []⟩,
  ⟨⟨some 88, Op.extract (Operand.tmp 81) 1, none⟩, []⟩,
  ⟨⟨some 16, Op.alloc 28, none⟩, []⟩,
  ⟨⟨none, Op.store 28 (Operand.tmp 16) (Operand.tmp 87), none⟩, []⟩,
  ⟨⟨some 17, Op.assign (Operand.tmp 88), none⟩, []⟩]) (.seq (.seq (.reg [⟨⟨some 89, Op.load 28 (Operand.tmp 16), none⟩, []⟩,
  ⟨⟨some 90, Op.load 28 (Operand.tmp 8), none⟩, []⟩,
  ⟨⟨some 91, Op.call { callee := (Callee.value (Operand.func 16)), args := #[(Operand.tmp 89), (Operand.tmp 90)], argTypes := #[28, 28] }, none⟩, []⟩,
  ⟨⟨some 92, Op.unOp UnOp.not 4 (Operand.tmp 91), none⟩, []⟩,
  ⟨⟨some 93, Op.move (Operand.tmp 92), none⟩, []⟩,
  ⟨⟨some 94, Op.move (Operand.tmp 17), some (93, false)⟩, []⟩,
  ⟨⟨some 95, Op.move (Operand.tmp 9), some (93, false)⟩, []⟩,
  ⟨⟨some 96, Op.binOp BinOp.neq 4 (Operand.tmp 94) (Operand.tmp 95) 4, some (93, false)⟩, []⟩,
  ⟨⟨some 97, Op.pick (Operand.tmp 93) (Operand.const (Value.bool true)) (Operand.tmp 96), none⟩, []⟩]) (.cond (Operand.tmp 97) (.seq (.reg [⟨⟨some 6, Op.assign (Operand.const (Value.bool false)), none⟩, []⟩]) .ret) .skip)) (.seq (.reg [⟨⟨some 15, Op.assign (Operand.const (Value.int IntKind.i64 1)), none⟩, []⟩]) (.seq (.reg [⟨⟨some 98, Op.load 28 (Operand.tmp 11), none⟩, []⟩,
  ⟨⟨some 99, Op.move (Operand.tmp 15), none⟩, []⟩,
  ⟨⟨some 100, Op.call { callee := (Callee.value (Operand.func 20)), args := #[(Operand.tmp 98), (Operand.tmp 99)], argTypes := #[28, 3] }, none⟩, []⟩,
  ⟨⟨some 15, Op.assign (Operand.tmp 100), none⟩, []⟩]) (.seq (.seq (.reg [⟨⟨some 101, Op.move (Operand.tmp 15), none⟩, []⟩,
  ⟨⟨some 102, Op.binOp BinOp.lss 3 (Operand.tmp 101) (Operand.const (Value.int IntKind.i64 0)) 3, none⟩, []⟩]) (.cond (Operand.tmp 102) (.seq (.reg [⟨⟨some 6, Op.assign (Operand.const (Value.bool false)), none⟩, []⟩]) .ret) .skip)) (.seq (.seq (.reg [⟨⟨some 103, Op.move (Operand.tmp 15), none⟩, []⟩,
  ⟨⟨some 104, Op.move (Operand.tmp 14), none⟩, []⟩,
  ⟨⟨some 105, Op.binOp BinOp.neq 3 (Operand.tmp 103) (Operand.tmp 104) 3, none⟩, []⟩]) (.cond (Operand.tmp 105) (.seq (.reg [⟨⟨some 6, Op.assign (Operand.const (Value.bool false)), none⟩, []⟩]) .ret) .skip)) (.seq (.reg [⟨⟨some 6, Op.assign (Operand.const (Value.bool true)), none⟩, []⟩]) .ret)))))))))))))))))))))))))
theorem sl7 : slim Try.f7.ntmps ords7 (Try.f7.body.getD .skip) = some cd7 := by kernel_rfl
theorem in7 {args : List Value} {H : AH} {R : Value → AH → Prop} (hl : args.length = 3) (h : ∀ (Q : Exit → Sl → AH → Prop), (∀ e s H, endA Try.prog [ResultVar.tmp 6] R e s H → Q e s H) → wpC Try.prog cd7 Q (enterA args) H) : ACalls Try.prog 7 args H R :=
  ACalls.intro (by kernel_rfl) Try.func7 rfl (by kernel_rfl) sl7 hl (of_decide_eq_true (by kernel_rfl)) (by kernel_rfl) h
end Go.Proofs.Ytlfongfhbkefmaa.Ai
namespace Go.Proofs.Ytlfongfhbkefmaa.Ai
open Go Go.RowKit
set_option linter.unusedVariables false
set_option linter.unusedSimpArgs false
set_option maxRecDepth 20000 in
set_option maxHeartbeats 8000000 in
theorem wySLaw_c (a1 : Int) (a2 : Int) (n0 : Int) (v0 : Value) (xs0 : List (Int × Int)) (H0 : AH) (r0 : RowP 81 H0 v0 xs0) (b0 : (∀ y ∈ xs0, I64 y.1 ∧ I64 y.2) ∧ (xs0.length : Int) ≤ 9223372036854775807) (bn0 : I64 n0) :
    ACalls Try.prog 7 [.agg (List.toArray [.int .i64 n0, v0]), .int .i64 a1, .int .i64 a2] H0 fun r H' => r = .bool true := by
  refine in7 rfl ?_
  intro Q hQ
  simp (maxSteps := 4000000) (disch := omega) only [cd7, r0.boxL, S, S1, S2, S3, S4, S5, ST, eq_self, reduceIte, reduceCtorEq, Nat.reduceEqDiff, Nat.reduceAdd]
  generalize hG0 : H0 ++ [AObj.cells [.int .i64 n0, v0] 24 false] = H1
  have p1 : H0 <+: H1 := by rw [← hG0]; exact List.prefix_append _ _
  have CB0_1 : H1[H0.length]? = some (.cells [.int .i64 n0, v0] 24 false) := by rw [← hG0]; exact at_new ..
  have L1 := p1.length_le
  have Lb := at_lt CB0_1
  try simp (maxSteps := 4000000) (disch := omega) only [ld_agg ag24 cs24 CB0_1, S, S1, S2, S3, S4, S5, ST, eq_self, reduceIte, reduceCtorEq, Nat.reduceEqDiff, Nat.reduceAdd]
  have Ra0_0 := r0.b
  have Ra0_1 := Ra0_0.pre p1
  refine CallH.by (szGraph_c n0 v0 xs0 (1048576) H1 Ra0_1.1 (by omega) b0.2) ?_
  rintro _ H2 ⟨rfl, p2⟩
  have Ra0_2 := Ra0_1.pre p2
  have CB0_2 := pre_at p2 CB0_1
  have L2 := p2.length_le
  simp (maxSteps := 4000000) (disch := omega) only [ld_agg ag24 cs24 CB0_2, S, S1, S2, S3, S4, S5, ST, eq_self, reduceIte, reduceCtorEq, Nat.reduceEqDiff, Nat.reduceAdd]
  by_cases g0 : 1048576 - (xs0.length : Int) < 0
  · rw [if_pos g0]
    try simp (maxSteps := 4000000) (disch := omega) only [ld_agg ag24 cs24 CB0_2, S, S1, S2, S3, S4, S5, ST, eq_self, reduceIte, reduceCtorEq, Nat.reduceEqDiff, Nat.reduceAdd]
    try (refine brD.intro (fun _ => ?_) (fun h => absurd h (by omega)))
    try simp (maxSteps := 4000000) (disch := omega) only [ld_agg ag24 cs24 CB0_2, S, S1, S2, S3, S4, S5, ST, eq_self, reduceIte, reduceCtorEq, Nat.reduceEqDiff, Nat.reduceAdd]
    refine hQ _ _ _ ?_
    simp (maxSteps := 4000000) (disch := omega) only [ld_agg ag24 cs24 CB0_2, S, S1, S2, S3, S4, S5, ST, eq_self, reduceIte, reduceCtorEq, Nat.reduceEqDiff, Nat.reduceAdd]
  rw [if_neg g0]
  try simp (maxSteps := 4000000) (disch := omega) only [g0, ld_agg ag24 cs24 CB0_2, S, S1, S2, S3, S4, S5, ST, eq_self, reduceIte, reduceCtorEq, Nat.reduceEqDiff, Nat.reduceAdd]
  try refine brD.intro (fun h => absurd h (by omega)) (fun _ => ?_)
  try simp (maxSteps := 4000000) (disch := omega) only [g0, ld_agg ag24 cs24 CB0_2, S, S1, S2, S3, S4, S5, ST, eq_self, reduceIte, reduceCtorEq, Nat.reduceEqDiff, Nat.reduceAdd]
  have l0 : xs0.length ≤ 1048576 := by omega
  have L0_big : xs0.length ≤ 1099511627776 := by omega
  refine CallH.by (toGraph_c n0 v0 xs0 H2 Ra0_2.1 L0_big) ?_
  rintro _ H3 ⟨c0, rfl, qc0, p3⟩
  have Ra0_3 := Ra0_2.pre p3
  have CB0_3 := pre_at p3 CB0_2
  have L3 := p3.length_le
  have Mc0_3 := InP.of qc0
  have Rc0_3 := Mc0_3.row
  simp (maxSteps := 4000000) (disch := omega) only [ld_agg ag24 cs24 CB0_3, S, S1, S2, S3, S4, S5, ST, eq_self, reduceIte, reduceCtorEq, Nat.reduceEqDiff, Nat.reduceAdd]
  refine CallH.by (WyS_c a1 a2 n0 c0 xs0 H3 Rc0_3.1 L0_big b0.1 bn0) ?_
  rintro _ H4 ⟨w0a, w0b, rfl, qw0, p4⟩
  have Ra0_4 := Ra0_3.pre p4
  have Rc0_4 := Rc0_3.pre p4
  have Mc0_4 := Mc0_3.pre p4
  have CB0_4 := pre_at p4 CB0_3
  have L4 := p4.length_le
  have Mw0_4 := qw0
  have Rw0_4 := Mw0_4.row
  have hstw0 := Rw0_4.store (at_new H4 (.cells [.slice none 0 0, .slice none 0 0] 28 false)) rfl
  simp (maxSteps := 4000000) (disch := omega) only [alloc_sp, hstw0, set_new, ld_agg ag24 cs24 CB0_4, S, S1, S2, S3, S4, S5, ST, eq_self, reduceIte, reduceCtorEq, Nat.reduceEqDiff, Nat.reduceAdd]
  generalize hXw0 : H4 ++ [AObj.cells [w0a, w0b] 28 false] = H5
  have p5 : H4 <+: H5 := by rw [← hXw0]; exact List.prefix_append _ _
  have Cw0_5 : H5[H4.length]? = some (.cells [w0a, w0b] 28 false) := by rw [← hXw0]; exact at_new ..
  have Lxw0 := at_lt Cw0_5
  have Ra0_5 := Ra0_4.pre p5
  have Rc0_5 := Rc0_4.pre p5
  have Rw0_5 := Rw0_4.pre p5
  have Mc0_5 := Mc0_4.pre p5
  have Mw0_5 := Mw0_4.pre p5
  have CB0_5 := pre_at p5 CB0_4
  have L5 := p5.length_le
  try simp (maxSteps := 4000000) (disch := omega) only [ld_agg ag24 cs24 CB0_5, ld_agg ag28 cs28 Cw0_5, S, S1, S2, S3, S4, S5, ST, eq_self, reduceIte, reduceCtorEq, Nat.reduceEqDiff, Nat.reduceAdd]
  refine CallH.by (toGraph_c n0 v0 xs0 H5 Ra0_5.1 L0_big) ?_
  rintro _ H6 ⟨d0, rfl, qd0, p6⟩
  have Ra0_6 := Ra0_5.pre p6
  have Rw0_6 := Rw0_5.pre p6
  have Mw0_6 := Mw0_5.pre p6
  have CB0_6 := pre_at p6 CB0_5
  have Cw0_6 := pre_at p6 Cw0_5
  have L6 := p6.length_le
  have Md0_6 := InP.of qd0
  have Rd0_6 := Md0_6.row
  simp (maxSteps := 4000000) (disch := omega) only [ld_agg ag24 cs24 CB0_6, ld_agg ag28 cs28 Cw0_6, S, S1, S2, S3, S4, S5, ST, eq_self, reduceIte, reduceCtorEq, Nat.reduceEqDiff, Nat.reduceAdd]
  have hst0 := st_G Rd0_6.1 (at_new H6 (.cells [.int .i64 0, .slice none 0 0] 31 false)) rfl n0
  simp (maxSteps := 4000000) (disch := omega) only [alloc_G, hst0, set_new, ld_agg ag24 cs24 CB0_6, ld_agg ag28 cs28 Cw0_6, S, S1, S2, S3, S4, S5, ST, eq_self, reduceIte, reduceCtorEq, Nat.reduceEqDiff, Nat.reduceAdd]
  generalize hX0 : H6 ++ [AObj.cells [.int .i64 n0, d0] 31 false] = H7
  have p7 : H6 <+: H7 := by rw [← hX0]; exact List.prefix_append _ _
  have CX0_7 : H7[H6.length]? = some (.cells [.int .i64 n0, d0] 31 false) := by rw [← hX0]; exact at_new ..
  have Lx := at_lt CX0_7
  have Ra0_7 := Ra0_6.pre p7
  have Rw0_7 := Rw0_6.pre p7
  have Rd0_7 := Rd0_6.pre p7
  have Mw0_7 := Mw0_6.pre p7
  have Md0_7 := Md0_6.pre p7
  have CB0_7 := pre_at p7 CB0_6
  have Cw0_7 := pre_at p7 Cw0_6
  have L7 := p7.length_le
  try simp (maxSteps := 4000000) (disch := omega) only [ld_agg ag24 cs24 CB0_7, ld_agg ag28 cs28 Cw0_7, ld_agg ag31 cs31 CX0_7, S, S1, S2, S3, S4, S5, ST, eq_self, reduceIte, reduceCtorEq, Nat.reduceEqDiff, Nat.reduceAdd]
  refine CallH.by (WyI_c a1 a2 n0 d0 xs0 H7 Rd0_7.1 L0_big b0.1 bn0) ?_
  rintro _ H8 ⟨g0a, g0b, rfl, qg0, p8⟩
  have Ra0_8 := Ra0_7.pre p8
  have Rw0_8 := Rw0_7.pre p8
  have Rd0_8 := Rd0_7.pre p8
  have Mw0_8 := Mw0_7.pre p8
  have Md0_8 := Md0_7.pre p8
  have CB0_8 := pre_at p8 CB0_7
  have Cw0_8 := pre_at p8 Cw0_7
  have CX0_8 := pre_at p8 CX0_7
  have L8 := p8.length_le
  have Mg0_8 := qg0
  have Rg0_8 := Mg0_8.row
  have hstg0 := Rg0_8.store (at_new H8 (.cells [.slice none 0 0, .slice none 0 0] 28 false)) rfl
  simp (maxSteps := 4000000) (disch := omega) only [alloc_sp, hstg0, set_new, ld_agg ag24 cs24 CB0_8, ld_agg ag28 cs28 Cw0_8, ld_agg ag31 cs31 CX0_8, S, S1, S2, S3, S4, S5, ST, eq_self, reduceIte, reduceCtorEq, Nat.reduceEqDiff, Nat.reduceAdd]
  generalize hXg0 : H8 ++ [AObj.cells [g0a, g0b] 28 false] = H9
  have p9 : H8 <+: H9 := by rw [← hXg0]; exact List.prefix_append _ _
  have Cg0_9 : H9[H8.length]? = some (.cells [g0a, g0b] 28 false) := by rw [← hXg0]; exact at_new ..
  have Lxg0 := at_lt Cg0_9
  have Ra0_9 := Ra0_8.pre p9
  have Rw0_9 := Rw0_8.pre p9
  have Rd0_9 := Rd0_8.pre p9
  have Rg0_9 := Rg0_8.pre p9
  have Mw0_9 := Mw0_8.pre p9
  have Md0_9 := Md0_8.pre p9
  have Mg0_9 := Mg0_8.pre p9
  have CB0_9 := pre_at p9 CB0_8
  have Cw0_9 := pre_at p9 Cw0_8
  have CX0_9 := pre_at p9 CX0_8
  have L9 := p9.length_le
  try simp (maxSteps := 4000000) (disch := omega) only [ld_agg ag24 cs24 CB0_9, ld_agg ag28 cs28 Cw0_9, ld_agg ag31 cs31 CX0_9, ld_agg ag28 cs28 Cg0_9, S, S1, S2, S3, S4, S5, ST, eq_self, reduceIte, reduceCtorEq, Nat.reduceEqDiff, Nat.reduceAdd]
  have hR := ws_ok n0 xs0 a1 a2
  refine CallH.by (eqSpace_c g0a g0b w0a w0b _ _ _ _ H9 Rg0_9 Rw0_9 hR.1 (Nat.le_trans hR.2.1 (by decide)) hR.2.2) ?_
  rintro _ H10 ⟨rfl, p10⟩
  have Ra0_10 := Ra0_9.pre p10
  have Rw0_10 := Rw0_9.pre p10
  have Rd0_10 := Rd0_9.pre p10
  have Rg0_10 := Rg0_9.pre p10
  have Mw0_10 := Mw0_9.pre p10
  have Md0_10 := Md0_9.pre p10
  have Mg0_10 := Mg0_9.pre p10
  have CB0_10 := pre_at p10 CB0_9
  have Cw0_10 := pre_at p10 Cw0_9
  have CX0_10 := pre_at p10 CX0_9
  have Cg0_10 := pre_at p10 Cg0_9
  have L10 := p10.length_le
  simp (maxSteps := 4000000) (disch := omega) only [ld_agg ag24 cs24 CB0_10, ld_agg ag28 cs28 Cw0_10, ld_agg ag31 cs31 CX0_10, ld_agg ag28 cs28 Cg0_10, S, S1, S2, S3, S4, S5, ST, eq_self, reduceIte, reduceCtorEq, Nat.reduceEqDiff, Nat.reduceAdd]
  refine CallH.by (toGraph_c n0 v0 xs0 H10 Ra0_10.1 L0_big) ?_
  rintro _ H11 ⟨f0, rfl, qf0, p11⟩
  have Ra0_11 := Ra0_10.pre p11
  have Rw0_11 := Rw0_10.pre p11
  have Rd0_11 := Rd0_10.pre p11
  have Rg0_11 := Rg0_10.pre p11
  have Mw0_11 := Mw0_10.pre p11
  have Md0_11 := Md0_10.pre p11
  have Mg0_11 := Mg0_10.pre p11
  have CB0_11 := pre_at p11 CB0_10
  have Cw0_11 := pre_at p11 Cw0_10
  have CX0_11 := pre_at p11 CX0_10
  have Cg0_11 := pre_at p11 Cg0_10
  have L11 := p11.length_le
  have Mf0_11 := InP.of qf0
  have Rf0_11 := Mf0_11.row
  simp (maxSteps := 4000000) (disch := omega) only [ld_agg ag24 cs24 CB0_11, ld_agg ag28 cs28 Cw0_11, ld_agg ag31 cs31 CX0_11, ld_agg ag28 cs28 Cg0_11, S, S1, S2, S3, S4, S5, ST, eq_self, reduceIte, reduceCtorEq, Nat.reduceEqDiff, Nat.reduceAdd]
  refine CallH.by (eqGraph_c n0 n0 d0 f0 _ _ H11 Rd0_11.1 Rf0_11.1 L0_big) ?_
  rintro _ H12 ⟨rfl, p12⟩
  have Ra0_12 := Ra0_11.pre p12
  have Rw0_12 := Rw0_11.pre p12
  have Rd0_12 := Rd0_11.pre p12
  have Rg0_12 := Rg0_11.pre p12
  have Rf0_12 := Rf0_11.pre p12
  have Mw0_12 := Mw0_11.pre p12
  have Md0_12 := Md0_11.pre p12
  have Mg0_12 := Mg0_11.pre p12
  have Mf0_12 := Mf0_11.pre p12
  have CB0_12 := pre_at p12 CB0_11
  have Cw0_12 := pre_at p12 Cw0_11
  have CX0_12 := pre_at p12 CX0_11
  have Cg0_12 := pre_at p12 Cg0_11
  have L12 := p12.length_le
  simp (maxSteps := 4000000) (disch := omega) only [ld_agg ag24 cs24 CB0_12, ld_agg ag28 cs28 Cw0_12, ld_agg ag31 cs31 CX0_12, ld_agg ag28 cs28 Cg0_12, S, S1, S2, S3, S4, S5, ST, eq_self, reduceIte, reduceCtorEq, Nat.reduceEqDiff, Nat.reduceAdd]
  refine CallH.by (markGraph_B n0 d0 _ _ _ _ H12 Md0_12 L0_big (by omega) (by omega)) ?_
  rintro _ H14 ⟨rfl, H13, n_13, e13, p14⟩
  have L13 := Nat.le_of_eq e13.1.symm
  have Ra0_13 := Ra0_12.keep e13 (by omega)
  have Mw0_13 := Mw0_12.keep e13 (by omega)
  have Rw0_13 := Mw0_13.row
  have Mg0_13 := Mg0_12.keep e13 (by omega)
  have Rg0_13 := Mg0_13.row
  have CB0_13 := e13.2 _ _ (by omega) CB0_12
  have Cw0_13 := e13.2 _ _ (by omega) Cw0_12
  have CX0_13 := e13.2 _ _ (by omega) CX0_12
  have Cg0_13 := e13.2 _ _ (by omega) Cg0_12
  have Ra0_14 := Ra0_13.pre p14
  have Rw0_14 := Rw0_13.pre p14
  have Rg0_14 := Rg0_13.pre p14
  have Mw0_14 := Mw0_13.pre p14
  have Mg0_14 := Mg0_13.pre p14
  have CB0_14 := pre_at p14 CB0_13
  have Cw0_14 := pre_at p14 Cw0_13
  have CX0_14 := pre_at p14 CX0_13
  have Cg0_14 := pre_at p14 Cg0_13
  have L14 := p14.length_le
  simp (maxSteps := 4000000) (disch := omega) only [ld_agg ag24 cs24 CB0_14, ld_agg ag28 cs28 Cw0_14, ld_agg ag31 cs31 CX0_14, ld_agg ag28 cs28 Cg0_14, S, S1, S2, S3, S4, S5, ST, eq_self, reduceIte, reduceCtorEq, Nat.reduceEqDiff, Nat.reduceAdd]
  refine brD.intro (fun g => absurd g (by omega)) (fun gk => ?_)
  simp (maxSteps := 4000000) (disch := omega) only [gk, ld_agg ag24 cs24 CB0_14, ld_agg ag28 cs28 Cw0_14, ld_agg ag31 cs31 CX0_14, ld_agg ag28 cs28 Cg0_14, S, S1, S2, S3, S4, S5, ST, eq_self, reduceIte, reduceCtorEq, Nat.reduceEqDiff, Nat.reduceAdd]
  refine CallH.by (eqSpace_c g0a g0b w0a w0b _ _ _ _ H14 Rg0_14 Rw0_14 hR.1 (Nat.le_trans hR.2.1 (by decide)) hR.2.2) ?_
  rintro _ H15 ⟨rfl, p15⟩
  have Ra0_15 := Ra0_14.pre p15
  have Rw0_15 := Rw0_14.pre p15
  have Rg0_15 := Rg0_14.pre p15
  have Mw0_15 := Mw0_14.pre p15
  have Mg0_15 := Mg0_14.pre p15
  have CB0_15 := pre_at p15 CB0_14
  have Cw0_15 := pre_at p15 Cw0_14
  have CX0_15 := pre_at p15 CX0_14
  have Cg0_15 := pre_at p15 Cg0_14
  have L15 := p15.length_le
  simp (maxSteps := 4000000) (disch := omega) only [ld_agg ag24 cs24 CB0_15, ld_agg ag28 cs28 Cw0_15, ld_agg ag31 cs31 CX0_15, ld_agg ag28 cs28 Cg0_15, S, S1, S2, S3, S4, S5, ST, eq_self, reduceIte, reduceCtorEq, Nat.reduceEqDiff, Nat.reduceAdd]
  try simp (maxSteps := 4000000) (disch := omega) only [gk, ld_agg ag24 cs24 CB0_15, ld_agg ag28 cs28 Cw0_15, ld_agg ag31 cs31 CX0_15, ld_agg ag28 cs28 Cg0_15, S, S1, S2, S3, S4, S5, ST, eq_self, reduceIte, reduceCtorEq, Nat.reduceEqDiff, Nat.reduceAdd]
  refine CallH.by (markSpace_B g0a g0b _ _ 1 _ _ H15 Mg0_15 hR.1 hR.2.1 hR.2.2 (by omega) (by omega)) ?_
  rintro _ H17 ⟨rfl, H16, n_16, e16, p17⟩
  have L16 := Nat.le_of_eq e16.1.symm
  have Ra0_16 := Ra0_15.keep e16 (by omega)
  have Mw0_16 := Mw0_15.keep e16 (by omega)
  have Rw0_16 := Mw0_16.row
  have CB0_16 := e16.2 _ _ (by omega) CB0_15
  have Cw0_16 := e16.2 _ _ (by omega) Cw0_15
  have CX0_16 := e16.2 _ _ (by omega) CX0_15
  have Cg0_16 := e16.2 _ _ (by omega) Cg0_15
  have Mg0_16 := n_16
  have Rg0_16 := n_16.row
  have Ra0_17 := Ra0_16.pre p17
  have Rw0_17 := Rw0_16.pre p17
  have Rg0_17 := Rg0_16.pre p17
  have Mw0_17 := Mw0_16.pre p17
  have Mg0_17 := Mg0_16.pre p17
  have CB0_17 := pre_at p17 CB0_16
  have Cw0_17 := pre_at p17 Cw0_16
  have CX0_17 := pre_at p17 CX0_16
  have Cg0_17 := pre_at p17 Cg0_16
  have L17 := p17.length_le
  simp (maxSteps := 4000000) (disch := omega) only [ld_agg ag24 cs24 CB0_17, ld_agg ag28 cs28 Cw0_17, ld_agg ag31 cs31 CX0_17, ld_agg ag28 cs28 Cg0_17, S, S1, S2, S3, S4, S5, ST, eq_self, reduceIte, reduceCtorEq, Nat.reduceEqDiff, Nat.reduceAdd]
  refine CallH.by (heldSpace_c g0a g0b _ _ 1 H17 Rg0_17 hR.1 hR.2.1 hR.2.2 (by omega)) ?_
  rintro _ H18 ⟨rfl, p18⟩
  have Ra0_18 := Ra0_17.pre p18
  have Rw0_18 := Rw0_17.pre p18
  have Rg0_18 := Rg0_17.pre p18
  have Mw0_18 := Mw0_17.pre p18
  have Mg0_18 := Mg0_17.pre p18
  have CB0_18 := pre_at p18 CB0_17
  have Cw0_18 := pre_at p18 Cw0_17
  have CX0_18 := pre_at p18 CX0_17
  have Cg0_18 := pre_at p18 Cg0_17
  have L18 := p18.length_le
  simp (maxSteps := 4000000) (disch := omega) only [ld_agg ag24 cs24 CB0_18, ld_agg ag28 cs28 Cw0_18, ld_agg ag31 cs31 CX0_18, ld_agg ag28 cs28 Cg0_18, S, S1, S2, S3, S4, S5, ST, eq_self, reduceIte, reduceCtorEq, Nat.reduceEqDiff, Nat.reduceAdd]
  refine brD.intro (fun g => absurd g (by omega)) (fun _ => ?_)
  simp (maxSteps := 4000000) (disch := omega) only [ld_agg ag24 cs24 CB0_18, ld_agg ag28 cs28 Cw0_18, ld_agg ag31 cs31 CX0_18, ld_agg ag28 cs28 Cg0_18, S, S1, S2, S3, S4, S5, ST, eq_self, reduceIte, reduceCtorEq, Nat.reduceEqDiff, Nat.reduceAdd]
  refine CallH.by (toGraph_c n0 v0 xs0 H18 Ra0_18.1 L0_big) ?_
  rintro _ H19 ⟨e0, rfl, qe0, p19⟩
  have Ra0_19 := Ra0_18.pre p19
  have Rw0_19 := Rw0_18.pre p19
  have Rg0_19 := Rg0_18.pre p19
  have Mw0_19 := Mw0_18.pre p19
  have Mg0_19 := Mg0_18.pre p19
  have CB0_19 := pre_at p19 CB0_18
  have Cw0_19 := pre_at p19 Cw0_18
  have CX0_19 := pre_at p19 CX0_18
  have Cg0_19 := pre_at p19 Cg0_18
  have L19 := p19.length_le
  have Me0_19 := InP.of qe0
  have Re0_19 := Me0_19.row
  simp (maxSteps := 4000000) (disch := omega) only [ld_agg ag24 cs24 CB0_19, ld_agg ag28 cs28 Cw0_19, ld_agg ag31 cs31 CX0_19, ld_agg ag28 cs28 Cg0_19, S, S1, S2, S3, S4, S5, ST, eq_self, reduceIte, reduceCtorEq, Nat.reduceEqDiff, Nat.reduceAdd]
  refine CallH.by (WyI_c a1 a2 n0 e0 xs0 H19 Re0_19.1 L0_big b0.1 bn0) ?_
  rintro _ H20 ⟨h0a, h0b, rfl, qh0, p20⟩
  have Ra0_20 := Ra0_19.pre p20
  have Rw0_20 := Rw0_19.pre p20
  have Rg0_20 := Rg0_19.pre p20
  have Re0_20 := Re0_19.pre p20
  have Mw0_20 := Mw0_19.pre p20
  have Mg0_20 := Mg0_19.pre p20
  have Me0_20 := Me0_19.pre p20
  have CB0_20 := pre_at p20 CB0_19
  have Cw0_20 := pre_at p20 Cw0_19
  have CX0_20 := pre_at p20 CX0_19
  have Cg0_20 := pre_at p20 Cg0_19
  have L20 := p20.length_le
  have Mh0_20 := qh0
  have Rh0_20 := Mh0_20.row
  have hsth0 := Rh0_20.store (at_new H20 (.cells [.slice none 0 0, .slice none 0 0] 28 false)) rfl
  simp (maxSteps := 4000000) (disch := omega) only [alloc_sp, hsth0, set_new, ld_agg ag24 cs24 CB0_20, ld_agg ag28 cs28 Cw0_20, ld_agg ag31 cs31 CX0_20, ld_agg ag28 cs28 Cg0_20, S, S1, S2, S3, S4, S5, ST, eq_self, reduceIte, reduceCtorEq, Nat.reduceEqDiff, Nat.reduceAdd]
  generalize hXh0 : H20 ++ [AObj.cells [h0a, h0b] 28 false] = H21
  have p21 : H20 <+: H21 := by rw [← hXh0]; exact List.prefix_append _ _
  have Ch0_21 : H21[H20.length]? = some (.cells [h0a, h0b] 28 false) := by rw [← hXh0]; exact at_new ..
  have Lxh0 := at_lt Ch0_21
  have Ra0_21 := Ra0_20.pre p21
  have Rw0_21 := Rw0_20.pre p21
  have Rg0_21 := Rg0_20.pre p21
  have Re0_21 := Re0_20.pre p21
  have Rh0_21 := Rh0_20.pre p21
  have Mw0_21 := Mw0_20.pre p21
  have Mg0_21 := Mg0_20.pre p21
  have Me0_21 := Me0_20.pre p21
  have Mh0_21 := Mh0_20.pre p21
  have CB0_21 := pre_at p21 CB0_20
  have Cw0_21 := pre_at p21 Cw0_20
  have CX0_21 := pre_at p21 CX0_20
  have Cg0_21 := pre_at p21 Cg0_20
  have L21 := p21.length_le
  try simp (maxSteps := 4000000) (disch := omega) only [ld_agg ag24 cs24 CB0_21, ld_agg ag28 cs28 Cw0_21, ld_agg ag31 cs31 CX0_21, ld_agg ag28 cs28 Cg0_21, ld_agg ag28 cs28 Ch0_21, S, S1, S2, S3, S4, S5, ST, eq_self, reduceIte, reduceCtorEq, Nat.reduceEqDiff, Nat.reduceAdd]
  refine CallH.by (eqSpace_c h0a h0b w0a w0b _ _ _ _ H21 Rh0_21 Rw0_21 hR.1 (Nat.le_trans hR.2.1 (by decide)) hR.2.2) ?_
  rintro _ H22 ⟨rfl, p22⟩
  have Ra0_22 := Ra0_21.pre p22
  have Rw0_22 := Rw0_21.pre p22
  have Rg0_22 := Rg0_21.pre p22
  have Re0_22 := Re0_21.pre p22
  have Rh0_22 := Rh0_21.pre p22
  have Mw0_22 := Mw0_21.pre p22
  have Mg0_22 := Mg0_21.pre p22
  have Me0_22 := Me0_21.pre p22
  have Mh0_22 := Mh0_21.pre p22
  have CB0_22 := pre_at p22 CB0_21
  have Cw0_22 := pre_at p22 Cw0_21
  have CX0_22 := pre_at p22 CX0_21
  have Cg0_22 := pre_at p22 Cg0_21
  have Ch0_22 := pre_at p22 Ch0_21
  have L22 := p22.length_le
  simp (maxSteps := 4000000) (disch := omega) only [ld_agg ag24 cs24 CB0_22, ld_agg ag28 cs28 Cw0_22, ld_agg ag31 cs31 CX0_22, ld_agg ag28 cs28 Cg0_22, ld_agg ag28 cs28 Ch0_22, S, S1, S2, S3, S4, S5, ST, eq_self, reduceIte, reduceCtorEq, Nat.reduceEqDiff, Nat.reduceAdd]
  refine CallH.by (heldSpace_c g0a g0b _ _ 1 H22 Rg0_22 hR.1 hR.2.1 hR.2.2 (by omega)) ?_
  rintro _ H23 ⟨rfl, p23⟩
  have Ra0_23 := Ra0_22.pre p23
  have Rw0_23 := Rw0_22.pre p23
  have Rg0_23 := Rg0_22.pre p23
  have Re0_23 := Re0_22.pre p23
  have Rh0_23 := Rh0_22.pre p23
  have Mw0_23 := Mw0_22.pre p23
  have Mg0_23 := Mg0_22.pre p23
  have Me0_23 := Me0_22.pre p23
  have Mh0_23 := Mh0_22.pre p23
  have CB0_23 := pre_at p23 CB0_22
  have Cw0_23 := pre_at p23 Cw0_22
  have CX0_23 := pre_at p23 CX0_22
  have Cg0_23 := pre_at p23 Cg0_22
  have Ch0_23 := pre_at p23 Ch0_22
  have L23 := p23.length_le
  simp (maxSteps := 4000000) (disch := omega) only [ld_agg ag24 cs24 CB0_23, ld_agg ag28 cs28 Cw0_23, ld_agg ag31 cs31 CX0_23, ld_agg ag28 cs28 Cg0_23, ld_agg ag28 cs28 Ch0_23, S, S1, S2, S3, S4, S5, ST, eq_self, reduceIte, reduceCtorEq, Nat.reduceEqDiff, Nat.reduceAdd]
  refine brD.intro (fun g => absurd g (by omega)) (fun _ => ?_)
  simp (maxSteps := 4000000) (disch := omega) only [ld_agg ag24 cs24 CB0_23, ld_agg ag28 cs28 Cw0_23, ld_agg ag31 cs31 CX0_23, ld_agg ag28 cs28 Cg0_23, ld_agg ag28 cs28 Ch0_23, S, S1, S2, S3, S4, S5, ST, eq_self, reduceIte, reduceCtorEq, Nat.reduceEqDiff, Nat.reduceAdd]
  refine hQ _ _ _ ?_
  simp (maxSteps := 4000000) (disch := omega) only [ld_agg ag24 cs24 CB0_23, ld_agg ag28 cs28 Cw0_23, ld_agg ag31 cs31 CX0_23, ld_agg ag28 cs28 Cg0_23, ld_agg ag28 cs28 Ch0_23, S, S1, S2, S3, S4, S5, ST, eq_self, reduceIte, reduceCtorEq, Nat.reduceEqDiff, Nat.reduceAdd]
end Go.Proofs.Ytlfongfhbkefmaa.Ai
