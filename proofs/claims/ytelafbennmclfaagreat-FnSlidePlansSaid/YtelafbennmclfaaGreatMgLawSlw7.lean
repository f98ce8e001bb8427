/- Texts of this claim, joined: Dsl, Sls, EvenP, SlW, EvenQ, CfP, Even, Vin, Slw, ArB. -/
import Derived.Test.YtelafbennmclfaaGreatProg
import Derived.KernelRfl
import Derived.Test.YtelafbennmclfaaGreatMgLawSlw6
set_option linter.unusedVariables false
set_option linter.unusedSimpArgs false
namespace Go.Proofs.YtelafbennmclfaaGreat.Ai
open Go
def ords34 : List (Nat × List (Nat × Bool)) := [(5,[(0,false),(1,false),(2,false),(3,false),(4,false),(5,true),(6,true),(7,true),(8,false),(9,false)])]
def cd34 : Cd := (.seq (.reg [⟨⟨some 2,Op.alloc 26,none⟩,[]⟩,
  ⟨⟨some 3,Op.assign (Operand.const (Value.slice none 0 0)),none⟩,[]⟩,
  ⟨⟨some 4,Op.assign (Operand.const (Value.slice none 0 0)),none⟩,[]⟩]) (.seq (.reg [⟨⟨some 12,Op.move (Operand.tmp 0),none⟩,[]⟩,
  ⟨⟨some 13,Op.build 71 #[(0,(Operand.tmp 12))],none⟩,[]⟩,
  ⟨⟨some 14,Op.box 71 (Operand.tmp 13),none⟩,[]⟩,
  ⟨⟨some 5,Op.assign (Operand.tmp 14),none⟩,[]⟩]) (.seq (.reg [⟨⟨some 15,Op.move (Operand.tmp 5),none⟩,[]⟩,
  ⟨⟨some 16,Op.call { callee := (Callee.value (Operand.func 48)),args := #[(Operand.tmp 15)],argTypes := #[68] },none⟩,[]⟩,
  ⟨⟨some 6,Op.alloc 26,none⟩,[]⟩,
  ⟨⟨none,Op.store 26 (Operand.tmp 6) (Operand.tmp 16),none⟩,[]⟩]) (.seq (.reg [⟨⟨some 17,Op.move (Operand.tmp 5),none⟩,[]⟩,
  ⟨⟨some 18,Op.fieldAddr 26 (Operand.tmp 6) 0,none⟩,[]⟩,
  ⟨⟨some 19,Op.load 3 (Operand.tmp 18),none⟩,[]⟩,
  ⟨⟨some 20,Op.call { callee := (Callee.value (Operand.func 50)),args := #[(Operand.tmp 19),(Operand.const (Value.int IntKind.i64 8))],argTypes := #[3,3] },none⟩,[]⟩,
  ⟨⟨some 21,Op.call { callee := (Callee.value (Operand.func 49)),args := #[(Operand.tmp 17),(Operand.tmp 20)],argTypes := #[68,3] },none⟩,[]⟩,
  ⟨⟨some 7,Op.assign (Operand.tmp 21),none⟩,[]⟩]) (.seq (.seq (.reg [⟨⟨some 22,Op.move (Operand.tmp 5),none⟩,[]⟩,
  ⟨⟨some 23,Op.call { callee := (Callee.value (Operand.func 53)),args := #[(Operand.tmp 22),(Operand.const (Value.int IntKind.i64 2))],argTypes := #[68,3] },none⟩,[]⟩]) (.cond (Operand.tmp 23) (.seq (.reg [⟨⟨some 24,Op.load 26 (Operand.tmp 6),none⟩,[]⟩,
  ⟨⟨some 25,Op.move (Operand.tmp 7),none⟩,[]⟩,
  ⟨⟨some 26,Op.move (Operand.tmp 5),none⟩,[]⟩,
  ⟨⟨some 27,Op.fieldAddr 26 (Operand.tmp 6) 0,none⟩,[]⟩,
  ⟨⟨some 28,Op.load 3 (Operand.tmp 27),none⟩,[]⟩,
  ⟨⟨some 29,Op.call { callee := (Callee.value (Operand.func 50)),args := #[(Operand.tmp 28),(Operand.const (Value.int IntKind.i64 8))],argTypes := #[3,3] },none⟩,[⟨some 24,Op.load 26 (Operand.tmp 6),none⟩]⟩,
  ⟨⟨some 30,Op.call { callee := (Callee.value (Operand.func 49)),args := #[(Operand.tmp 26),(Operand.tmp 29)],argTypes := #[68,3] },none⟩,[⟨some 24,Op.load 26 (Operand.tmp 6),none⟩]⟩,
  ⟨⟨none,Op.store 26 (Operand.tmp 2) (Operand.tmp 24),none⟩,[]⟩,
  ⟨⟨some 3,Op.assign (Operand.tmp 25),none⟩,[]⟩,
  ⟨⟨some 4,Op.assign (Operand.tmp 30),none⟩,[]⟩]) .ret) .skip)) (.seq (.reg [⟨⟨some 31,Op.move (Operand.tmp 7),none⟩,[]⟩,
  ⟨⟨some 32,Op.call { callee := (Callee.value (Operand.func 57)),args := #[(Operand.tmp 31)],argTypes := #[27] },none⟩,[]⟩,
  ⟨⟨some 8,Op.assign (Operand.tmp 32),none⟩,[]⟩]) (.seq (.seq (.reg [⟨⟨some 33,Op.move (Operand.tmp 5),none⟩,[]⟩,
  ⟨⟨some 34,Op.call { callee := (Callee.value (Operand.func 51)),args := #[(Operand.tmp 33),(Operand.const (Value.int IntKind.i64 8))],argTypes := #[68,3] },none⟩,[]⟩,
  ⟨⟨some 9,Op.assign (Operand.tmp 34),none⟩,[]⟩]) (.block 0 (.loop (.seq (.seq (.reg [⟨⟨some 35,Op.move (Operand.tmp 9),none⟩,[]⟩,
  ⟨⟨some 36,Op.binOp BinOp.gtr 3 (Operand.tmp 35) (Operand.const (Value.int IntKind.i64 0)) 3,none⟩,[]⟩,
  ⟨⟨some 37,Op.move (Operand.tmp 36),none⟩,[]⟩,
  ⟨⟨some 38,Op.load 26 (Operand.tmp 6),some (37,true)⟩,[]⟩,
  ⟨⟨some 39,Op.move (Operand.tmp 8),some (37,true)⟩,[]⟩,
  ⟨⟨some 40,Op.call { callee := (Callee.value (Operand.func 42)),args := #[(Operand.tmp 38),(Operand.tmp 39)],argTypes := #[26,27] },some (37,true)⟩,[]⟩,
  ⟨⟨some 41,Op.pick (Operand.tmp 37) (Operand.tmp 40) (Operand.const (Value.bool false)),none⟩,[]⟩]) (.cond (Operand.tmp 41) .skip (.exit 0))) (.seq (.block 1 (.seq (.reg [⟨⟨some 45,Op.load 26 (Operand.tmp 6),none⟩,[]⟩,
  ⟨⟨some 46,Op.move (Operand.tmp 8),none⟩,[]⟩,
  ⟨⟨some 47,Op.call { callee := (Callee.value (Operand.func 89)),args := #[(Operand.tmp 45),(Operand.tmp 46),(Operand.const (Value.bool true))],argTypes := #[26,27,4] },none⟩,[]⟩,
  ⟨⟨some 44,Op.move (Operand.tmp 47),none⟩,[]⟩,
  ⟨⟨some 48,Op.extract (Operand.tmp 44) 0,none⟩,[]⟩,
  ⟨⟨some 49,Op.extract (Operand.tmp 44) 1,none⟩,[]⟩,
  ⟨⟨some 10,Op.assign (Operand.tmp 48),none⟩,[]⟩,
  ⟨⟨some 11,Op.assign (Operand.tmp 49),none⟩,[]⟩]) (.seq (.reg [⟨⟨some 50,Op.move (Operand.tmp 10),none⟩,[]⟩,
  ⟨⟨some 51,Op.call { callee := (Callee.builtin Builtin.len),args := #[(Operand.tmp 50)],argTypes := #[43] },none⟩,[]⟩,
  ⟨⟨some 52,Op.binOp BinOp.gtr 3 (Operand.tmp 51) (Operand.const (Value.int IntKind.i64 0)) 3,none⟩,[]⟩]) (.cond (Operand.tmp 52) (.reg [⟨⟨some 53,Op.move (Operand.tmp 10),none⟩,[]⟩,
  ⟨⟨some 54,Op.move (Operand.tmp 5),none⟩,[]⟩,
  ⟨⟨some 55,Op.move (Operand.tmp 10),none⟩,[]⟩,
  ⟨⟨some 56,Op.call { callee := (Callee.builtin Builtin.len),args := #[(Operand.tmp 55)],argTypes := #[43] },none⟩,[]⟩,
  ⟨⟨some 57,Op.call { callee := (Callee.value (Operand.func 51)),args := #[(Operand.tmp 54),(Operand.tmp 56)],argTypes := #[68,3] },none⟩,[]⟩,
  ⟨⟨some 58,Op.indexAddr 43 (Operand.tmp 53) (Operand.tmp 57),none⟩,[]⟩,
  ⟨⟨some 59,Op.load 27 (Operand.tmp 58),none⟩,[]⟩,
  ⟨⟨some 8,Op.assign (Operand.tmp 59),none⟩,[]⟩]) .skip)))) (.reg [⟨⟨some 42,Op.move (Operand.tmp 9),none⟩,[]⟩,
  ⟨⟨some 43,Op.binOp BinOp.sub 3 (Operand.tmp 42) (Operand.const (Value.int IntKind.i64 1)) 3,none⟩,[]⟩,
  ⟨⟨some 9,Op.assign (Operand.tmp 43),none⟩,[]⟩])))))) (.seq (.reg [⟨⟨some 60,Op.load 26 (Operand.tmp 6),none⟩,[]⟩,
  ⟨⟨some 61,Op.move (Operand.tmp 7),none⟩,[]⟩,
  ⟨⟨some 62,Op.move (Operand.tmp 8),none⟩,[]⟩,
  ⟨⟨none,Op.store 26 (Operand.tmp 2) (Operand.tmp 60),none⟩,[]⟩,
  ⟨⟨some 3,Op.assign (Operand.tmp 61),none⟩,[]⟩,
  ⟨⟨some 4,Op.assign (Operand.tmp 62),none⟩,[]⟩]) .ret))))))))
theorem sl34 : slim Tryz.f34.ntmps ords34 (Tryz.f34.body.getD .skip) = some cd34 := by kernel_rfl
set_option maxRecDepth 20000 in
theorem in34 {args : List Value} {H : AH} {R : Value → AH → Prop} (hl : args.length = 1) (h : ∀ (Q : Exit → Sl → AH → Prop),(∀ e s H,endA Tryz.prog [ResultVar.cell 2 26,ResultVar.tmp 3,ResultVar.tmp 4] R e s H → Q e s H) → wpC Tryz.prog cd34 Q (enterA args) H) : ACalls Tryz.prog 34 args H R :=
  ACalls.intro (by kernel_rfl) Tryz.func34 rfl (by kernel_rfl) sl34 hl (of_decide_eq_true (by kernel_rfl)) (by kernel_rfl) h
def ords6 : List (Nat × List (Nat × Bool)) := []
def cd6 : Cd := (.seq (.reg [⟨⟨some 2,Op.alloc 26,none⟩,[]⟩,
  ⟨⟨some 3,Op.assign (Operand.const (Value.slice none 0 0)),none⟩,[]⟩,
  ⟨⟨some 4,Op.assign (Operand.const (Value.slice none 0 0)),none⟩,[]⟩]) (.seq (.reg [⟨⟨some 5,Op.move (Operand.tmp 0),none⟩,[]⟩,
  ⟨⟨some 6,Op.call { callee := (Callee.value (Operand.func 34)),args := #[(Operand.tmp 5)],argTypes := #[22] },none⟩,[]⟩,
  ⟨⟨some 7,Op.extract (Operand.tmp 6) 0,none⟩,[]⟩,
  ⟨⟨some 8,Op.extract (Operand.tmp 6) 1,none⟩,[]⟩,
  ⟨⟨some 9,Op.extract (Operand.tmp 6) 2,none⟩,[]⟩,
  ⟨⟨none,Op.store 26 (Operand.tmp 2) (Operand.tmp 7),none⟩,[]⟩,
  ⟨⟨some 3,Op.assign (Operand.tmp 8),none⟩,[]⟩,
  ⟨⟨some 4,Op.assign (Operand.tmp 9),none⟩,[]⟩]) .ret))
theorem sl6 : slim Tryz.f6.ntmps ords6 (Tryz.f6.body.getD .skip) = some cd6 := by kernel_rfl
set_option maxRecDepth 20000 in
theorem in6 {args : List Value} {H : AH} {R : Value → AH → Prop} (hl : args.length = 1) (h : ∀ (Q : Exit → Sl → AH → Prop),(∀ e s H,endA Tryz.prog [ResultVar.cell 2 26,ResultVar.tmp 3,ResultVar.tmp 4] R e s H → Q e s H) → wpC Tryz.prog cd6 Q (enterA args) H) : ACalls Tryz.prog 6 args H R :=
  ACalls.intro (by kernel_rfl) Tryz.func6 rfl (by kernel_rfl) sl6 hl (of_decide_eq_true (by kernel_rfl)) (by kernel_rfl) h
def ords54 : List (Nat × List (Nat × Bool)) := []
def cd54 : Cd := (.seq (.reg [⟨⟨some 3,Op.box 26 (Operand.tmp 1),none⟩,[]⟩,
  ⟨⟨some 4,Op.assign (Operand.const (Value.int IntKind.i64 0)),none⟩,[]⟩]) (.seq (.seq (.reg [⟨⟨some 5,Op.fieldAddr 26 (Operand.tmp 3) 0,none⟩,[]⟩,
  ⟨⟨some 6,Op.load 3 (Operand.tmp 5),none⟩,[]⟩,
  ⟨⟨some 7,Op.binOp BinOp.lss 3 (Operand.tmp 6) (Operand.const (Value.int IntKind.i64 1)) 3,none⟩,[]⟩,
  ⟨⟨some 8,Op.move (Operand.tmp 7),none⟩,[]⟩,
  ⟨⟨some 9,Op.fieldAddr 26 (Operand.tmp 3) 0,some (8,false)⟩,[]⟩,
  ⟨⟨some 10,Op.load 3 (Operand.tmp 9),some (8,false)⟩,[]⟩,
  ⟨⟨some 11,Op.binOp BinOp.gtr 3 (Operand.tmp 10) (Operand.const (Value.int IntKind.i64 8)) 3,some (8,false)⟩,[]⟩,
  ⟨⟨some 12,Op.pick (Operand.tmp 8) (Operand.const (Value.bool true)) (Operand.tmp 11),none⟩,[]⟩,
  ⟨⟨some 13,Op.move (Operand.tmp 12),none⟩,[]⟩,
  ⟨⟨some 14,Op.move (Operand.tmp 0),some (13,false)⟩,[]⟩,
  ⟨⟨some 15,Op.call { callee := (Callee.value (Operand.func 53)),args := #[(Operand.tmp 14),(Operand.const (Value.int IntKind.i64 24))],argTypes := #[68,3] },some (13,false)⟩,[]⟩,
  ⟨⟨some 16,Op.pick (Operand.tmp 13) (Operand.const (Value.bool true)) (Operand.tmp 15),none⟩,[]⟩]) (.cond (Operand.tmp 16) (.seq (.reg [⟨⟨some 17,Op.move (Operand.tmp 0),none⟩,[]⟩,
  ⟨⟨some 18,Op.buildSlice 27 4 #[(0,(Operand.const (Value.int IntKind.i64 (-1)))),(1,(Operand.const (Value.int IntKind.i64 0))),(2,(Operand.const (Value.int IntKind.i64 8))),(3,(Operand.const (Value.int IntKind.i64 4611686018427387904)))],none⟩,[]⟩,
  ⟨⟨some 19,Op.call { callee := (Callee.value (Operand.func 96)),args := #[(Operand.tmp 17),(Operand.tmp 18)],argTypes := #[68,27] },none⟩,[]⟩,
  ⟨⟨some 4,Op.assign (Operand.tmp 19),none⟩,[]⟩]) .ret) .skip)) (.seq (.reg [⟨⟨some 20,Op.move (Operand.tmp 0),none⟩,[]⟩,
  ⟨⟨some 21,Op.fieldAddr 26 (Operand.tmp 3) 0,none⟩,[]⟩,
  ⟨⟨some 22,Op.load 3 (Operand.tmp 21),none⟩,[]⟩,
  ⟨⟨some 23,Op.call { callee := (Callee.value (Operand.func 51)),args := #[(Operand.tmp 20),(Operand.tmp 22)],argTypes := #[68,3] },none⟩,[]⟩,
  ⟨⟨some 4,Op.assign (Operand.tmp 23),none⟩,[]⟩]) .ret)))
theorem sl54 : slim Tryz.f54.ntmps ords54 (Tryz.f54.body.getD .skip) = some cd54 := by kernel_rfl
theorem in54 {args : List Value} {H : AH} {R : Value → AH → Prop} (hl : args.length = 2) (h : ∀ (Q : Exit → Sl → AH → Prop),(∀ e s H,endA Tryz.prog [ResultVar.tmp 4] R e s H → Q e s H) → wpC Tryz.prog cd54 Q (enterA args) H) : ACalls Tryz.prog 54 args H R :=
  ACalls.intro (by kernel_rfl) Tryz.func54 rfl (by kernel_rfl) sl54 hl (of_decide_eq_true (by kernel_rfl)) (by kernel_rfl) h
def ords11 : List (Nat × List (Nat × Bool)) := []
def cd11 : Cd := (.seq (.reg [⟨⟨some 2,Op.alloc 26,none⟩,[]⟩,
  ⟨⟨some 3,Op.assign (Operand.const (Value.slice none 0 0)),none⟩,[]⟩,
  ⟨⟨some 4,Op.assign (Operand.const (Value.slice none 0 0)),none⟩,[]⟩]) (.seq (.reg [⟨⟨some 12,Op.move (Operand.tmp 0),none⟩,[]⟩,
  ⟨⟨some 13,Op.build 71 #[(0,(Operand.tmp 12))],none⟩,[]⟩,
  ⟨⟨some 14,Op.box 71 (Operand.tmp 13),none⟩,[]⟩,
  ⟨⟨some 5,Op.assign (Operand.tmp 14),none⟩,[]⟩]) (.seq (.reg [⟨⟨some 15,Op.move (Operand.tmp 5),none⟩,[]⟩,
  ⟨⟨some 16,Op.call { callee := (Callee.value (Operand.func 48)),args := #[(Operand.tmp 15)],argTypes := #[68] },none⟩,[]⟩,
  ⟨⟨some 6,Op.alloc 26,none⟩,[]⟩,
  ⟨⟨none,Op.store 26 (Operand.tmp 6) (Operand.tmp 16),none⟩,[]⟩]) (.seq (.reg [⟨⟨some 17,Op.move (Operand.tmp 5),none⟩,[]⟩,
  ⟨⟨some 18,Op.fieldAddr 26 (Operand.tmp 6) 0,none⟩,[]⟩,
  ⟨⟨some 19,Op.load 3 (Operand.tmp 18),none⟩,[]⟩,
  ⟨⟨some 20,Op.call { callee := (Callee.value (Operand.func 50)),args := #[(Operand.tmp 19),(Operand.const (Value.int IntKind.i64 8))],argTypes := #[3,3] },none⟩,[]⟩,
  ⟨⟨some 21,Op.call { callee := (Callee.value (Operand.func 49)),args := #[(Operand.tmp 17),(Operand.tmp 20)],argTypes := #[68,3] },none⟩,[]⟩,
  ⟨⟨some 7,Op.assign (Operand.tmp 21),none⟩,[]⟩]) (.seq (.reg [⟨⟨some 22,Op.buildSlice 27 0 #[],none⟩,[]⟩,
  ⟨⟨some 8,Op.assign (Operand.tmp 22),none⟩,[]⟩]) (.seq (.seq (.reg [⟨⟨some 23,Op.load 26 (Operand.tmp 6),none⟩,[]⟩,
  ⟨⟨some 24,Op.move (Operand.tmp 7),none⟩,[]⟩,
  ⟨⟨some 25,Op.call { callee := (Callee.value (Operand.func 42)),args := #[(Operand.tmp 23),(Operand.tmp 24)],argTypes := #[26,27] },none⟩,[]⟩,
  ⟨⟨some 26,Op.unOp UnOp.not 4 (Operand.tmp 25),none⟩,[]⟩]) (.cond (Operand.tmp 26) (.seq (.reg [⟨⟨some 27,Op.load 26 (Operand.tmp 6),none⟩,[]⟩,
  ⟨⟨some 28,Op.move (Operand.tmp 7),none⟩,[]⟩,
  ⟨⟨some 29,Op.move (Operand.tmp 8),none⟩,[]⟩,
  ⟨⟨none,Op.store 26 (Operand.tmp 2) (Operand.tmp 27),none⟩,[]⟩,
  ⟨⟨some 3,Op.assign (Operand.tmp 28),none⟩,[]⟩,
  ⟨⟨some 4,Op.assign (Operand.tmp 29),none⟩,[]⟩]) .ret) .skip)) (.seq (.reg [⟨⟨some 30,Op.move (Operand.tmp 7),none⟩,[]⟩,
  ⟨⟨some 31,Op.call { callee := (Callee.value (Operand.func 46)),args := #[(Operand.tmp 30),(Operand.const (Value.int IntKind.i64 0))],argTypes := #[27,3] },none⟩,[]⟩,
  ⟨⟨some 9,Op.assign (Operand.tmp 31),none⟩,[]⟩]) (.seq (.seq (.reg [⟨⟨some 32,Op.move (Operand.tmp 5),none⟩,[]⟩,
  ⟨⟨some 33,Op.call { callee := (Callee.value (Operand.func 51)),args := #[(Operand.tmp 32),(Operand.const (Value.int IntKind.i64 6))],argTypes := #[68,3] },none⟩,[]⟩,
  ⟨⟨some 10,Op.assign (Operand.tmp 33),none⟩,[]⟩]) (.block 0 (.loop (.seq (.seq (.reg [⟨⟨some 34,Op.move (Operand.tmp 10),none⟩,[]⟩,
  ⟨⟨some 35,Op.binOp BinOp.gtr 3 (Operand.tmp 34) (Operand.const (Value.int IntKind.i64 0)) 3,none⟩,[]⟩]) (.cond (Operand.tmp 35) .skip (.exit 0))) (.seq (.block 1 (.seq (.reg [⟨⟨some 38,Op.load 26 (Operand.tmp 6),none⟩,[]⟩,
  ⟨⟨some 39,Op.move (Operand.tmp 9),none⟩,[]⟩,
  ⟨⟨some 40,Op.call { callee := (Callee.value (Operand.func 52)),args := #[(Operand.tmp 38),(Operand.tmp 39)],argTypes := #[26,3] },none⟩,[]⟩,
  ⟨⟨some 11,Op.assign (Operand.tmp 40),none⟩,[]⟩]) (.seq (.reg [⟨⟨some 41,Op.move (Operand.tmp 11),none⟩,[]⟩,
  ⟨⟨some 42,Op.call { callee := (Callee.builtin Builtin.len),args := #[(Operand.tmp 41)],argTypes := #[27] },none⟩,[]⟩,
  ⟨⟨some 43,Op.binOp BinOp.gtr 3 (Operand.tmp 42) (Operand.const (Value.int IntKind.i64 0)) 3,none⟩,[]⟩]) (.cond (Operand.tmp 43) (.seq (.reg [⟨⟨some 44,Op.move (Operand.tmp 11),none⟩,[]⟩,
  ⟨⟨some 45,Op.move (Operand.tmp 5),none⟩,[]⟩,
  ⟨⟨some 46,Op.move (Operand.tmp 11),none⟩,[]⟩,
  ⟨⟨some 47,Op.call { callee := (Callee.builtin Builtin.len),args := #[(Operand.tmp 46)],argTypes := #[27] },none⟩,[]⟩,
  ⟨⟨some 48,Op.call { callee := (Callee.value (Operand.func 51)),args := #[(Operand.tmp 45),(Operand.tmp 47)],argTypes := #[68,3] },none⟩,[]⟩,
  ⟨⟨some 49,Op.indexAddr 27 (Operand.tmp 44) (Operand.tmp 48),none⟩,[]⟩,
  ⟨⟨some 50,Op.load 3 (Operand.tmp 49),none⟩,[]⟩,
  ⟨⟨some 9,Op.assign (Operand.tmp 50),none⟩,[]⟩]) (.reg [⟨⟨some 51,Op.move (Operand.tmp 8),none⟩,[]⟩,
  ⟨⟨some 52,Op.move (Operand.tmp 9),none⟩,[]⟩,
  ⟨⟨some 53,Op.buildSlice 27 1 #[(0,(Operand.tmp 52))],none⟩,[]⟩,
  ⟨⟨some 54,Op.call { callee := (Callee.builtin Builtin.append),args := #[(Operand.tmp 51),(Operand.tmp 53)],argTypes := #[27,27] },none⟩,[]⟩,
  ⟨⟨some 8,Op.assign (Operand.tmp 54),none⟩,[]⟩])) .skip)))) (.reg [⟨⟨some 36,Op.move (Operand.tmp 10),none⟩,[]⟩,
  ⟨⟨some 37,Op.binOp BinOp.sub 3 (Operand.tmp 36) (Operand.const (Value.int IntKind.i64 1)) 3,none⟩,[]⟩,
  ⟨⟨some 10,Op.assign (Operand.tmp 37),none⟩,[]⟩])))))) (.seq (.seq (.reg [⟨⟨some 55,Op.move (Operand.tmp 5),none⟩,[]⟩,
  ⟨⟨some 56,Op.call { callee := (Callee.value (Operand.func 53)),args := #[(Operand.tmp 55),(Operand.const (Value.int IntKind.i64 10))],argTypes := #[68,3] },none⟩,[]⟩]) (.cond (Operand.tmp 56) (.reg [⟨⟨some 57,Op.move (Operand.tmp 8),none⟩,[]⟩,
  ⟨⟨some 58,Op.move (Operand.tmp 5),none⟩,[]⟩,
  ⟨⟨some 59,Op.load 26 (Operand.tmp 6),none⟩,[]⟩,
  ⟨⟨some 60,Op.call { callee := (Callee.value (Operand.func 54)),args := #[(Operand.tmp 58),(Operand.tmp 59)],argTypes := #[68,26] },none⟩,[]⟩,
  ⟨⟨some 61,Op.buildSlice 27 1 #[(0,(Operand.tmp 60))],none⟩,[]⟩,
  ⟨⟨some 62,Op.call { callee := (Callee.builtin Builtin.append),args := #[(Operand.tmp 57),(Operand.tmp 61)],argTypes := #[27,27] },none⟩,[]⟩,
  ⟨⟨some 8,Op.assign (Operand.tmp 62),none⟩,[]⟩]) .skip)) (.seq (.reg [⟨⟨some 63,Op.load 26 (Operand.tmp 6),none⟩,[]⟩,
  ⟨⟨some 64,Op.move (Operand.tmp 7),none⟩,[]⟩,
  ⟨⟨some 65,Op.move (Operand.tmp 8),none⟩,[]⟩,
  ⟨⟨none,Op.store 26 (Operand.tmp 2) (Operand.tmp 63),none⟩,[]⟩,
  ⟨⟨some 3,Op.assign (Operand.tmp 64),none⟩,[]⟩,
  ⟨⟨some 4,Op.assign (Operand.tmp 65),none⟩,[]⟩]) .ret))))))))))
theorem sl11 : slim Tryz.f11.ntmps ords11 (Tryz.f11.body.getD .skip) = some cd11 := by kernel_rfl
set_option maxRecDepth 20000 in
theorem in11 {args : List Value} {H : AH} {R : Value → AH → Prop} (hl : args.length = 1) (h : ∀ (Q : Exit → Sl → AH → Prop),(∀ e s H,endA Tryz.prog [ResultVar.cell 2 26,ResultVar.tmp 3,ResultVar.tmp 4] R e s H → Q e s H) → wpC Tryz.prog cd11 Q (enterA args) H) : ACalls Tryz.prog 11 args H R :=
  ACalls.intro (by kernel_rfl) Tryz.func11 rfl (by kernel_rfl) sl11 hl (of_decide_eq_true (by kernel_rfl)) (by kernel_rfl) h
end Go.Proofs.YtelafbennmclfaaGreat.Ai
namespace Go.Proofs.YtelafbennmclfaaGreat.Ai
open Go Go.RowKit
def LsOk (p : List Int) : Prop := p.length ≤ 30 ∧ ∀ y ∈ p,I64 y
theorem row_keeps {e : TypeId} {H H' : AH} {o : Nat} {v : Value} {xs : List Int} (h : Row e H v xs) (hv : v = .slice none 0 0 ∨ rowO v ≠ o) (hk : Keeps o H H') : Row e H' v xs := by
  rcases hv with e1 | e1
  · rcases h with z | ⟨_,_,_,_,z,_⟩
    · exact .inl z
    · rw [e1] at z; cases z
  · exact h.mono fun y hy => hk.2 _ _ e1 hy
theorem rowP_keeps {e : TypeId} {H H' : AH} {o : Nat} {v : Value} {xs : List (Int × Int)} (h : RowP e H v xs) (hv : v = .slice none 0 0 ∨ rowO v ≠ o) (hk : Keeps o H H') : RowP e H' v xs := by
  rcases hv with e1 | e1
  · exact .inl ⟨e1,h.nilv e1⟩
  · exact h.mono fun y hy => hk.2 _ _ e1 hy
structure SlSt (H : AH) (o gp : Nat) (n : Int) (w : Value) (es : List (Int × Int)) (a : Value) (p : List Int) (v : Value) (us : List Value) (N : Nat) (K : AH) : Prop where
  eo : o = H.length + 1
  c0 : K[H.length]? = some (.cells [.int .i64 0,.slice none 0 0] 26 false)
  cg : K[gp]? = some (.cells [.int .i64 n,w] 26 false)
  gp2 : H.length + 2 ≤ gp
  rw_ : RowP 53 K w es
  lw : w = .slice none 0 0 ∨ H.length + 2 ≤ rowO w
  ra : Row 3 K a p
  la : a = .slice none 0 0 ∨ H.length + 2 ≤ rowO a
  cr : Cur K o v us N
  pr : H <+: K
theorem SlSt.keeps {H : AH} {o gp : Nat} {n : Int} {w : Value} {es : List (Int × Int)} {a : Value} {p : List Int} {v : Value} {us : List Value} {N M : Nat} {K L : AH} (h : SlSt H o gp n w es a p v us N K) (hk : Keeps o K L) (hc : Cur L o v us M) : SlSt H o gp n w es a p v us M L := by
  have e := h.eo
  have g := h.gp2
  exact ⟨e,hk.2 _ _ (by omega) h.c0,hk.2 _ _ (by omega) h.cg,g,rowP_keeps h.rw_ (h.lw.imp id fun q => by omega) hk,h.lw,row_keeps h.ra (h.la.imp id fun q => by omega) hk,h.la,hc,prefix_of fun j y hy => hk.2 j y (by have := at_lt hy; omega) (pre_at h.pr hy)⟩
theorem SlSt.pre {H : AH} {o gp : Nat} {n : Int} {w : Value} {es : List (Int × Int)} {a : Value} {p : List Int} {v : Value} {us : List Value} {N : Nat} {K L : AH} (h : SlSt H o gp n w es a p v us N K) (hp : K <+: L) : SlSt H o gp n w es a p v us N L :=
  h.keeps (.of_pre hp) (h.cr.pre hp)
theorem SlSt.more {H : AH} {o gp : Nat} {n : Int} {w : Value} {es : List (Int × Int)} {a : Value} {p : List Int} {v : Value} {us : List Value} {N M : Nat} {K : AH} (h : SlSt H o gp n w es a p v us N K) (hm : N ≤ M) : SlSt H o gp n w es a p v us M K :=
  { h with cr := h.cr.more hm }
theorem SlSt.fin {H : AH} {o gp : Nat} {n : Int} {w : Value} {es : List (Int × Int)} {a : Value} {p : List Int} {v : Value} {us : List Value} {N : Nat} {K : AH} (h : SlSt H o gp n w es a p v us N K) {b : Value} {q : List Int} (hb : Row 3 K b q) (lb : b = .slice none 0 0 ∨ H.length + 2 ≤ rowO b) :
    (K.set H.length (.cells [.int .i64 n,w] 26 false))[H.length]? = some (.cells [.int .i64 n,w] 26 false) ∧ RowP 53 (K.set H.length (.cells [.int .i64 n,w] 26 false)) w es ∧ Row 3 (K.set H.length (.cells [.int .i64 n,w] 26 false)) a p ∧ Row 3 (K.set H.length (.cells [.int .i64 n,w] 26 false)) b q ∧ H <+: (K.set H.length (.cells [.int .i64 n,w] 26 false)) := by
  have hk : Keeps H.length K (K.set H.length (.cells [.int .i64 n,w] 26 false)) := ⟨by simp,fun j y hj hy => by rw [List.getElem?_set_ne (fun e => hj e.symm)]; exact hy⟩
  exact ⟨at_set h.c0,rowP_keeps h.rw_ (h.lw.imp id fun q => by omega) hk,row_keeps h.ra (h.la.imp id fun q => by omega) hk,row_keeps hb (lb.imp id fun q => by omega) hk,prefix_of fun j y hy => hk.2 j y (by have := at_lt hy; omega) (pre_at h.pr hy)⟩
theorem row_lt {e : TypeId} {K : AH} {v : Value} {xs : List Int} (h : Row e K v xs) : v = .slice none 0 0 ∨ rowO v < K.length := by
  rcases h with z | ⟨o,k,vs,ro,z,z2,_⟩
  · exact .inl z.1
  · right; rw [z]; exact at_lt z2
theorem rowP_lt {e : TypeId} {K : AH} {v : Value} {xs : List (Int × Int)} (h : RowP e K v xs) : v = .slice none 0 0 ∨ rowO v < K.length := by
  rcases h with z | ⟨o,k,vs,ro,z,z2,_⟩
  · exact .inl z.1
  · right; rw [z]; exact at_lt z2
theorem row_ne {K : AH} {j : Nat} {v : Value} {xs : List Int} {cs : List Value} (h : Row 3 K v xs) (hj : K[j]? = some (.cells cs 26 false)) : v = .slice none 0 0 ∨ rowO v ≠ j := by
  rcases h with z | ⟨o,k,vs,ro,z,z2,_⟩
  · exact .inl z.1
  · right
    rw [z]
    intro e
    have e' : o = j := e
    subst e'
    have := z2.symm.trans hj
    simp at this
theorem rowP_ne {K : AH} {j : Nat} {v : Value} {xs : List (Int × Int)} {cs : List Value} (h : RowP 53 K v xs) (hj : K[j]? = some (.cells cs 26 false)) : v = .slice none 0 0 ∨ rowO v ≠ j := by
  rcases h with z | ⟨o,k,vs,ro,z,z2,_⟩
  · exact .inl z.1
  · right
    rw [z]
    intro e
    have e' : o = j := e
    subst e'
    have := z2.symm.trans hj
    simp at this
def Frs (H : AH) (o gp : Nat) (w a b : Value) : Prop := rowO b ≠ H.length ∧ rowO b ≠ o ∧ rowO b ≠ gp ∧ (w = .slice none 0 0 ∨ rowO w ≠ rowO b) ∧ (a = .slice none 0 0 ∨ rowO a ≠ rowO b)
theorem SlSt.frs {H : AH} {o gp : Nat} {n : Int} {w : Value} {es : List (Int × Int)} {a : Value} {p : List Int} {v : Value} {us : List Value} {N : Nat} {K : AH} (h : SlSt H o gp n w es a p v us N K) {b : Value} (hb : K.length ≤ rowO b) : Frs H o gp w a b := by
  have h1 := at_lt h.c0
  have h2 := at_lt h.cg
  have h3 : o < K.length := by
    obtain ⟨_,_,g,_⟩ := h.cr.cur
    exact at_lt g
  exact ⟨by omega,by omega,by omega,(rowP_lt h.rw_).imp id fun q => by omega,(row_lt h.ra).imp id fun q => by omega⟩
theorem SlSt.kept {H : AH} {o gp : Nat} {n : Int} {w : Value} {es : List (Int × Int)} {a : Value} {p : List Int} {v : Value} {us : List Value} {N : Nat} {K L : AH} (h : SlSt H o gp n w es a p v us N K) (hB : Byt H v us) {b : Value} (hf : Frs H o gp w a b) (hk : Kept b K L) (hp : H <+: L) : SlSt H o gp n w es a p v us N L := by
  obtain ⟨f1,f2,f3,f4,f5⟩ := hf
  have hK : ∀ (j : Nat) (y : AObj),j ≠ rowO b → K[j]? = some y → L[j]? = some y := fun j y hj hy => hk j y (.inr hj) hy
  refine ⟨h.eo,hK _ _ (fun e => f1 e.symm) h.c0,hK _ _ (fun e => f3 e.symm) h.cg,h.gp2,?_,h.lw,?_,h.la,?_,hp⟩
  · rcases f4 with e | e
    · exact .inl ⟨e,h.rw_.nilv e⟩
    · exact h.rw_.mono fun y hy => hK _ _ e hy
  · rcases f5 with e1 | e1
    · rcases h.ra with z | ⟨_,_,_,_,z,_⟩
      · exact .inl z
      · rw [e1] at z; cases z
    · exact h.ra.mono fun y hy => hK _ _ e1 hy
  · obtain ⟨x1,x2,x3,x4⟩ := h.cr.cur
    exact ⟨⟨x1,x2,hK _ _ (fun e => f2 e.symm) x3,x4⟩,hB.row.pre hp,h.cr.byt,h.cr.ap,h.cr.le⟩
theorem SlSt.app {H : AH} {o gp : Nat} {n : Int} {w : Value} {es : List (Int × Int)} {a : Value} {p : List Int} {v : Value} {us : List Value} {N : Nat} {K : AH} (h : SlSt H o gp n w es a p v us N K) (hB : Byt H v us) {b : Value} {q : List Int} (hb : Own 3 H K b q) (hf : Frs H o gp w a b) (hq : q.length ≤ 1000) (x : Int) :
    ∃ b' L,appendA Tryz.prog 27 27 b (.slice (some ⟨K.length,0,none⟩) 1 1) (K ++ [.cells [.int .i64 x] 3 false]) = some (b',L) ∧ isTup b' = false ∧ Own 3 H L b' (q ++ [x]) ∧ Frs H o gp w a b' ∧ SlSt H o gp n w es a p v us N L := by
  obtain ⟨b',L,j1,j2,j3,j4,j5,j6⟩ := own1_27 hb h.pr (by omega) x
  have hL := h.kept hB hf j4 j3
  exact ⟨b',L,j1,j6,j2,h.frs j5,hL⟩
theorem own_kp {e : TypeId} {H K L : AH} {o : Nat} {b : Value} {q : List Int} (h : Own e H K b q) (hb : rowO b ≠ o) (hk : Keeps o K L) : Own e H L b q := by
  rcases h with z | ⟨oo,q1,q2,q3⟩
  · exact .inl z
  · rw [q1] at hb
    exact .inr ⟨oo,q1,q2,hk.2 _ _ hb q3⟩
theorem own_low {e : TypeId} {H K : AH} {o gp : Nat} {w a b : Value} {q : List Int} (h : Own e H K b q) (hf : Frs H o gp w a b) (ho : o = H.length + 1) : b = .slice none 0 0 ∨ H.length + 2 ≤ rowO b := by
  rcases h with z | ⟨oo,q1,q2,q3⟩
  · exact .inl z.1
  · obtain ⟨f1,f2,_⟩ := hf
    right
    rw [q1] at f1 f2 ⊢
    have e1 : oo ≠ H.length := f1
    have e2 : oo ≠ o := f2
    show H.length + 2 ≤ oo
    omega
theorem bd_lok {n : Nat} (hn : n ≤ 6) {p : List Int} (h : Bd n p) : LsOk p := by
  have hl := h.2
  refine ⟨by omega,fun y hy => ?_⟩
  obtain ⟨i,hi,rfl⟩ := List.mem_iff_getElem.1 hy
  have h2 := (prm_range h.1).1 i hi
  have e : p.getD i 0 = p[i] := by simp [hi]
  rw [e] at h2
  unfold I64
  omega
def DrawR (H : AH) (r : Value) (H' : AH) : Prop := ∃ (n : Int) (w a b : Value) (es : List (Int × Int)) (p q : List Int),r = .tuple (List.toArray [.agg (List.toArray [.int .i64 n,w]),a,b]) ∧ RowP 53 H' w es ∧ es.length ≤ 200 ∧ I64 n ∧ Sml es ∧ Row 3 H' a p ∧ LsOk p ∧ Row 3 H' b q ∧ LsOk q ∧ H <+: H'
theorem p9_lok {p : List Int} (h : p.length ≤ 10) (hr : ∀ y ∈ p,-1 ≤ y ∧ y ≤ 9) : LsOk p := ⟨by omega,fun y hy => by have := hr y hy; unfold I64; omega⟩
theorem lstL (n : Int) : (if n < 8 then n else 8) ≤ 9 := by split <;> omega
set_option maxRecDepth 20000 in
set_option maxHeartbeats 8000000 in
theorem DrawSld_c {H : AH} {v : Value} {us : List Value} (h : Byt H v us) :
    ACalls Tryz.prog 34 [v] H fun r H' => DrawR H r H' := by
  obtain ⟨pv,ev⟩ := h.row.shape
  refine in34 rfl ?_
  intro Q hQ
  have b1 := bld_cur pv us.length us.length
  have b2 := fun H => box_cur pv us.length us.length H
  rw [← ev] at b1 b2
  generalize hA : H ++ [AObj.cells [.int .i64 0,.slice none 0 0] 26 false] = A
  have pA : H <+: A := by rw [← hA]; exact List.prefix_append _ _
  have cA : A[H.length]? = some (.cells [.int .i64 0,.slice none 0 0] 26 false) := by rw [← hA]; exact at_new ..
  have lA : A.length = H.length + 1 := by rw [← hA]; simp
  have al := alloc_G H
  rw [hA] at al
  rw [cd34]
  refine cutC (fun s K => A = K ∧ s 0 = v ∧ s 2 = .pointer (some ⟨H.length,0,none⟩)) (fun c hc => ?_) ?_
  · simp (maxSteps := 1000000) (disch := omega) only [al,SS,eq_self,reduceIte,reduceCtorEq,Nat.reduceEqDiff,Nat.reduceAdd]
    exact hc _ _ ⟨rfl,rfl,rfl⟩
  rintro s _ ⟨rfl,s0,s2⟩
  refine cutC (fun s K => s 2 = .pointer (some ⟨H.length,0,none⟩) ∧ s 5 = .pointer (some ⟨A.length,0,none⟩) ∧ Cur K A.length v us 0 ∧ A <+: K) (fun c hc => ?_) ?_
  · simp (maxSteps := 1000000) (disch := omega) only [s0,s2,b1,b2,SS,eq_self,reduceIte,reduceCtorEq,Nat.reduceEqDiff,Nat.reduceAdd]
    exact hc _ _ ⟨s2,rfl,(h.pre pA).cur,List.prefix_append _ _⟩
  clear s0 s2 s
  rintro s B ⟨s2,s5,hC,pB⟩
  have cB := pre_at pB cA
  have lB : A.length < B.length := by
    obtain ⟨_,_,g,_⟩ := hC.cur
    exact at_lt g
  refine cutC (fun s K => ∃ (gp : Nat) (n : Int) (w : Value) (es : List (Int × Int)),s 2 = .pointer (some ⟨H.length,0,none⟩) ∧ s 5 = .pointer (some ⟨A.length,0,none⟩) ∧ s 6 = .pointer (some ⟨gp,0,none⟩) ∧ I64 n ∧ es.length ≤ 200 ∧ Sml es ∧ SlSt H A.length gp n w es (.slice none 0 0) [] v us 1020 K) (fun c hc => ?_) ?_
  · simp (maxSteps := 1000000) (disch := omega) only [s2,s5,SS,eq_self,reduceIte,reduceCtorEq,Nat.reduceEqDiff,Nat.reduceAdd]
    refine CallH.by (special9_c hC (by omega)) ?_
    rintro _ C ⟨n,w,es,rfl,hm,hn,hl,hs,hCC,kC⟩
    have cC := kC.2 _ _ (by omega) cB
    have lC := kC.1
    have hwo : w = .slice none 0 0 ∨ B.length ≤ rowO w := hm.low
    have st1 := st_G hm.row (at_new C (.cells [.int .i64 0,.slice none 0 0] 26 false)) rfl n
    rw [set_new] at st1
    simp (maxSteps := 1000000) (disch := omega) only [s2,s5,alloc_G,st1,SS,eq_self,reduceIte,reduceCtorEq,Nat.reduceEqDiff,Nat.reduceAdd]
    have pD : C <+: C ++ [AObj.cells [.int .i64 n,w] 26 false] := List.prefix_append _ _
    refine hc _ _ ⟨C.length,n,w,es,s2,s5,rfl,hn,hl,hs,lA,pre_at pD cC,at_new ..,by omega,hm.row.pre pD,hwo.imp id fun q => by omega,.inl ⟨rfl,rfl⟩,.inl rfl,(hCC.pre pD).more (by omega),?_⟩
    exact prefix_of fun j y hy => pre_at pD (kC.2 j y (by have := at_lt hy; omega) (pre_at (pA.trans pB) hy))
  clear s2 s5 s cB lB hC pB B
  rintro s B ⟨gp,n,w,es,s2,s5,s6,hn,hl,hs,hD⟩
  have lBB := hD.pr.length_le
  have lB2 := at_lt hD.cg
  have gp2 := hD.gp2
  have per : ∀ {K : AH} {a : Value} {p : List Int} {N : Nat},N ≤ 1000000 → SlSt H A.length gp n w es a p v us N K → ACalls Tryz.prog 49 [.pointer (some ⟨A.length,0,none⟩),.int .i64 (if n < 8 then n else 8)] K fun r K' => ∃ q : List Int,Row 3 K' r q ∧ (r = .slice none 0 0 ∨ H.length + 2 ≤ rowO r) ∧ LsOk q ∧ Cur K' A.length v us (N + 20) ∧ Keeps A.length K K' := by
    intro K a p N hN hK
    refine (perm9_c hK.cr (by omega) _ (lstL n)).mono fun r K' hr => ?_
    obtain ⟨q,x1,x2,x3,x4,x5⟩ := hr
    refine ⟨q,x1.row,?_,p9_lok x2.2 x3,x4,x5⟩
    rcases x1 with z | ⟨o,z,z2,_⟩
    · exact .inl z.1
    · right
      rw [z]
      have := at_lt hK.cg
      have := hK.gp2
      show H.length + 2 ≤ o
      omega
  refine cutC (fun s K => ∃ (a : Value) (p : List Int),s 2 = .pointer (some ⟨H.length,0,none⟩) ∧ s 5 = .pointer (some ⟨A.length,0,none⟩) ∧ s 6 = .pointer (some ⟨gp,0,none⟩) ∧ s 7 = a ∧ LsOk p ∧ SlSt H A.length gp n w es a p v us 1070 K) (fun c hc => ?_) ?_
  · simp (maxSteps := 1000000) (disch := omega) only [s2,s5,s6,cell_of hD.cg,SS,eq_self,reduceIte,reduceCtorEq,Nat.reduceEqDiff,Nat.reduceAdd]
    refine CallH.by (l1Least_c n 8 B) ?_
    rintro _ _ ⟨rfl,rfl⟩
    simp (maxSteps := 1000000) (disch := omega) only [s2,s5,s6,SS,eq_self,reduceIte,reduceCtorEq,Nat.reduceEqDiff,Nat.reduceAdd]
    refine CallH.by (per (by omega) (hD.more (show 1020 ≤ 1050 by omega))) ?_
    rintro a C ⟨p,hp,lp,kp,hC,kC⟩
    have ht := hp.tup
    simp (maxSteps := 1000000) (disch := omega) only [s2,s5,s6,ht,SS,eq_self,reduceIte,reduceCtorEq,Nat.reduceEqDiff,Nat.reduceAdd]
    have hE := hD.keeps kC hC
    exact hc _ _ ⟨a,p,s2,s5,s6,rfl,kp,{ hE with ra := hp,la := lp }⟩
  clear s2 s5 s6 s hD lBB lB2 B
  rintro s B ⟨a,p,s2,s5,s6,s7,kp,hD⟩
  refine cutC (fun s K => s 2 = .pointer (some ⟨H.length,0,none⟩) ∧ s 5 = .pointer (some ⟨A.length,0,none⟩) ∧ s 6 = .pointer (some ⟨gp,0,none⟩) ∧ s 7 = a ∧ SlSt H A.length gp n w es a p v us 1071 K) (fun c hc => ?_) ?_
  · simp (maxSteps := 1000000) (disch := omega) only [s2,s5,s6,s7,SS,eq_self,reduceIte,reduceCtorEq,Nat.reduceEqDiff,Nat.reduceAdd]
    refine CallH.by (one_c hD.cr (by omega) 2 (by omega)) ?_
    rintro _ C ⟨⟨b,rfl⟩,hC,oC⟩
    have hE := hD.keeps oC.keeps hC
    simp (maxSteps := 1000000) (disch := omega) only [s2,s5,s6,s7,SS,eq_self,reduceIte,reduceCtorEq,Nat.reduceEqDiff,Nat.reduceAdd]
    cases b with
    | false =>
      refine brH.intro (fun q => by cases q) (fun _ => ?_)
      simp (maxSteps := 1000000) (disch := omega) only [SS,eq_self,reduceIte,reduceCtorEq,Nat.reduceEqDiff,Nat.reduceAdd]
      exact hc _ _ ⟨s2,s5,s6,s7,hE⟩
    | true =>
      refine brH.intro (fun _ => ?_) (fun q => by cases q)
      simp (maxSteps := 1000000) (disch := omega) only [s2,s5,s6,s7,ld_agg ag26 cs26 hE.cg,cell_of hE.cg,SS,eq_self,reduceIte,reduceCtorEq,Nat.reduceEqDiff,Nat.reduceAdd]
      refine CallH.by (l1Least_c n 8 C) ?_
      rintro _ _ ⟨rfl,rfl⟩
      simp (maxSteps := 1000000) (disch := omega) only [s2,s5,s6,s7,ld_agg ag26 cs26 hE.cg,cell_of hE.cg,SS,eq_self,reduceIte,reduceCtorEq,Nat.reduceEqDiff,Nat.reduceAdd]
      refine CallH.by (per (by omega) hE) ?_
      rintro b D ⟨q,hq,lq,kq,hCD,kD⟩
      have hF := hE.keeps kD hCD
      have ht := hq.tup
      obtain ⟨d1,d2,d3,d4,d5⟩ := hF.fin hq lq
      have hst := st_G hF.rw_ hF.c0 rfl n
      simp (maxSteps := 1000000) (disch := omega) only [s2,s5,s6,s7,ht,ld_agg ag26 cs26 hF.cg,hst,SS,eq_self,reduceIte,reduceCtorEq,Nat.reduceEqDiff,Nat.reduceAdd]
      refine hQ _ _ _ (end_cell3 _ _ _ _ _ _ _ _ (.agg (List.toArray [.int .i64 n,w])) a b ?_ rfl ?_ hD.ra.tup ?_ ht ⟨n,w,a,b,es,p,q,rfl,d2,hl,hn,hs,d3,kp,d4,kq,d5⟩)
      · simp (maxSteps := 1000000) (disch := omega) only [s2,ld_agg ag26 cs26 d1,SS,eq_self,reduceIte,reduceCtorEq,Nat.reduceEqDiff,Nat.reduceAdd]
      · simp (maxSteps := 1000000) (disch := omega) only [SS,eq_self,reduceIte,reduceCtorEq,Nat.reduceEqDiff,Nat.reduceAdd]
      · simp (maxSteps := 1000000) (disch := omega) only [SS,eq_self,reduceIte,reduceCtorEq,Nat.reduceEqDiff,Nat.reduceAdd]
  clear s2 s5 s6 s7 s hD B
  rintro s B ⟨s2,s5,s6,s7,hD⟩
  refine cutC (fun s K => ∃ b,s 2 = .pointer (some ⟨H.length,0,none⟩) ∧ s 5 = .pointer (some ⟨A.length,0,none⟩) ∧ s 6 = .pointer (some ⟨gp,0,none⟩) ∧ s 7 = a ∧ s 8 = b ∧ Row 3 K b p ∧ (b = .slice none 0 0 ∨ H.length + 2 ≤ rowO b) ∧ SlSt H A.length gp n w es a p v us 1071 K) (fun c hc => ?_) ?_
  · simp (maxSteps := 1000000) (disch := omega) only [s2,s5,s6,s7,SS,eq_self,reduceIte,reduceCtorEq,Nat.reduceEqDiff,Nat.reduceAdd]
    have lp := kp.1
    refine CallH.by (l1Own_c a p B hD.ra (by omega)) ?_
    rintro b C ⟨hb,pC⟩
    have ht := hb.row.tup
    simp (maxSteps := 1000000) (disch := omega) only [s2,s5,s6,s7,ht,SS,eq_self,reduceIte,reduceCtorEq,Nat.reduceEqDiff,Nat.reduceAdd]
    refine hc _ _ ⟨b,s2,s5,s6,s7,rfl,hb.row,?_,hD.pre pC⟩
    rcases hb with z | ⟨o,z,z2,_⟩
    · exact .inl z.1
    · right
      rw [z]
      have := at_lt hD.cg
      show H.length + 2 ≤ o
      omega
  clear s2 s5 s6 s7 s hD B
  rintro s B ⟨b,s2,s5,s6,s7,s8,hb,lb,hD⟩
  refine cutC (fun s K => ∃ (b : Value) (q : List Int),s 2 = .pointer (some ⟨H.length,0,none⟩) ∧ s 6 = .pointer (some ⟨gp,0,none⟩) ∧ s 7 = a ∧ s 8 = b ∧ Row 3 K b q ∧ (b = .slice none 0 0 ∨ H.length + 2 ≤ rowO b) ∧ LsOk q ∧ SlSt H A.length gp n w es a p v us 2000 K) (fun c hc => ?_) ?_
  · simp (maxSteps := 1000000) (disch := omega) only [s2,s5,s6,s7,s8,SS,eq_self,reduceIte,reduceCtorEq,Nat.reduceEqDiff,Nat.reduceAdd]
    refine CallH.by (pick_c hD.cr (by omega) 8 (by omega)) ?_
    rintro _ C ⟨⟨k,rfl,hk⟩,hC,oC⟩
    have hE := (hD.keeps oC.keeps hC).more (show 1071 + 1 ≤ 1100 + (8 - k) by omega)
    have hbC := row_keeps hb (lb.imp id fun q => by have := hD.eo; omega) oC.keeps
    simp (maxSteps := 1000000) (disch := omega) only [s2,s5,s6,s7,s8,SS,eq_self,reduceIte,reduceCtorEq,Nat.reduceEqDiff,Nat.reduceAdd]
    refine LoopH.by (fun m s K => ∃ (b : Value) (q : List Int),m ≤ 8 ∧ s 2 = .pointer (some ⟨H.length,0,none⟩) ∧ s 5 = .pointer (some ⟨A.length,0,none⟩) ∧ s 6 = .pointer (some ⟨gp,0,none⟩) ∧ s 7 = a ∧ s 8 = b ∧ s 9 = .int .i64 (m : Int) ∧ Row 3 K b q ∧ (b = .slice none 0 0 ∨ H.length + 2 ≤ rowO b) ∧ LsOk q ∧ SlSt H A.length gp n w es a p v us (1100 + (8 - m)) K) k ?_ ?_
    · refine ⟨b,p,by omega,?_⟩
      simp (maxSteps := 1000000) (disch := omega) only [s2,s5,s6,s7,s8,SS,eq_self,reduceIte,reduceCtorEq,Nat.reduceEqDiff,Nat.reduceAdd]
      (repeat' first | exact hE | exact hbC | exact lb | exact kp | apply And.intro) <;> first | (simp only [Value.int.injEq,true_and]; omega) | omega | rfl | assumption | (simp; done) | (simp; omega)
    clear s2 s5 s6 s7 s8 hb lb hD hE hbC hC oC hk s C
    rintro m s K ⟨b,q,hm,s2,s5,s6,s7,s8,s9,hb,lb,kq,hD⟩
    by_cases g : (0 : Int) < (m : Int)
    rotate_left
    · simp (maxSteps := 1000000) (disch := omega) only [s2,s5,s6,s7,s8,s9,decide_eq_false g,SS,eq_self,reduceIte,reduceCtorEq,Nat.reduceEqDiff,Nat.reduceAdd]
      exact hc _ _ ⟨b,q,s2,s6,s7,s8,hb,lb,kq,hD.more (by omega)⟩
    simp (maxSteps := 1000000) (disch := omega) only [s2,s5,s6,s7,s8,s9,decide_eq_true g,ld_agg ag26 cs26 hD.cg,SS,eq_self,reduceIte,reduceCtorEq,Nat.reduceEqDiff,Nat.reduceAdd]
    have lq := kq.1
    refine CallH.by (l9Board_c n w b es q K hD.rw_ (by omega) hb (by omega)) ?_
    rintro _ C ⟨rfl,pC⟩
    have hDC := hD.pre pC
    have hbC := hb.pre pC
    by_cases hB : Brd n es q
    rotate_left
    · simp (maxSteps := 1000000) (disch := omega) only [s2,s5,s6,s7,s8,s9,decide_eq_false hB,SS,eq_self,reduceIte,reduceCtorEq,Nat.reduceEqDiff,Nat.reduceAdd]
      exact hc _ _ ⟨b,q,s2,s6,s7,s8,hbC,lb,kq,hDC.more (by omega)⟩
    obtain ⟨N,rfl,hg,hbd,h1,h6⟩ := brd_bdS hB
    simp (maxSteps := 1000000) (disch := omega) only [s2,s5,s6,s7,s8,s9,decide_eq_true hB,ld_agg ag26 cs26 hDC.cg,SS,eq_self,reduceIte,reduceCtorEq,Nat.reduceEqDiff,Nat.reduceAdd]
    refine CallH.by (l9Next_c N w b es q true C hDC.rw_ (by omega) hbC hg hbd) ?_
    rintro _ D ⟨L,M,rfl,hL,hM,pD⟩
    have hDD := hDC.pre pD
    have hbD := hbC.pre pD
    have hnl : (nxt es true q).length ≤ 200 := by
      rw [nxt_len]
      have := mvs_len es true q
      omega
    have hw3 : IntKind.i64.wrap ((m : Int) - 1) = ((m - 1 : Nat) : Int) := by rw [wrap64 (by omega) (by omega)]; omega
    have htM := hM.row.tup
    rcases hL with z | ⟨oo,us2,rfl,hU⟩
    · obtain ⟨rfl,z2⟩ := z
      have g0 : ¬ (0 : Int) < ((0 : Nat) : Int) := by omega
      simp (maxSteps := 1000000) (disch := omega) only [s2,s5,s6,s7,s8,s9,htM,hw3,decide_eq_false g0,SS,eq_self,reduceIte,reduceCtorEq,Nat.reduceEqDiff,Nat.reduceAdd]
      have f1 := hDD.more (show 1100 + (8 - m) ≤ 1100 + (8 - (m - 1)) by omega)
      refine ⟨m - 1,by omega,b,q,by omega,?_⟩
      (repeat' first | exact f1 | exact hbD | exact lb | exact kq | apply And.intro) <;> first | (simp only [Value.int.injEq,true_and]; omega) | omega | rfl | assumption | (simp; done) | (simp; omega)
    by_cases g2 : (0 : Int) < ((nxt es true q).length : Int)
    rotate_left
    · simp (maxSteps := 1000000) (disch := omega) only [s2,s5,s6,s7,s8,s9,htM,hw3,decide_eq_false g2,SS,eq_self,reduceIte,reduceCtorEq,Nat.reduceEqDiff,Nat.reduceAdd]
      have f1 := hDD.more (show 1100 + (8 - m) ≤ 1100 + (8 - (m - 1)) by omega)
      refine ⟨m - 1,by omega,b,q,by omega,?_⟩
      (repeat' first | exact f1 | exact hbD | exact lb | exact kq | apply And.intro) <;> first | (simp only [Value.int.injEq,true_and]; omega) | omega | rfl | assumption | (simp; done) | (simp; omega)
    simp (maxSteps := 1000000) (disch := omega) only [s2,s5,s6,s7,s8,s9,htM,decide_eq_true g2,SS,eq_self,reduceIte,reduceCtorEq,Nat.reduceEqDiff,Nat.reduceAdd]
    refine CallH.by (pick_c hDD.cr (by omega) ((nxt es true q).length : Int) (by omega)) ?_
    rintro _ E ⟨⟨k2,rfl,hk2⟩,hCE,oE⟩
    have hkl : k2 < (nxt es true q).length := by omega
    have hEE := hDD.keeps oE.keeps hCE
    obtain ⟨i1,i2,i3,i4,i5,i6⟩ := hU
    have eo := hD.eo
    have hgl := at_lt hDC.cg
    have hI := (i5 k2 hkl).1
    have hrow := hI.row.1
    have low : us2.getD k2 undef = .slice none 0 0 ∨ H.length + 2 ≤ rowO (us2.getD k2 undef) := by
      rcases hI with q | ⟨q,zs,q1,q2,_⟩
      · exact .inl q.1
      · refine .inr ?_
        rw [q1]
        show H.length + 2 ≤ q
        omega
    have hrE := row_keeps hrow (low.imp id fun q => by omega) oE.keeps
    have hcell : cellA E oo k2 = some (us2.getD k2 undef) := by
      rw [cell_of (oE.2 _ _ (by omega) i3)]
      rw [List.getElem?_eq_getElem (show k2 < us2.length by omega)]
      simp [show k2 < us2.length by omega]
    have ix := ix_one (P := Tryz.prog) (t := 43) Tryz.underlying43 cs27 ⟨oo,0,none⟩ (nxt es true q).length (nxt es true q).length .i64 (i := (k2 : Int)) (by omega) (by omega)
    have hte := hrE.tup
    simp (maxSteps := 1000000) (disch := omega) only [s2,s5,s6,s7,s8,s9,ix,Int.toNat_natCast,hcell,hte,hw3,SS,eq_self,reduceIte,reduceCtorEq,Nat.reduceEqDiff,Nat.reduceAdd]
    have f1 := hEE.more (show 1100 + (8 - m) + 1 ≤ 1100 + (8 - (m - 1)) by omega)
    have f2 : LsOk ((nxt es true q).getD k2 []) := bd_lok h6 (nxt_bd hg true hbd _ (by simp [hkl]))
    refine ⟨m - 1,by omega,us2.getD k2 undef,(nxt es true q).getD k2 [],by omega,?_⟩
    (repeat' first | exact f1 | exact f2 | exact hrE | exact low | apply And.intro) <;> first | (simp only [Value.int.injEq,true_and]; omega) | omega | rfl | assumption | (simp; done) | (simp; omega)
  clear s2 s5 s6 s7 s8 hb lb hD s B b
  rintro s B ⟨b,q,s2,s6,s7,s8,hb,lb,kq,hD⟩
  obtain ⟨d1,d2,d3,d4,d5⟩ := hD.fin hb lb
  have hst := st_G hD.rw_ hD.c0 rfl n
  simp (maxSteps := 1000000) (disch := omega) only [s2,s6,s7,s8,ld_agg ag26 cs26 hD.cg,hst,SS,eq_self,reduceIte,reduceCtorEq,Nat.reduceEqDiff,Nat.reduceAdd]
  refine hQ _ _ _ (end_cell3 _ _ _ _ _ _ _ _ (.agg (List.toArray [.int .i64 n,w])) a b ?_ rfl ?_ hD.ra.tup ?_ hb.tup ⟨n,w,a,b,es,p,q,rfl,d2,hl,hn,hs,d3,kp,d4,kq,d5⟩)
  · simp (maxSteps := 1000000) (disch := omega) only [s2,ld_agg ag26 cs26 d1,SS,eq_self,reduceIte,reduceCtorEq,Nat.reduceEqDiff,Nat.reduceAdd]
  · simp (maxSteps := 1000000) (disch := omega) only [SS,eq_self,reduceIte,reduceCtorEq,Nat.reduceEqDiff,Nat.reduceAdd]
  · simp (maxSteps := 1000000) (disch := omega) only [SS,eq_self,reduceIte,reduceCtorEq,Nat.reduceEqDiff,Nat.reduceAdd]
set_option maxHeartbeats 2000000 in
theorem DrawSlP_c {H : AH} {v : Value} {us : List Value} (h : Byt H v us) :
    ACalls Tryz.prog 6 [v] H fun r H' => DrawR H r H' := by
  refine in6 rfl ?_
  intro Q hQ
  have pA : H <+: H ++ [AObj.cells [.int .i64 0,.slice none 0 0] 26 false] := List.prefix_append _ _
  have cA := at_new H (.cells [.int .i64 0,.slice none 0 0] 26 false)
  simp (maxSteps := 1000000) (disch := omega) only [cd6,alloc_G,SS,eq_self,reduceIte,reduceCtorEq,Nat.reduceEqDiff,Nat.reduceAdd]
  refine CallH.by (DrawSld_c (h.pre pA)) ?_
  rintro _ K ⟨n,w,a,b,es,p,q,rfl,x1,x2,x3,x4,x5,x6,x7,x8,x9⟩
  have cK := pre_at x9 cA
  have hk : Keeps H.length K (K.set H.length (.cells [.int .i64 n,w] 26 false)) := ⟨by simp,fun j y hj hy => by rw [List.getElem?_set_ne (fun e => hj e.symm)]; exact hy⟩
  have d1 := at_set (d := .cells [.int .i64 n,w] 26 false) cK
  have hst := st_G x1 cK rfl n
  have ta := x5.tup
  have tb := x7.tup
  simp (maxSteps := 1000000) (disch := omega) only [hst,SS,eq_self,reduceIte,reduceCtorEq,Nat.reduceEqDiff,Nat.reduceAdd]
  refine hQ _ _ _ (end_cell3 _ _ _ _ _ _ _ _ (.agg (List.toArray [.int .i64 n,w])) a b ?_ rfl ?_ ta ?_ tb ⟨n,w,a,b,es,p,q,rfl,rowP_keeps x1 (rowP_ne x1 cK) hk,x2,x3,x4,row_keeps x5 (row_ne x5 cK) hk,x6,row_keeps x7 (row_ne x7 cK) hk,x8,prefix_of fun j y hy => hk.2 j y (by have := at_lt hy; omega) (pre_at x9 (pre_at pA hy))⟩)
  · simp (maxSteps := 1000000) (disch := omega) only [ld_agg ag26 cs26 d1,SS,eq_self,reduceIte,reduceCtorEq,Nat.reduceEqDiff,Nat.reduceAdd]
  · simp (maxSteps := 1000000) (disch := omega) only [ta,tb,SS,eq_self,reduceIte,reduceCtorEq,Nat.reduceEqDiff,Nat.reduceAdd]
  · simp (maxSteps := 1000000) (disch := omega) only [ta,tb,SS,eq_self,reduceIte,reduceCtorEq,Nat.reduceEqDiff,Nat.reduceAdd]
set_option maxRecDepth 20000 in
set_option maxHeartbeats 2000000 in
theorem node_c {H : AH} {o : Nat} {v w : Value} {us : List Value} {N : Nat} {es : List (Int × Int)} (h : Cur H o v us N) (hN : N ≤ 99000000) (n : Int) (hw : RowP 53 H w es) :
    ACalls Tryz.prog 54 [.pointer (some ⟨o,0,none⟩),.agg (List.toArray [.int .i64 n,w])] H fun r H' => (∃ e : Int,r = .int .i64 e ∧ -1 ≤ e ∧ e ≤ 4611686018427387904) ∧ Cur H' o v us (N + 3) ∧ Keeps o H H' := by
  have ho : o < H.length := by
    obtain ⟨_,_,g,_⟩ := h.cur
    exact at_lt g
  refine in54 rfl ?_
  intro Q hQ
  simp (maxSteps := 1000000) (disch := omega) only [cd54,hw.boxG,SS,eq_self,reduceIte,reduceCtorEq,Nat.reduceEqDiff,Nat.reduceAdd]
  generalize hA : H ++ [AObj.cells [.int .i64 n,w] 26 false] = A
  have pA : H <+: A := by rw [← hA]; exact List.prefix_append _ _
  have cA : A[H.length]? = some (.cells [.int .i64 n,w] 26 false) := by rw [← hA]; exact at_new ..
  have rA := hw.pre pA
  have lA : A.length = H.length + 1 := by rw [← hA]; simp
  have blK1 : ∀ H0 : AH,buildSliceA Tryz.prog 27 4 [(0,.int .i64 (-1)),(1,.int .i64 0),(2,.int .i64 8),(3,.int .i64 4611686018427387904)] H0 = some (.slice (some ⟨H0.length,0,none⟩) 4 4,H0 ++ [.cells [.int .i64 (-1),.int .i64 0,.int .i64 8,.int .i64 4611686018427387904] 3 false]) := fun H0 => by kernel_rfl
  have amg : ∀ {K : AH} {M : Nat},Cur K o v us M → M ≤ N + 1 → Keeps o H K → ACalls Tryz.prog 96 [.pointer (some ⟨o,0,none⟩),.slice (some ⟨K.length,0,none⟩) 4 4] (K ++ [.cells [.int .i64 (-1),.int .i64 0,.int .i64 8,.int .i64 4611686018427387904] 3 false]) fun r H' => (∃ e : Int,r = .int .i64 e ∧ -1 ≤ e ∧ e ≤ 4611686018427387904) ∧ Cur H' o v us (N + 3) ∧ Keeps o H H' := by
    intro K M hC hM hK
    have pX : K <+: K ++ [AObj.cells [.int .i64 (-1),.int .i64 0,.int .i64 8,.int .i64 4611686018427387904] 3 false] := List.prefix_append _ _
    have wX : Row 3 (K ++ [AObj.cells [.int .i64 (-1),.int .i64 0,.int .i64 8,.int .i64 4611686018427387904] 3 false]) (.slice (some ⟨K.length,0,none⟩) 4 4) [-1,0,8,4611686018427387904] := .inr ⟨K.length,0,_,false,rfl,at_new ..,by simp,rfl⟩
    refine (among_c (hC.pre pX) (by omega) wX (by have := hK.1; show K.length ≠ o; omega) (by simp)).mono fun r H' hr => ?_
    obtain ⟨⟨x,rfl,hx⟩,x1,x2⟩ := hr
    exact ⟨⟨x,rfl,by simp at hx; omega⟩,x1.more (by omega),hK.trans ((Keeps.of_pre pX).trans x2.keeps)⟩
  simp (maxSteps := 1000000) (disch := omega) only [cell_of cA,SS,eq_self,reduceIte,reduceCtorEq,Nat.reduceEqDiff,Nat.reduceAdd]
  by_cases e1 : n < 1
  · simp (maxSteps := 1000000) (disch := omega) only [decide_eq_true e1,blK1,SS,eq_self,reduceIte,reduceCtorEq,Nat.reduceEqDiff,Nat.reduceAdd]
    refine CallH.by (amg (h.pre pA) (by omega) (.of_pre pA)) ?_
    rintro _ D ⟨⟨e,rfl,he⟩,hD⟩
    simp (maxSteps := 1000000) (disch := omega) only [SS,eq_self,reduceIte,reduceCtorEq,Nat.reduceEqDiff,Nat.reduceAdd]
    refine hQ _ _ _ ?_
    simp (maxSteps := 1000000) (disch := omega) only [SS,eq_self,reduceIte,reduceCtorEq,Nat.reduceEqDiff,Nat.reduceAdd]
    exact ⟨⟨e,rfl,he⟩,hD⟩
  simp (maxSteps := 1000000) (disch := omega) only [decide_eq_false e1,cell_of cA,SS,eq_self,reduceIte,reduceCtorEq,Nat.reduceEqDiff,Nat.reduceAdd]
  by_cases e2 : (8 : Int) < n
  · simp (maxSteps := 1000000) (disch := omega) only [decide_eq_true e2,blK1,SS,eq_self,reduceIte,reduceCtorEq,Nat.reduceEqDiff,Nat.reduceAdd]
    refine CallH.by (amg (h.pre pA) (by omega) (.of_pre pA)) ?_
    rintro _ D ⟨⟨e,rfl,he⟩,hD⟩
    simp (maxSteps := 1000000) (disch := omega) only [SS,eq_self,reduceIte,reduceCtorEq,Nat.reduceEqDiff,Nat.reduceAdd]
    refine hQ _ _ _ ?_
    simp (maxSteps := 1000000) (disch := omega) only [SS,eq_self,reduceIte,reduceCtorEq,Nat.reduceEqDiff,Nat.reduceAdd]
    exact ⟨⟨e,rfl,he⟩,hD⟩
  simp (maxSteps := 1000000) (disch := omega) only [decide_eq_false e2,SS,eq_self,reduceIte,reduceCtorEq,Nat.reduceEqDiff,Nat.reduceAdd]
  refine CallH.by (one_c (h.pre pA) (by omega) 24 (by omega)) ?_
  rintro _ D ⟨⟨b,rfl⟩,hCD,oD⟩
  have kHD : Keeps o H D := (Keeps.of_pre pA).trans oD.keeps
  have cD := oD.2 _ _ (by omega) cA
  simp (maxSteps := 1000000) (disch := omega) only [SS,eq_self,reduceIte,reduceCtorEq,Nat.reduceEqDiff,Nat.reduceAdd]
  cases b with
  | true =>
    refine brH.intro (fun _ => ?_) (fun q => by cases q)
    simp (maxSteps := 1000000) (disch := omega) only [blK1,SS,eq_self,reduceIte,reduceCtorEq,Nat.reduceEqDiff,Nat.reduceAdd]
    refine CallH.by (amg hCD (by omega) kHD) ?_
    rintro _ E ⟨⟨e,rfl,he⟩,hE⟩
    simp (maxSteps := 1000000) (disch := omega) only [SS,eq_self,reduceIte,reduceCtorEq,Nat.reduceEqDiff,Nat.reduceAdd]
    refine hQ _ _ _ ?_
    simp (maxSteps := 1000000) (disch := omega) only [SS,eq_self,reduceIte,reduceCtorEq,Nat.reduceEqDiff,Nat.reduceAdd]
    exact ⟨⟨e,rfl,he⟩,hE⟩
  | false =>
    refine brH.intro (fun q => by cases q) (fun _ => ?_)
    simp (maxSteps := 1000000) (disch := omega) only [cell_of cD,SS,eq_self,reduceIte,reduceCtorEq,Nat.reduceEqDiff,Nat.reduceAdd]
    refine CallH.by (pick_c hCD (by omega) n (by omega)) ?_
    rintro _ E ⟨⟨k,rfl,hk⟩,hCE,oE⟩
    simp (maxSteps := 1000000) (disch := omega) only [SS,eq_self,reduceIte,reduceCtorEq,Nat.reduceEqDiff,Nat.reduceAdd]
    refine hQ _ _ _ ?_
    simp (maxSteps := 1000000) (disch := omega) only [SS,eq_self,reduceIte,reduceCtorEq,Nat.reduceEqDiff,Nat.reduceAdd]
    exact ⟨⟨(k : Int),rfl,by omega,by omega⟩,hCE.more (by omega),kHD.trans oE.keeps⟩
set_option maxRecDepth 20000 in
set_option maxHeartbeats 8000000 in
theorem DrawSlT_c {H : AH} {v : Value} {us : List Value} (h : Byt H v us) :
    ACalls Tryz.prog 11 [v] H fun r H' => DrawR H r H' := by
  obtain ⟨pv,ev⟩ := h.row.shape
  refine in11 rfl ?_
  intro Q hQ
  have b1 := bld_cur pv us.length us.length
  have b2 := fun H => box_cur pv us.length us.length H
  rw [← ev] at b1 b2
  generalize hA : H ++ [AObj.cells [.int .i64 0,.slice none 0 0] 26 false] = A
  have pA : H <+: A := by rw [← hA]; exact List.prefix_append _ _
  have cA : A[H.length]? = some (.cells [.int .i64 0,.slice none 0 0] 26 false) := by rw [← hA]; exact at_new ..
  have lA : A.length = H.length + 1 := by rw [← hA]; simp
  have al := alloc_G H
  rw [hA] at al
  rw [cd11]
  refine cutC (fun s K => A = K ∧ s 0 = v ∧ s 2 = .pointer (some ⟨H.length,0,none⟩)) (fun c hc => ?_) ?_
  · simp (maxSteps := 1000000) (disch := omega) only [al,SS,eq_self,reduceIte,reduceCtorEq,Nat.reduceEqDiff,Nat.reduceAdd]
    exact hc _ _ ⟨rfl,rfl,rfl⟩
  rintro s _ ⟨rfl,s0,s2⟩
  refine cutC (fun s K => s 2 = .pointer (some ⟨H.length,0,none⟩) ∧ s 5 = .pointer (some ⟨A.length,0,none⟩) ∧ Cur K A.length v us 0 ∧ A <+: K) (fun c hc => ?_) ?_
  · simp (maxSteps := 1000000) (disch := omega) only [s0,s2,b1,b2,SS,eq_self,reduceIte,reduceCtorEq,Nat.reduceEqDiff,Nat.reduceAdd]
    exact hc _ _ ⟨s2,rfl,(h.pre pA).cur,List.prefix_append _ _⟩
  clear s0 s2 s
  rintro s B ⟨s2,s5,hC,pB⟩
  have cB := pre_at pB cA
  have lB : A.length < B.length := by
    obtain ⟨_,_,g,_⟩ := hC.cur
    exact at_lt g
  refine cutC (fun s K => ∃ (gp : Nat) (n : Int) (w : Value) (es : List (Int × Int)),s 2 = .pointer (some ⟨H.length,0,none⟩) ∧ s 5 = .pointer (some ⟨A.length,0,none⟩) ∧ s 6 = .pointer (some ⟨gp,0,none⟩) ∧ I64 n ∧ es.length ≤ 200 ∧ Sml es ∧ SlSt H A.length gp n w es (.slice none 0 0) [] v us 1020 K) (fun c hc => ?_) ?_
  · simp (maxSteps := 1000000) (disch := omega) only [s2,s5,SS,eq_self,reduceIte,reduceCtorEq,Nat.reduceEqDiff,Nat.reduceAdd]
    refine CallH.by (special9_c hC (by omega)) ?_
    rintro _ C ⟨n,w,es,rfl,hm,hn,hl,hs,hCC,kC⟩
    have cC := kC.2 _ _ (by omega) cB
    have lC := kC.1
    have hwo : w = .slice none 0 0 ∨ B.length ≤ rowO w := hm.low
    have st1 := st_G hm.row (at_new C (.cells [.int .i64 0,.slice none 0 0] 26 false)) rfl n
    rw [set_new] at st1
    simp (maxSteps := 1000000) (disch := omega) only [s2,s5,alloc_G,st1,SS,eq_self,reduceIte,reduceCtorEq,Nat.reduceEqDiff,Nat.reduceAdd]
    have pD : C <+: C ++ [AObj.cells [.int .i64 n,w] 26 false] := List.prefix_append _ _
    refine hc _ _ ⟨C.length,n,w,es,s2,s5,rfl,hn,hl,hs,lA,pre_at pD cC,at_new ..,by omega,hm.row.pre pD,hwo.imp id fun q => by omega,.inl ⟨rfl,rfl⟩,.inl rfl,(hCC.pre pD).more (by omega),?_⟩
    exact prefix_of fun j y hy => pre_at pD (kC.2 j y (by have := at_lt hy; omega) (pre_at (pA.trans pB) hy))
  clear s2 s5 s cB lB hC pB B
  rintro s B ⟨gp,n,w,es,s2,s5,s6,hn,hl,hs,hD⟩
  have gp2 := hD.gp2
  refine cutC (fun s K => ∃ (a : Value) (p : List Int),s 2 = .pointer (some ⟨H.length,0,none⟩) ∧ s 5 = .pointer (some ⟨A.length,0,none⟩) ∧ s 6 = .pointer (some ⟨gp,0,none⟩) ∧ s 7 = a ∧ LsOk p ∧ SlSt H A.length gp n w es a p v us 1070 K) (fun c hc => ?_) ?_
  · simp (maxSteps := 1000000) (disch := omega) only [s2,s5,s6,cell_of hD.cg,SS,eq_self,reduceIte,reduceCtorEq,Nat.reduceEqDiff,Nat.reduceAdd]
    refine CallH.by (l1Least_c n 8 B) ?_
    rintro _ _ ⟨rfl,rfl⟩
    simp (maxSteps := 1000000) (disch := omega) only [s2,s5,s6,SS,eq_self,reduceIte,reduceCtorEq,Nat.reduceEqDiff,Nat.reduceAdd]
    refine CallH.by (perm9_c hD.cr (by omega) _ (lstL n)) ?_
    rintro a C ⟨p,hp,hpl,hpr,hC,kC⟩
    have ht := hp.row.tup
    simp (maxSteps := 1000000) (disch := omega) only [s2,s5,s6,ht,SS,eq_self,reduceIte,reduceCtorEq,Nat.reduceEqDiff,Nat.reduceAdd]
    have hE := (hD.keeps kC hC).more (show 1020 + 20 ≤ 1070 by omega)
    have lp : a = .slice none 0 0 ∨ H.length + 2 ≤ rowO a := by
      rcases hp with z | ⟨o,z,z2,_⟩
      · exact .inl z.1
      · right
        rw [z]
        have := at_lt hD.cg
        show H.length + 2 ≤ o
        omega
    exact hc _ _ ⟨a,p,s2,s5,s6,rfl,p9_lok hpl.2 hpr,{ hE with ra := hp.row,la := lp }⟩
  clear s2 s5 s6 s hD B
  rintro s B ⟨a,p,s2,s5,s6,s7,kp,hD⟩
  have lpp := kp.1
  have eo := hD.eo
  have fin : ∀ (s : Sl) (K : AH) (b : Value) (q : List Int) (N : Nat),s 2 = .pointer (some ⟨H.length,0,none⟩) → s 3 = a → s 4 = b → Own 3 H K b q → Frs H A.length gp w a b → LsOk q → SlSt H A.length gp n w es a p v us N K → Q .ret s (K.set H.length (.cells [.int .i64 n,w] 26 false)) := by
    intro s K b q N s2 s3 s4 hb hf kq hD
    obtain ⟨d1,d2,d3,d4,d5⟩ := hD.fin hb.row (own_low hb hf eo)
    refine hQ _ _ _ (end_cell3 _ _ _ _ _ _ _ _ (.agg (List.toArray [.int .i64 n,w])) a b ?_ rfl s3 hD.ra.tup s4 hb.row.tup ⟨n,w,a,b,es,p,q,rfl,d2,hl,hn,hs,d3,kp,d4,kq,d5⟩)
    simp (maxSteps := 1000000) (disch := omega) only [s2,ld_agg ag26 cs26 d1,SS,eq_self,reduceIte,reduceCtorEq,Nat.reduceEqDiff,Nat.reduceAdd]
  refine cutC (fun s K => ∃ b,s 2 = .pointer (some ⟨H.length,0,none⟩) ∧ s 5 = .pointer (some ⟨A.length,0,none⟩) ∧ s 6 = .pointer (some ⟨gp,0,none⟩) ∧ s 7 = a ∧ s 8 = b ∧ Own 3 H K b [] ∧ Frs H A.length gp w a b ∧ SlSt H A.length gp n w es a p v us 1070 K) (fun c hc => ?_) ?_
  · simp (maxSteps := 1000000) (disch := omega) only [s2,s5,s6,s7,SS,eq_self,reduceIte,reduceCtorEq,Nat.reduceEqDiff,Nat.reduceAdd]
    have pX : B <+: B ++ [AObj.cells [] 3 false] := List.prefix_append _ _
    exact hc _ _ ⟨.slice (some ⟨B.length,0,none⟩) 0 0,s2,s5,s6,s7,rfl,.inr ⟨B.length,rfl,hD.pr.length_le,at_new ..⟩,hD.frs (Nat.le_refl _),hD.pre pX⟩
  clear s2 s5 s6 s7 s hD B
  rintro s B ⟨b,s2,s5,s6,s7,s8,hb,hf,hD⟩
  refine cutC (fun s K => s 2 = .pointer (some ⟨H.length,0,none⟩) ∧ s 5 = .pointer (some ⟨A.length,0,none⟩) ∧ s 6 = .pointer (some ⟨gp,0,none⟩) ∧ s 7 = a ∧ s 8 = b ∧ Brd n es p ∧ Own 3 H K b [] ∧ SlSt H A.length gp n w es a p v us 1070 K) (fun c hc => ?_) ?_
  · simp (maxSteps := 1000000) (disch := omega) only [s2,s5,s6,s7,s8,ld_agg ag26 cs26 hD.cg,SS,eq_self,reduceIte,reduceCtorEq,Nat.reduceEqDiff,Nat.reduceAdd]
    refine CallH.by (l9Board_c n w a es p B hD.rw_ (by omega) hD.ra (by omega)) ?_
    rintro _ C ⟨rfl,pC⟩
    have hE := hD.pre pC
    have hbC := own_kp hb hf.2.1 (.of_pre pC)
    by_cases hB : Brd n es p
    · simp (maxSteps := 1000000) (disch := omega) only [s2,s5,s6,s7,s8,decide_eq_true hB,SS,eq_self,reduceIte,reduceCtorEq,Nat.reduceEqDiff,Nat.reduceAdd]
      exact hc _ _ ⟨s2,s5,s6,s7,s8,hB,hbC,hE⟩
    · have hst := st_G hE.rw_ hE.c0 rfl n
      simp (maxSteps := 1000000) (disch := omega) only [s2,s5,s6,s7,s8,decide_eq_false hB,ld_agg ag26 cs26 hE.cg,hst,SS,eq_self,reduceIte,reduceCtorEq,Nat.reduceEqDiff,Nat.reduceAdd]
      refine fin _ _ b [] _ ?_ ?_ ?_ hbC hf ⟨by simp,fun y hy => by simp at hy⟩ hE
      · simp (maxSteps := 1000000) (disch := omega) only [s2,SS,eq_self,reduceIte,reduceCtorEq,Nat.reduceEqDiff,Nat.reduceAdd]
      · simp (maxSteps := 1000000) (disch := omega) only [SS,eq_self,reduceIte,reduceCtorEq,Nat.reduceEqDiff,Nat.reduceAdd]
      · simp (maxSteps := 1000000) (disch := omega) only [SS,eq_self,reduceIte,reduceCtorEq,Nat.reduceEqDiff,Nat.reduceAdd]
  clear s2 s5 s6 s7 s8 hb hD s B
  rintro s B ⟨s2,s5,s6,s7,s8,hB,hb,hD⟩
  have hz := brd_zero hB
  obtain ⟨N,rfl,hg,hbd,h1,h6⟩ := brd_bdS hB
  obtain ⟨h0,hh,hax,-⟩ := hole_of hbd h1
  refine cutC (fun s K => s 2 = .pointer (some ⟨H.length,0,none⟩) ∧ s 5 = .pointer (some ⟨A.length,0,none⟩) ∧ s 6 = .pointer (some ⟨gp,0,none⟩) ∧ s 7 = a ∧ s 8 = b ∧ s 9 = .int .i64 (h0 : Int) ∧ B = K) (fun c hc => ?_) ?_
  · simp (maxSteps := 1000000) (disch := omega) only [s2,s5,s6,s7,s8,SS,eq_self,reduceIte,reduceCtorEq,Nat.reduceEqDiff,Nat.reduceAdd]
    refine CallH.by (l9At_c a p 0 B hD.ra (by omega) hz) ?_
    rintro _ _ ⟨rfl,rfl⟩
    rw [hax]
    simp (maxSteps := 1000000) (disch := omega) only [s2,s5,s6,s7,s8,SS,eq_self,reduceIte,reduceCtorEq,Nat.reduceEqDiff,Nat.reduceAdd]
    exact hc _ _ ⟨s2,s5,s6,s7,s8,rfl,rfl⟩
  clear s2 s5 s6 s7 s8 s
  rintro s _ ⟨s2,s5,s6,s7,s8,s9,rfl⟩
  refine cutC (fun s K => ∃ (b : Value) (q : List Int),s 2 = .pointer (some ⟨H.length,0,none⟩) ∧ s 5 = .pointer (some ⟨A.length,0,none⟩) ∧ s 6 = .pointer (some ⟨gp,0,none⟩) ∧ s 7 = a ∧ s 8 = b ∧ Own 3 H K b q ∧ Frs H A.length gp w a b ∧ (q.length ≤ 8 ∧ ∀ y ∈ q,I64 y) ∧ SlSt H A.length gp (N : Int) w es a p v us 1090 K) (fun c hc => ?_) ?_
  · simp (maxSteps := 1000000) (disch := omega) only [s2,s5,s6,s7,s8,s9,SS,eq_self,reduceIte,reduceCtorEq,Nat.reduceEqDiff,Nat.reduceAdd]
    refine CallH.by (pick_c hD.cr (by omega) 6 (by omega)) ?_
    rintro _ C ⟨⟨k,rfl,hk⟩,hC,oC⟩
    have hE := (hD.keeps oC.keeps hC).more (show 1070 + 1 ≤ 1080 + (6 - k) by omega)
    have hbC := own_kp hb hf.2.1 oC.keeps
    simp (maxSteps := 1000000) (disch := omega) only [s2,s5,s6,s7,s8,s9,SS,eq_self,reduceIte,reduceCtorEq,Nat.reduceEqDiff,Nat.reduceAdd]
    refine LoopH.by (fun m s K => ∃ (b : Value) (q : List Int) (h0 : Nat),m ≤ 6 ∧ (q.length + m ≤ 6 ∧ (∀ y ∈ q,I64 y)) ∧ s 2 = .pointer (some ⟨H.length,0,none⟩) ∧ s 5 = .pointer (some ⟨A.length,0,none⟩) ∧ s 6 = .pointer (some ⟨gp,0,none⟩) ∧ s 7 = a ∧ s 8 = b ∧ s 9 = .int .i64 (h0 : Int) ∧ s 10 = .int .i64 (m : Int) ∧ Own 3 H K b q ∧ Frs H A.length gp w a b ∧ SlSt H A.length gp (N : Int) w es a p v us (1080 + (6 - m)) K) k ?_ ?_
    · have f0 : ([] : List Int).length + k ≤ 6 ∧ (∀ y ∈ ([] : List Int),I64 y) := ⟨by simp; omega,fun y hy => by simp at hy⟩
      refine ⟨b,[],h0,by omega,f0,?_⟩
      simp (maxSteps := 1000000) (disch := omega) only [s2,s5,s6,s7,s8,s9,SS,eq_self,reduceIte,reduceCtorEq,Nat.reduceEqDiff,Nat.reduceAdd]
      (repeat' first | exact hE | exact hbC | exact hf | apply And.intro) <;> first | (simp only [Value.int.injEq,true_and]; omega) | omega | rfl | assumption | (simp; done) | (simp; omega)
    clear s2 s5 s6 s7 s8 s9 hb hf hD hE hbC hC oC hk hax hh h0 b s C
    rintro m s K ⟨b,q,h0,hm,⟨kq1,kq2⟩,s2,s5,s6,s7,s8,s9,s10,hb,hf,hD⟩
    by_cases g : (0 : Int) < (m : Int)
    rotate_left
    · simp (maxSteps := 1000000) (disch := omega) only [s2,s5,s6,s7,s8,s9,s10,decide_eq_false g,SS,eq_self,reduceIte,reduceCtorEq,Nat.reduceEqDiff,Nat.reduceAdd]
      exact hc _ _ ⟨b,q,s2,s5,s6,s7,s8,hb,hf,⟨by omega,kq2⟩,hD.more (by omega)⟩
    simp (maxSteps := 1000000) (disch := omega) only [s2,s5,s6,s7,s8,s9,s10,decide_eq_true g,ld_agg ag26 cs26 hD.cg,SS,eq_self,reduceIte,reduceCtorEq,Nat.reduceEqDiff,Nat.reduceAdd]
    refine CallH.by (l2Neighbors_c (N : Int) w es (h0 : Int) K hD.rw_ (by omega) ⟨by omega,by omega⟩) ?_
    rintro nr C ⟨hnr,pC⟩
    have hnt := hnr.row.tup
    have hDC := hD.pre pC
    have hbC := own_kp hb hf.2.1 (.of_pre pC)
    have hw3 : IntKind.i64.wrap ((m : Int) - 1) = ((m - 1 : Nat) : Int) := by rw [wrap64 (by omega) (by omega)]; omega
    have hnl := nbsU_len es (h0 : Int) (N : Int).toNat
    rw [Int.toNat_natCast] at hnr hnl
    simp (maxSteps := 1000000) (disch := omega) only [s2,s5,s6,s7,s8,s9,s10,hnt,hnr.row.len Tryz.underlying27,SS,eq_self,reduceIte,reduceCtorEq,Nat.reduceEqDiff,Nat.reduceAdd]
    by_cases g2 : (0 : Int) < ((nbsU es (h0 : Int) N).length : Int)
    rotate_left
    · simp (maxSteps := 1000000) (disch := omega) only [s2,s5,s6,s7,s8,s9,s10,hw3,decide_eq_false g2,SS,eq_self,reduceIte,reduceCtorEq,Nat.reduceEqDiff,Nat.reduceAdd]
      have f1 := hDC.more (show 1080 + (6 - m) ≤ 1080 + (6 - (m - 1)) by omega)
      refine ⟨m - 1,by omega,b,q,h0,by omega,⟨by omega,kq2⟩,?_⟩
      (repeat' first | exact f1 | exact hbC | exact hf | apply And.intro) <;> first | (simp only [Value.int.injEq,true_and]; omega) | omega | rfl | assumption | (simp; done) | (simp; omega)
    simp (maxSteps := 1000000) (disch := omega) only [s2,s5,s6,s7,s8,s9,s10,hnr.row.len Tryz.underlying27,decide_eq_true g2,SS,eq_self,reduceIte,reduceCtorEq,Nat.reduceEqDiff,Nat.reduceAdd]
    refine CallH.by (pick_c hDC.cr (by omega) ((nbsU es (h0 : Int) N).length : Int) (by omega)) ?_
    rintro _ D ⟨⟨k2,rfl,hk2⟩,hCD,oD⟩
    have hkl : k2 < (nbsU es (h0 : Int) N).length := by omega
    have hDD := hDC.keeps oD.keeps hCD
    have hbD := own_kp hbC hf.2.1 oD.keeps
    have hlt : A.length < K.length := by
      obtain ⟨_,_,g,_⟩ := hD.cr.cur
      exact at_lt g
    have hnD : Row 3 D nr (nbsU es (h0 : Int) N) := by
      refine row_keeps hnr.row ?_ oD.keeps
      rcases hnr with z | ⟨oo,z,z2,_⟩
      · exact .inl z.1
      · right; rw [z]; show oo ≠ A.length; omega
    have hcell := hnD.cell hkl
    have hmem : (nbsU es (h0 : Int) N).getD k2 0 ∈ nbsU es (h0 : Int) N := by simp [hkl]
    obtain ⟨hx1,_⟩ := (nbsU_mem es (h0 : Int) N _).1 hmem
    obtain ⟨x,hx⟩ : ∃ x : Nat,(nbsU es (h0 : Int) N).getD k2 0 = (x : Int) := ⟨((nbsU es (h0 : Int) N).getD k2 0).toNat,by omega⟩
    rw [hx] at hcell hx1
    obtain ⟨b',L,j1,j2,j3,j4,j5⟩ := hDD.app h hbD hf (by omega) (x : Int)
    simp (maxSteps := 1000000) (disch := omega) only [s2,s5,s6,s7,s8,s9,s10,hnD.ix Tryz.underlying27 cs3,Int.toNat_natCast,hcell,j1,j2,hw3,SS,eq_self,reduceIte,reduceCtorEq,Nat.reduceEqDiff,Nat.reduceAdd]
    have f1 := j5.more (show 1080 + (6 - m) + 1 ≤ 1080 + (6 - (m - 1)) by omega)
    refine ⟨m - 1,by omega,b',q ++ [(x : Int)],x,by omega,⟨by simp; omega,fun y hy => ?_⟩,?_⟩
    · rcases List.mem_append.1 hy with z | z
      · exact kq2 y z
      · simp at z; unfold I64; omega
    (repeat' first | exact f1 | exact j3 | exact j4 | apply And.intro) <;> first | (simp only [Value.int.injEq,true_and]; omega) | omega | rfl | assumption | (simp; done) | (simp; omega)
  clear s2 s5 s6 s7 s8 s9 hb hf hD hh hax h0 b s B
  rintro s B ⟨b,q,s2,s5,s6,s7,s8,hb,hf,⟨kq1,kq2⟩,hD⟩
  refine cutC (fun s K => ∃ (b : Value) (q : List Int),s 2 = .pointer (some ⟨H.length,0,none⟩) ∧ s 6 = .pointer (some ⟨gp,0,none⟩) ∧ s 7 = a ∧ s 8 = b ∧ Own 3 H K b q ∧ Frs H A.length gp w a b ∧ LsOk q ∧ SlSt H A.length gp (N : Int) w es a p v us 1100 K) (fun c hc => ?_) ?_
  · simp (maxSteps := 1000000) (disch := omega) only [s2,s5,s6,s7,s8,SS,eq_self,reduceIte,reduceCtorEq,Nat.reduceEqDiff,Nat.reduceAdd]
    refine CallH.by (one_c hD.cr (by omega) 10 (by omega)) ?_
    rintro _ C ⟨⟨bb,rfl⟩,hC,oC⟩
    have hE := hD.keeps oC.keeps hC
    have hbC := own_kp hb hf.2.1 oC.keeps
    simp (maxSteps := 1000000) (disch := omega) only [s2,s5,s6,s7,s8,SS,eq_self,reduceIte,reduceCtorEq,Nat.reduceEqDiff,Nat.reduceAdd]
    cases bb with
    | false =>
      refine brH.intro (fun q => by cases q) (fun _ => ?_)
      simp (maxSteps := 1000000) (disch := omega) only [SS,eq_self,reduceIte,reduceCtorEq,Nat.reduceEqDiff,Nat.reduceAdd]
      exact hc _ _ ⟨b,q,s2,s6,s7,s8,hbC,hf,⟨by omega,kq2⟩,hE.more (by omega)⟩
    | true =>
      refine brH.intro (fun _ => ?_) (fun q => by cases q)
      simp (maxSteps := 1000000) (disch := omega) only [s2,s5,s6,s7,s8,ld_agg ag26 cs26 hE.cg,SS,eq_self,reduceIte,reduceCtorEq,Nat.reduceEqDiff,Nat.reduceAdd]
      refine CallH.by (node_c hE.cr (by omega) (N : Int) hE.rw_) ?_
      rintro _ D ⟨⟨x,rfl,hx⟩,hCD,kD⟩
      have hDD := hE.keeps kD hCD
      have hbD := own_kp hbC hf.2.1 kD
      obtain ⟨b',L,j1,j2,j3,j4,j5⟩ := hDD.app h hbD hf (by omega) x
      simp (maxSteps := 1000000) (disch := omega) only [s2,s5,s6,s7,s8,j1,j2,SS,eq_self,reduceIte,reduceCtorEq,Nat.reduceEqDiff,Nat.reduceAdd]
      refine hc _ _ ⟨b',q ++ [x],s2,s6,s7,rfl,j3,j4,⟨by simp; omega,fun y hy => ?_⟩,j5.more (by omega)⟩
      rcases List.mem_append.1 hy with z | z
      · exact kq2 y z
      · simp at z; unfold I64; omega
  clear s2 s5 s6 s7 s8 hb hf hD kq1 kq2 s b q B
  rintro s B ⟨b,q,s2,s6,s7,s8,hb,hf,kq,hD⟩
  have hst := st_G hD.rw_ hD.c0 rfl (N : Int)
  simp (maxSteps := 1000000) (disch := omega) only [s2,s6,s7,s8,ld_agg ag26 cs26 hD.cg,hst,SS,eq_self,reduceIte,reduceCtorEq,Nat.reduceEqDiff,Nat.reduceAdd]
  refine fin _ _ b q _ ?_ ?_ ?_ hb hf kq hD
  · simp (maxSteps := 1000000) (disch := omega) only [s2,SS,eq_self,reduceIte,reduceCtorEq,Nat.reduceEqDiff,Nat.reduceAdd]
  · simp (maxSteps := 1000000) (disch := omega) only [SS,eq_self,reduceIte,reduceCtorEq,Nat.reduceEqDiff,Nat.reduceAdd]
  · simp (maxSteps := 1000000) (disch := omega) only [SS,eq_self,reduceIte,reduceCtorEq,Nat.reduceEqDiff,Nat.reduceAdd]
def ords8 : List (Nat × List (Nat × Bool)) := [(12,[(0,false),(1,false),(2,false),(3,false),(4,false),(5,false),(6,false),(7,false),(8,false),(9,false),(10,false),(11,false),(12,false),(13,true)])]
def cd8 : Cd := (.seq (.reg [⟨⟨some 3,Op.box 26 (Operand.tmp 0),none⟩,[]⟩,
  ⟨⟨some 6,Op.assign (Operand.const (Value.slice none 0 0)),none⟩,[]⟩,
  ⟨⟨some 7,Op.assign (Operand.const (Value.bool false)),none⟩,[]⟩]) (.seq (.reg [⟨⟨some 13,Op.buildSlice 27 0 #[],none⟩,[]⟩,
  ⟨⟨some 8,Op.assign (Operand.tmp 13),none⟩,[]⟩]) (.seq (.seq (.reg [⟨⟨some 14,Op.load 26 (Operand.tmp 3),none⟩,[]⟩,
  ⟨⟨some 15,Op.move (Operand.tmp 1),none⟩,[]⟩,
  ⟨⟨some 16,Op.call { callee := (Callee.value (Operand.func 42)),args := #[(Operand.tmp 14),(Operand.tmp 15)],argTypes := #[26,27] },none⟩,[]⟩,
  ⟨⟨some 17,Op.unOp UnOp.not 4 (Operand.tmp 16),none⟩,[]⟩,
  ⟨⟨some 18,Op.move (Operand.tmp 17),none⟩,[]⟩,
  ⟨⟨some 19,Op.load 26 (Operand.tmp 3),some (18,false)⟩,[]⟩,
  ⟨⟨some 20,Op.move (Operand.tmp 2),some (18,false)⟩,[]⟩,
  ⟨⟨some 21,Op.call { callee := (Callee.value (Operand.func 42)),args := #[(Operand.tmp 19),(Operand.tmp 20)],argTypes := #[26,27] },some (18,false)⟩,[]⟩,
  ⟨⟨some 22,Op.unOp UnOp.not 4 (Operand.tmp 21),some (18,false)⟩,[]⟩,
  ⟨⟨some 23,Op.pick (Operand.tmp 18) (Operand.const (Value.bool true)) (Operand.tmp 22),none⟩,[]⟩]) (.cond (Operand.tmp 23) (.seq (.reg [⟨⟨some 24,Op.move (Operand.tmp 8),none⟩,[]⟩,
  ⟨⟨some 6,Op.assign (Operand.tmp 24),none⟩,[]⟩,
  ⟨⟨some 7,Op.assign (Operand.const (Value.bool false)),none⟩,[]⟩]) .ret) .skip)) (.seq (.reg [⟨⟨some 25,Op.load 26 (Operand.tmp 3),none⟩,[]⟩,
  ⟨⟨some 26,Op.move (Operand.tmp 2),none⟩,[]⟩,
  ⟨⟨some 27,Op.call { callee := (Callee.value (Operand.func 43)),args := #[(Operand.tmp 25),(Operand.tmp 26),(Operand.const (Value.bool true))],argTypes := #[26,27,4] },none⟩,[]⟩,
  ⟨⟨some 9,Op.assign (Operand.tmp 27),none⟩,[]⟩]) (.seq (.seq (.reg [⟨⟨some 28,Op.move (Operand.tmp 9),none⟩,[]⟩,
  ⟨⟨some 29,Op.move (Operand.tmp 1),none⟩,[]⟩,
  ⟨⟨some 30,Op.call { callee := (Callee.value (Operand.func 44)),args := #[(Operand.tmp 29)],argTypes := #[27] },none⟩,[]⟩,
  ⟨⟨some 31,Op.indexAddr 27 (Operand.tmp 28) (Operand.tmp 30),none⟩,[]⟩,
  ⟨⟨some 32,Op.load 3 (Operand.tmp 31),none⟩,[]⟩,
  ⟨⟨some 33,Op.binOp BinOp.lss 3 (Operand.tmp 32) (Operand.const (Value.int IntKind.i64 0)) 3,none⟩,[]⟩]) (.cond (Operand.tmp 33) (.seq (.reg [⟨⟨some 34,Op.move (Operand.tmp 8),none⟩,[]⟩,
  ⟨⟨some 6,Op.assign (Operand.tmp 34),none⟩,[]⟩,
  ⟨⟨some 7,Op.assign (Operand.const (Value.bool false)),none⟩,[]⟩]) .ret) .skip)) (.seq (.reg [⟨⟨some 35,Op.load 26 (Operand.tmp 3),none⟩,[]⟩,
  ⟨⟨some 36,Op.move (Operand.tmp 9),none⟩,[]⟩,
  ⟨⟨some 37,Op.move (Operand.tmp 1),none⟩,[]⟩,
  ⟨⟨some 38,Op.call { callee := (Callee.value (Operand.func 45)),args := #[(Operand.tmp 35),(Operand.tmp 36),(Operand.tmp 37),(Operand.const (Value.bool true))],argTypes := #[26,27,27,4] },none⟩,[]⟩,
  ⟨⟨some 10,Op.assign (Operand.tmp 38),none⟩,[]⟩]) (.seq (.reg [⟨⟨some 39,Op.move (Operand.tmp 1),none⟩,[]⟩,
  ⟨⟨some 40,Op.call { callee := (Callee.value (Operand.func 46)),args := #[(Operand.tmp 39),(Operand.const (Value.int IntKind.i64 0))],argTypes := #[27,3] },none⟩,[]⟩,
  ⟨⟨some 11,Op.assign (Operand.tmp 40),none⟩,[]⟩]) (.seq (.seq (.reg [⟨⟨some 12,Op.assign (Operand.const (Value.int IntKind.i64 0)),none⟩,[]⟩]) (.block 0 (.loop (.seq (.seq (.reg [⟨⟨some 41,Op.move (Operand.tmp 12),none⟩,[]⟩,
  ⟨⟨some 42,Op.move (Operand.tmp 10),none⟩,[]⟩,
  ⟨⟨some 43,Op.call { callee := (Callee.builtin Builtin.len),args := #[(Operand.tmp 42)],argTypes := #[24] },none⟩,[]⟩,
  ⟨⟨some 44,Op.binOp BinOp.lss 3 (Operand.tmp 41) (Operand.tmp 43) 3,none⟩,[]⟩]) (.cond (Operand.tmp 44) .skip (.exit 0))) (.seq (.block 1 (.seq (.reg [⟨⟨some 47,Op.move (Operand.tmp 10),none⟩,[]⟩,
  ⟨⟨some 48,Op.move (Operand.tmp 12),none⟩,[]⟩,
  ⟨⟨some 49,Op.indexAddr 24 (Operand.tmp 47) (Operand.tmp 48),none⟩,[]⟩,
  ⟨⟨some 50,Op.indexAddr 53 (Operand.tmp 49) (Operand.const (Value.int IntKind.i64 0)),none⟩,[]⟩,
  ⟨⟨some 51,Op.load 3 (Operand.tmp 50),none⟩,[]⟩,
  ⟨⟨some 52,Op.move (Operand.tmp 10),none⟩,[]⟩,
  ⟨⟨some 53,Op.move (Operand.tmp 12),none⟩,[]⟩,
  ⟨⟨some 54,Op.indexAddr 24 (Operand.tmp 52) (Operand.tmp 53),none⟩,[]⟩,
  ⟨⟨some 55,Op.indexAddr 53 (Operand.tmp 54) (Operand.const (Value.int IntKind.i64 1)),none⟩,[]⟩,
  ⟨⟨some 56,Op.load 3 (Operand.tmp 55),none⟩,[]⟩,
  ⟨⟨some 57,Op.binOp BinOp.add 3 (Operand.tmp 51) (Operand.tmp 56) 3,none⟩,[]⟩,
  ⟨⟨some 58,Op.move (Operand.tmp 11),none⟩,[]⟩,
  ⟨⟨some 59,Op.binOp BinOp.sub 3 (Operand.tmp 57) (Operand.tmp 58) 3,none⟩,[]⟩,
  ⟨⟨some 11,Op.assign (Operand.tmp 59),none⟩,[]⟩]) (.reg [⟨⟨some 60,Op.move (Operand.tmp 8),none⟩,[]⟩,
  ⟨⟨some 61,Op.move (Operand.tmp 11),none⟩,[]⟩,
  ⟨⟨some 62,Op.buildSlice 27 1 #[(0,(Operand.tmp 61))],none⟩,[]⟩,
  ⟨⟨some 63,Op.call { callee := (Callee.builtin Builtin.append),args := #[(Operand.tmp 60),(Operand.tmp 62)],argTypes := #[27,27] },none⟩,[]⟩,
  ⟨⟨some 8,Op.assign (Operand.tmp 63),none⟩,[]⟩]))) (.reg [⟨⟨some 45,Op.move (Operand.tmp 12),none⟩,[]⟩,
  ⟨⟨some 46,Op.binOp BinOp.add 3 (Operand.tmp 45) (Operand.const (Value.int IntKind.i64 1)) 3,none⟩,[]⟩,
  ⟨⟨some 12,Op.assign (Operand.tmp 46),none⟩,[]⟩])))))) (.seq (.reg [⟨⟨some 64,Op.move (Operand.tmp 8),none⟩,[]⟩,
  ⟨⟨some 6,Op.assign (Operand.tmp 64),none⟩,[]⟩,
  ⟨⟨some 7,Op.assign (Operand.const (Value.bool true)),none⟩,[]⟩]) .ret)))))))))
theorem sl8 : slim Tryz.f8.ntmps ords8 (Tryz.f8.body.getD .skip) = some cd8 := by kernel_rfl
theorem in8 {args : List Value} {H : AH} {R : Value → AH → Prop} (hl : args.length = 3) (h : ∀ (Q : Exit → Sl → AH → Prop),(∀ e s H,endA Tryz.prog [ResultVar.tmp 6,ResultVar.tmp 7] R e s H → Q e s H) → wpC Tryz.prog cd8 Q (enterA args) H) : ACalls Tryz.prog 8 args H R :=
  ACalls.intro (by kernel_rfl) Tryz.func8 rfl (by kernel_rfl) sl8 hl (of_decide_eq_true (by kernel_rfl)) (by kernel_rfl) h
def ords10 : List (Nat × List (Nat × Bool)) := []
def cd10 : Cd := (.seq (.reg [⟨⟨some 3,Op.box 26 (Operand.tmp 0),none⟩,[]⟩,
  ⟨⟨some 6,Op.assign (Operand.const (Value.int IntKind.i64 0)),none⟩,[]⟩,
  ⟨⟨some 7,Op.assign (Operand.const (Value.bool false)),none⟩,[]⟩]) (.seq (.seq (.reg [⟨⟨some 8,Op.load 26 (Operand.tmp 3),none⟩,[]⟩,
  ⟨⟨some 9,Op.move (Operand.tmp 1),none⟩,[]⟩,
  ⟨⟨some 10,Op.call { callee := (Callee.value (Operand.func 42)),args := #[(Operand.tmp 8),(Operand.tmp 9)],argTypes := #[26,27] },none⟩,[]⟩,
  ⟨⟨some 11,Op.unOp UnOp.not 4 (Operand.tmp 10),none⟩,[]⟩,
  ⟨⟨some 12,Op.move (Operand.tmp 11),none⟩,[]⟩,
  ⟨⟨some 13,Op.load 26 (Operand.tmp 3),some (12,false)⟩,[]⟩,
  ⟨⟨some 14,Op.move (Operand.tmp 2),some (12,false)⟩,[]⟩,
  ⟨⟨some 15,Op.call { callee := (Callee.value (Operand.func 42)),args := #[(Operand.tmp 13),(Operand.tmp 14)],argTypes := #[26,27] },some (12,false)⟩,[]⟩,
  ⟨⟨some 16,Op.unOp UnOp.not 4 (Operand.tmp 15),some (12,false)⟩,[]⟩,
  ⟨⟨some 17,Op.pick (Operand.tmp 12) (Operand.const (Value.bool true)) (Operand.tmp 16),none⟩,[]⟩]) (.cond (Operand.tmp 17) (.seq (.reg [⟨⟨some 6,Op.assign (Operand.const (Value.int IntKind.i64 0)),none⟩,[]⟩,
  ⟨⟨some 7,Op.assign (Operand.const (Value.bool false)),none⟩,[]⟩]) .ret) .skip)) (.seq (.reg [⟨⟨some 18,Op.load 26 (Operand.tmp 3),none⟩,[]⟩,
  ⟨⟨some 19,Op.move (Operand.tmp 2),none⟩,[]⟩,
  ⟨⟨some 20,Op.call { callee := (Callee.value (Operand.func 43)),args := #[(Operand.tmp 18),(Operand.tmp 19),(Operand.const (Value.bool true))],argTypes := #[26,27,4] },none⟩,[]⟩,
  ⟨⟨some 21,Op.move (Operand.tmp 1),none⟩,[]⟩,
  ⟨⟨some 22,Op.call { callee := (Callee.value (Operand.func 44)),args := #[(Operand.tmp 21)],argTypes := #[27] },none⟩,[]⟩,
  ⟨⟨some 23,Op.indexAddr 27 (Operand.tmp 20) (Operand.tmp 22),none⟩,[]⟩,
  ⟨⟨some 24,Op.load 3 (Operand.tmp 23),none⟩,[]⟩,
  ⟨⟨some 25,Op.call { callee := (Callee.value (Operand.func 47)),args := #[(Operand.tmp 24)],argTypes := #[3] },none⟩,[]⟩,
  ⟨⟨some 26,Op.extract (Operand.tmp 25) 0,none⟩,[]⟩,
  ⟨⟨some 27,Op.extract (Operand.tmp 25) 1,none⟩,[]⟩,
  ⟨⟨some 6,Op.assign (Operand.tmp 26),none⟩,[]⟩,
  ⟨⟨some 7,Op.assign (Operand.tmp 27),none⟩,[]⟩]) .ret)))
theorem sl10 : slim Tryz.f10.ntmps ords10 (Tryz.f10.body.getD .skip) = some cd10 := by kernel_rfl
theorem in10 {args : List Value} {H : AH} {R : Value → AH → Prop} (hl : args.length = 3) (h : ∀ (Q : Exit → Sl → AH → Prop),(∀ e s H,endA Tryz.prog [ResultVar.tmp 6,ResultVar.tmp 7] R e s H → Q e s H) → wpC Tryz.prog cd10 Q (enterA args) H) : ACalls Tryz.prog 10 args H R :=
  ACalls.intro (by kernel_rfl) Tryz.func10 rfl (by kernel_rfl) sl10 hl (of_decide_eq_true (by kernel_rfl)) (by kernel_rfl) h
end Go.Proofs.YtelafbennmclfaaGreat.Ai
namespace Go.Proofs.YtelafbennmclfaaGreat.Ai
open Go Go.RowKit
def hlF : Int → List (Int × Int) → List Int
  | _,[] => []
  | h,e :: r => (e.1 + e.2 - h) :: hlF (e.1 + e.2 - h) r
theorem hlF_pth {n : Nat} (hn : n ≤ 6) {es : List (Int × Int)} (hg : Grd (n : Int) es) {p : List Int} (hp : Bd n p) : ∀ (d : Nat) (q : List Int) (h : Nat),Bd n q → bdD (bdR es true p) q = some (d : Int) → h < n → q.getD h 0 = 0 →
    hlF (h : Int) ((pthL (bdR es true p) es true d q).map (·.1)) = (pthL (bdR es true p) es true d q).map (fun t => othB t.2 t.1) ∧ ∀ x ∈ (pthL (bdR es true p) es true d q).map (fun t => othB t.2 t.1),0 ≤ x ∧ x < n
  | 0,q,h,_,_,_,_ => ⟨rfl,fun x hx => by simp [pthL] at hx⟩
  | d + 1,q,h,hq,hd,hh,h0 => by
    obtain ⟨e,h1,h2,h3⟩ := fst1_some hn hg true hp hd
    obtain ⟨k0,k1,k2⟩ := (oth_srt hg hq hh h0).2 e h2
    obtain ⟨g1,g2,g3⟩ := grd_mem hg (mvs_mem h2).1
    have hsum : e.1 + e.2 - (h : Int) = othB q e := by
      rcases k1 with g | g
      · have e1 := congrArg Prod.fst g
        have e2 := congrArg Prod.snd g
        simp only at e1 e2
        omega
      · have e1 := congrArg Prod.fst g
        have e2 := congrArg Prod.snd g
        simp only at e1 e2
        omega
    have hor : 0 ≤ othB q e ∧ othB q e < n := by
      rcases k1 with g | g
      · have e2 := congrArg Prod.snd g
        simp only at e2
        omega
      · have e1 := congrArg Prod.fst g
        simp only at e1
        omega
    have hql := hq.2
    obtain ⟨x,hx⟩ : ∃ x : Nat,othB q e = x := ⟨(othB q e).toNat,by omega⟩
    have hq2 := nxt_bd hg true hq (swp q e.1.toNat e.2.toNat) (List.mem_map.2 ⟨e,h2,rfl⟩)
    have hz : (swp q e.1.toNat e.2.toNat).getD x 0 = 0 := by
      rw [k2,hx,Int.toNat_natCast,swp_at q x h x (by omega) (by omega) (by omega),if_neg (by omega),if_pos rfl]
      exact h0
    obtain ⟨r1,r2⟩ := hlF_pth hn hg hp d (swp q e.1.toNat e.2.toNat) x hq2 h3 (by omega) hz
    simp only [pthL,h1,List.map_cons,hlF]
    rw [hsum,hx,r1]
    refine ⟨rfl,fun y hy => ?_⟩
    rcases List.mem_cons.1 hy with rfl | hy
    · omega
    · exact r2 y hy
theorem pthL_es (S0 : List (List Int × Int)) (es : List (Int × Int)) (sl : Bool) : ∀ (d : Nat) (q : List Int),∀ t ∈ pthL S0 es sl d q,t.1 ∈ es
  | 0,q,t,h => by simp [pthL] at h
  | d + 1,q,t,h => by
    simp only [pthL] at h
    split at h
    · rename_i e he
      rcases List.mem_cons.1 h with rfl | h
      · exact (mvs_mem (List.mem_of_find?_eq_some he)).1
      · exact pthL_es S0 es sl d _ t h
    · simp at h
theorem hlF_step (h : Int) (P : List (Int × Int)) (i : Nat) (hi : i < P.length) : hlF h (P.drop i) = ((P.getD i (0,0)).1 + (P.getD i (0,0)).2 - h) :: hlF ((P.getD i (0,0)).1 + (P.getD i (0,0)).2 - h) (P.drop (i + 1)) := by
  rw [List.drop_eq_getElem_cons hi]
  have : P.getD i (0,0) = P[i] := by simp [hi]
  rw [this]; rfl
set_option maxRecDepth 20000 in
set_option maxHeartbeats 8000000 in
theorem SlS_c (n : Int) (v w u : Value) (es : List (Int × Int)) (a b : List Int) (H : AH) (hr : RowP 53 H v es) (hlen : es.length ≤ 1099511627776) (hes : ∀ y ∈ es,I64 y.1 ∧ I64 y.2) (ha : Row 3 H w a) (hla : a.length ≤ 1099511627776) (hxa : ∀ y ∈ a,I64 y) (hb : Row 3 H u b) (hlb : b.length ≤ 1099511627776) (hxb : ∀ y ∈ b,I64 y) (hn : I64 n) :
    ACalls Tryz.prog 8 [.agg (List.toArray [.int .i64 n,v]),w,u] H fun r H' => ∃ g,r = .tuple (List.toArray [g,.bool (slD n es a b).isSome]) ∧ Mine 3 H H' g (slP n es a b) ∧ H <+: H' := by
  refine in8 rfl ?_
  intro Q hQ
  simp (maxSteps := 1000000) (disch := omega) only [cd8,hr.boxG,SS,eq_self,reduceIte,reduceCtorEq,Nat.reduceEqDiff,Nat.reduceAdd]
  generalize hA0 : H ++ [AObj.cells [.int .i64 n,v] 26 false] = A0
  have pA0 : H <+: A0 := by rw [← hA0]; exact List.prefix_append _ _
  have cA0 : A0[H.length]? = some (.cells [.int .i64 n,v] 26 false) := by rw [← hA0]; exact at_new ..
  have rA0 := hr.pre pA0
  try simp (maxSteps := 1000000) (disch := omega) only [SS,eq_self,reduceIte,reduceCtorEq,Nat.reduceEqDiff,Nat.reduceAdd]
  generalize hA : A0 ++ [AObj.cells [] 3 false] = A
  have pA1 : A0 <+: A := by rw [← hA]; exact List.prefix_append _ _
  have lA0 : A0.length = H.length + 1 := by rw [← hA0]; simp
  have cA1 : A[A0.length]? = some (.cells (ints []) 3 false) := by rw [← hA]; exact at_new ..
  have lA : A.length = A0.length + 1 := by rw [← hA]; simp
  have pA := pA0.trans pA1
  have cA := pre_at pA1 cA0
  have rA := rA0.pre pA1
  simp (maxSteps := 1000000) (disch := omega) only [ld_agg ag26 cs26 cA,SS,eq_self,reduceIte,reduceCtorEq,Nat.reduceEqDiff,Nat.reduceAdd]
  refine CallH.by (l9Board_c n v w es a A rA hlen (ha.pre pA) hla) ?_
  rintro _ B ⟨rfl,pB⟩
  have cB := pre_at pB cA
  have pHB := pA.trans pB
  have rB := rA.pre pB
  have own0 : ∀ K : AH,A <+: K → Own 3 A0 K (.slice (some ⟨A0.length,0,none⟩) 0 0) [] := fun K hK => .inr ⟨A0.length,rfl,Nat.le_refl _,pre_at hK cA1⟩
  have no : slD n es a b = none → ∀ K : AH,A <+: K → ∃ g,(Value.tuple (List.toArray [.slice (some ⟨A0.length,0,none⟩) 0 0,.bool false])) = .tuple (List.toArray [g,.bool (slD n es a b).isSome]) ∧ Mine 3 H K g (slP n es a b) := fun h K hK => ⟨_,by rw [h]; rfl,by
    have : slP n es a b = [] := by unfold slP; rw [h]
    rw [this]; exact ((own0 K hK).base pA0).mine⟩
  simp (maxSteps := 1000000) (disch := omega) only [SS,eq_self,reduceIte,reduceCtorEq,Nat.reduceEqDiff,Nat.reduceAdd]
  refine brD.intro (fun e => ?_) (fun e => ?_) <;> simp (maxSteps := 1000000) (disch := omega) only [e,SS,eq_self,reduceIte,reduceCtorEq,Nat.reduceEqDiff,Nat.reduceAdd]
  rotate_left
  · refine hQ _ _ _ ?_
    simp (maxSteps := 1000000) (disch := omega) only [SS,eq_self,reduceIte,reduceCtorEq,Nat.reduceEqDiff,Nat.reduceAdd]
    obtain ⟨g,h1,h2⟩ := no (by unfold slD; rw [if_neg (fun h => e h.1)]) B pB
    exact ⟨g,h1,h2,pHB⟩
  simp (maxSteps := 1000000) (disch := omega) only [e,ld_agg ag26 cs26 cB,SS,eq_self,reduceIte,reduceCtorEq,Nat.reduceEqDiff,Nat.reduceAdd]
  refine CallH.by (l9Board_c n v u es b B rB hlen (hb.pre pHB) hlb) ?_
  rintro _ C ⟨rfl,pC⟩
  have cC := pre_at pC cB
  have pHC := pHB.trans pC
  have pAC := pB.trans pC
  have rC := rB.pre pC
  simp (maxSteps := 1000000) (disch := omega) only [e,SS,eq_self,reduceIte,reduceCtorEq,Nat.reduceEqDiff,Nat.reduceAdd]
  refine brD.intro (fun e2 => ?_) (fun e2 => ?_) <;> simp (maxSteps := 1000000) (disch := omega) only [e,e2,SS,eq_self,reduceIte,reduceCtorEq,Nat.reduceEqDiff,Nat.reduceAdd]
  rotate_left
  · refine hQ _ _ _ ?_
    simp (maxSteps := 1000000) (disch := omega) only [SS,eq_self,reduceIte,reduceCtorEq,Nat.reduceEqDiff,Nat.reduceAdd]
    obtain ⟨g,h1,h2⟩ := no (by unfold slD; rw [if_neg (fun h => e2 h.2)]) C pAC
    exact ⟨g,h1,h2,pHC⟩
  have hD0 : slD n es a b = bdD (bdR es true b) a := by unfold slD; rw [if_pos ⟨e,e2⟩]
  obtain ⟨k,hk,hg,hbb,h1,h6⟩ := brd_bdS e2
  subst hk
  have hba : Bd k a := by
    obtain ⟨k',hk',_,hb',_,_⟩ := brd_bdS e
    have : k = k' := by omega
    rw [this]; exact hb'
  have hl := grd_few hg
  simp (maxSteps := 1000000) (disch := omega) only [ld_agg ag26 cs26 cC,SS,eq_self,reduceIte,reduceCtorEq,Nat.reduceEqDiff,Nat.reduceAdd]
  refine CallH.by (l9Spread_c k v u es b true C rC (by omega) (hb.pre pHC) hg hbb h6) ?_
  rintro f D ⟨hf,pD⟩
  have pHD := pHC.trans pD
  have pAD := pAC.trans pD
  have cD := pre_at pD cC
  have rD := rC.pre pD
  have aD := ha.pre pHD
  have hI := bdR_I h6 hg true hbb
  obtain ⟨zp,hzp,hzpl⟩ := cod_nat h6 hba
  have hat := spL_at h6 hba hI.ok
  rw [hzp,Int.toNat_natCast,← hD0] at hat
  have hfr := hf.row
  have hcz := hfr.cell (show zp < (spL (mny k) (bdR es true b)).length by rw [spL_len]; exact hzpl)
  rw [hat] at hcz
  have hslen := spL_len (mny k) (bdR es true b)
  have hal := hba.2
  simp (maxSteps := 1000000) (disch := omega) only [SS,eq_self,reduceIte,reduceCtorEq,Nat.reduceEqDiff,Nat.reduceAdd]
  refine CallH.by (l9Code_c w a D aD (by omega)) ?_
  rintro _ _ ⟨rfl,rfl⟩
  rw [hzp]
  simp (maxSteps := 1000000) (disch := omega) only [hfr.ix Tryz.underlying27 cs3,Int.toNat_natCast,hcz,SS,eq_self,reduceIte,reduceCtorEq,Nat.reduceEqDiff,Nat.reduceAdd]
  cases hd : slD (k : Int) es a b with
  | none =>
    rw [hd] at no
    have hlt : ((-1 : Int) < 0) := by decide
    simp (maxSteps := 1000000) (disch := omega) only [Option.getD_none,decide_eq_true hlt,SS,eq_self,reduceIte,reduceCtorEq,Nat.reduceEqDiff,Nat.reduceAdd]
    refine hQ _ _ _ ?_
    simp (maxSteps := 1000000) (disch := omega) only [SS,eq_self,reduceIte,reduceCtorEq,Nat.reduceEqDiff,Nat.reduceAdd]
    obtain ⟨g,h1,h2⟩ := no rfl D pAD
    rw [hd]
    exact ⟨g,h1,h2,pHD⟩
  | some x =>
  obtain ⟨hd0,hd7⟩ := slD_rng hd
  have hK : slP (k : Int) es a b = (pthL (bdR es true b) es true x.toNat a).map (fun t => othB t.2 t.1) := by unfold slP; rw [hd]
  have hnlt : ¬ (x < 0) := by omega
  rw [hd] at hD0
  have hDx : bdD (bdR es true b) a = some ((x.toNat : Nat) : Int) := by rw [Int.toNat_of_nonneg hd0]; exact hD0.symm
  simp (maxSteps := 1000000) (disch := omega) only [Option.getD_some,decide_eq_false hnlt,ld_agg ag26 cs26 cD,SS,eq_self,reduceIte,reduceCtorEq,Nat.reduceEqDiff,Nat.reduceAdd]
  refine CallH.by (l9Steps_c k v f w es b a true x.toNat D rD (by omega) aD hg hbb hba h6 (fun _ => h1) hfr hDx (by omega)) ?_
  rintro g E ⟨hgE,pE⟩
  have aE := aD.pre pE
  have pHE := pHD.trans pE
  have pAE := pAD.trans pE
  have hz : (0 : Int) ∈ a := hba.1.2 0 (by omega)
  obtain ⟨h,hh1,hh2,hh3⟩ := ax_at hz
  simp (maxSteps := 1000000) (disch := omega) only [SS,eq_self,reduceIte,reduceCtorEq,Nat.reduceEqDiff,Nat.reduceAdd]
  refine CallH.by (l9At_c w a 0 E aE (by omega) hz) ?_
  rintro _ _ ⟨rfl,rfl⟩
  rw [hh2]
  obtain ⟨r1,r2⟩ := hlF_pth h6 hg hbb x.toNat a h hba hDx (by omega) hh3
  have hpl := pthL_len h6 hg true hbb x.toNat a hDx
  have hPes : ∀ e ∈ (pthL (bdR es true b) es true x.toNat a).map (·.1),0 ≤ e.1 ∧ e.1 < e.2 ∧ e.2 < (k : Int) := fun e he => by
    obtain ⟨t,ht,rfl⟩ := List.mem_map.1 he
    exact grd_mem hg (pthL_es _ _ _ _ _ t ht)
  have hPl : ((pthL (bdR es true b) es true x.toNat a).map (·.1)).length = x.toNat := by rw [List.length_map]; exact hpl
  have hgr := hgE.row
  rw [hd,hK] at hQ
  generalize hP : (pthL (bdR es true b) es true x.toNat a).map (·.1) = P at *
  generalize hO : (pthL (bdR es true b) es true x.toNat a).map (fun t => othB t.2 t.1) = O at *
  have own1 := own0 E pAE
  have pA0E := pA1.trans pAE
  have hgo : g = .slice none 0 0 ∨ (A0.length + 1 ≤ rowO g ∧ rowO g < E.length) := by
    rcases InP.of hgE with q | ⟨oo,zs,q1,q2,q3,_⟩
    · exact .inl q.1
    · refine .inr ?_
      rw [q1]
      have := pAD.length_le
      show A0.length + 1 ≤ oo ∧ oo < E.length
      omega
  simp (maxSteps := 1000000) (disch := omega) only [SS,eq_self,reduceIte,reduceCtorEq,Nat.reduceEqDiff,Nat.reduceAdd]
  refine LoopH.by (fun m s H' => ∃ (i : Nat) (c : Int) (out : List Int),m + i = P.length ∧ s 10 = g ∧ s 11 = .int .i64 c ∧ s 12 = .int .i64 ((i : Nat) : Int) ∧ (0 ≤ c ∧ c < 8) ∧ out ++ hlF c (P.drop i) = O ∧ out.length = i ∧ i ≤ P.length ∧ Own 3 A0 H' (s 8) out ∧ (rowO (s 8) = A0.length ∨ E.length ≤ rowO (s 8)) ∧ RowP 53 H' g P ∧ E.length ≤ H'.length ∧ A0 <+: H') P.length ?_ ?_
  · refine ⟨0,(h : Int),[],?_⟩
    have f1 : [] ++ hlF (h : Int) (P.drop 0) = O := r1
    have f2 : rowO (.slice (some ⟨A0.length,0,none⟩) 0 0) = A0.length ∨ E.length ≤ rowO (.slice (some ⟨A0.length,0,none⟩) 0 0) := .inl rfl
    simp (maxSteps := 1000000) (disch := omega) only [SS,eq_self,reduceIte,reduceCtorEq,Nat.reduceEqDiff,Nat.reduceAdd]
    (repeat' first | exact f1 | exact own1 | exact f2 | exact hgr | exact pA0E | apply And.intro) <;> first | (simp only [Value.int.injEq,true_and]; omega) | omega | rfl | assumption | (simp; done) | (simp; omega)
  rintro m s H' ⟨i,c,out,hm,k10,k11,k12,hc,hout,hol,hiP,hmo,hUo,hgH,hEl,hpp⟩
  generalize hU : s 8 = U at *
  simp (maxSteps := 1000000) (disch := omega) only [k10,k11,k12,hU,hgH.len Tryz.underlying24,SS,eq_self,reduceIte,reduceCtorEq,Nat.reduceEqDiff,Nat.reduceAdd]
  refine brD.intro (fun q => ?_) (fun q => ?_)
  · have hi : i < P.length := by omega
    rw [hlF_step c P i hi] at hout
    have hc0 := hgH.cell0 hi
    have hc1 := hgH.cell1 hi
    have hmem : (P.getD i (0,0)).1 + (P.getD i (0,0)).2 - c ∈ O := by rw [← hout]; simp
    have hrg := r2 _ hmem
    have hpm : P.getD i (0,0) ∈ P := by simp [hi]
    obtain ⟨z1,z2,z3⟩ := hPes _ hpm
    have hgap : Apart g U := by
      rcases hgo with q1 | q1
      · exact .inr (.inl q1)
      · exact .inr (.inr (by omega))
    generalize hc2 : (P.getD i (0,0)).1 + (P.getD i (0,0)).2 - c = c2 at *
    obtain ⟨U',H2,j1,j2,j3,j4,j5,j6⟩ := own1_27 hmo hpp (by omega) c2
    have f1 := hgH.kept hgap j4
    have f2 : (out ++ [c2]) ++ hlF c2 (P.drop (i + 1)) = O := by rw [← hout,List.append_assoc]; rfl
    have f3 : (out ++ [c2]).length = i + 1 := by rw [List.length_append,hol]; rfl
    have f4 : rowO U' = A0.length ∨ E.length ≤ rowO U' := .inr (by omega)
    have f5 : E.length ≤ H2.length := by
      rcases j2 with q1 | ⟨oo,q1,q2,q3⟩
      · have := congrArg List.length q1.2; simp at this
      · have := at_lt q3
        rw [q1] at j5
        have j5' : H'.length ≤ oo := j5
        omega
    simp (maxSteps := 1000000) (disch := omega) only [k10,k11,k12,hU,hgH.ix Tryz.underlying24 cs53,Int.toNat_natCast,hc0,hc1,wrap64,hc2,j1,SS,eq_self,reduceIte,reduceCtorEq,Nat.reduceEqDiff,Nat.reduceAdd]
    refine ⟨m - 1,by omega,i + 1,c2,out ++ [c2],?_⟩
    (repeat' first | exact f1 | exact f2 | exact f3 | exact f4 | exact f5 | exact j2 | exact j3 | apply And.intro) <;> first | (simp only [Value.int.injEq,true_and]; omega) | omega | rfl | assumption | (simp; done) | (simp; omega)
  · simp (maxSteps := 1000000) (disch := omega) only [hU,SS,eq_self,reduceIte,reduceCtorEq,Nat.reduceEqDiff,Nat.reduceAdd]
    refine hQ _ _ _ ?_
    simp (maxSteps := 1000000) (disch := omega) only [hU,hmo.row.tup,SS,eq_self,reduceIte,reduceCtorEq,Nat.reduceEqDiff,Nat.reduceAdd]
    rw [List.drop_of_length_le (by omega)] at hout
    have hout' : out = O := by rw [← hout]; simp [hlF]
    rw [← hout']
    exact ⟨U,rfl,(hmo.base pA0).mine,pA0.trans hpp⟩
set_option maxRecDepth 20000 in
set_option maxHeartbeats 4000000 in
theorem SlDS_c (n : Int) (v w u : Value) (es : List (Int × Int)) (a b : List Int) (H : AH) (hr : RowP 53 H v es) (hlen : es.length ≤ 1099511627776) (hes : ∀ y ∈ es,I64 y.1 ∧ I64 y.2) (ha : Row 3 H w a) (hla : a.length ≤ 1099511627776) (hxa : ∀ y ∈ a,I64 y) (hb : Row 3 H u b) (hlb : b.length ≤ 1099511627776) (hxb : ∀ y ∈ b,I64 y) (hn : I64 n) :
    ACalls Tryz.prog 10 [.agg (List.toArray [.int .i64 n,v]),w,u] H fun r H' => r = .tuple (List.toArray [.int .i64 ((slD n es a b).getD 0),.bool (slD n es a b).isSome]) ∧ H <+: H' := by
  refine in10 rfl ?_
  intro Q hQ
  simp (maxSteps := 1000000) (disch := omega) only [cd10,hr.boxG,SS,eq_self,reduceIte,reduceCtorEq,Nat.reduceEqDiff,Nat.reduceAdd]
  generalize hA : H ++ [AObj.cells [.int .i64 n,v] 26 false] = A
  have pA : H <+: A := by rw [← hA]; exact List.prefix_append _ _
  have cA : A[H.length]? = some (.cells [.int .i64 n,v] 26 false) := by rw [← hA]; exact at_new ..
  have rA := hr.pre pA
  simp (maxSteps := 1000000) (disch := omega) only [ld_agg ag26 cs26 cA,SS,eq_self,reduceIte,reduceCtorEq,Nat.reduceEqDiff,Nat.reduceAdd]
  refine CallH.by (l9Board_c n v w es a A rA hlen (ha.pre pA) hla) ?_
  rintro _ B ⟨rfl,pB⟩
  have cB := pre_at pB cA
  have pHB := pA.trans pB
  have rB := rA.pre pB
  simp (maxSteps := 1000000) (disch := omega) only [SS,eq_self,reduceIte,reduceCtorEq,Nat.reduceEqDiff,Nat.reduceAdd]
  refine brD.intro (fun e => ?_) (fun e => ?_) <;> simp (maxSteps := 1000000) (disch := omega) only [e,SS,eq_self,reduceIte,reduceCtorEq,Nat.reduceEqDiff,Nat.reduceAdd]
  rotate_left
  · refine hQ _ _ _ ?_
    simp (maxSteps := 1000000) (disch := omega) only [SS,eq_self,reduceIte,reduceCtorEq,Nat.reduceEqDiff,Nat.reduceAdd]
    have : slD n es a b = none := by unfold slD; rw [if_neg (fun h => e h.1)]
    rw [this]
    exact ⟨rfl,pHB⟩
  simp (maxSteps := 1000000) (disch := omega) only [e,ld_agg ag26 cs26 cB,SS,eq_self,reduceIte,reduceCtorEq,Nat.reduceEqDiff,Nat.reduceAdd]
  refine CallH.by (l9Board_c n v u es b B rB hlen (hb.pre pHB) hlb) ?_
  rintro _ C ⟨rfl,pC⟩
  have cC := pre_at pC cB
  have pHC := pHB.trans pC
  have rC := rB.pre pC
  simp (maxSteps := 1000000) (disch := omega) only [e,SS,eq_self,reduceIte,reduceCtorEq,Nat.reduceEqDiff,Nat.reduceAdd]
  refine brD.intro (fun e2 => ?_) (fun e2 => ?_) <;> simp (maxSteps := 1000000) (disch := omega) only [e,e2,SS,eq_self,reduceIte,reduceCtorEq,Nat.reduceEqDiff,Nat.reduceAdd]
  rotate_left
  · refine hQ _ _ _ ?_
    simp (maxSteps := 1000000) (disch := omega) only [SS,eq_self,reduceIte,reduceCtorEq,Nat.reduceEqDiff,Nat.reduceAdd]
    have : slD n es a b = none := by unfold slD; rw [if_neg (fun h => e2 h.2)]
    rw [this]
    exact ⟨rfl,pHC⟩
  have hD0 : slD n es a b = bdD (bdR es true b) a := by unfold slD; rw [if_pos ⟨e,e2⟩]
  obtain ⟨k,hk,hg,hbb,h1,h6⟩ := brd_bdS e2
  subst hk
  have hba : Bd k a := by
    obtain ⟨k',hk',_,hb',_,_⟩ := brd_bdS e
    have : k = k' := by omega
    rw [this]; exact hb'
  have hl := grd_few hg
  simp (maxSteps := 1000000) (disch := omega) only [ld_agg ag26 cs26 cC,SS,eq_self,reduceIte,reduceCtorEq,Nat.reduceEqDiff,Nat.reduceAdd]
  refine CallH.by (l9Spread_c k v u es b true C rC (by omega) (hb.pre pHC) hg hbb h6) ?_
  rintro f D ⟨hf,pD⟩
  have pHD := pHC.trans pD
  have aD := ha.pre pHD
  have hI := bdR_I h6 hg true hbb
  obtain ⟨zp,hzp,hzpl⟩ := cod_nat h6 hba
  have hat := spL_at h6 hba hI.ok
  rw [hzp,Int.toNat_natCast,← hD0] at hat
  have hfr := hf.row
  have hcz := hfr.cell (show zp < (spL (mny k) (bdR es true b)).length by rw [spL_len]; exact hzpl)
  rw [hat] at hcz
  have hslen := spL_len (mny k) (bdR es true b)
  have hal := hba.2
  simp (maxSteps := 1000000) (disch := omega) only [SS,eq_self,reduceIte,reduceCtorEq,Nat.reduceEqDiff,Nat.reduceAdd]
  refine CallH.by (l9Code_c w a D aD (by omega)) ?_
  rintro _ _ ⟨rfl,rfl⟩
  rw [hzp]
  simp (maxSteps := 1000000) (disch := omega) only [hfr.ix Tryz.underlying27 cs3,Int.toNat_natCast,hcz,SS,eq_self,reduceIte,reduceCtorEq,Nat.reduceEqDiff,Nat.reduceAdd]
  refine CallH.by (l9Told_c _ D) ?_
  rintro _ _ ⟨rfl,rfl⟩
  simp (maxSteps := 1000000) (disch := omega) only [SS,eq_self,reduceIte,reduceCtorEq,Nat.reduceEqDiff,Nat.reduceAdd]
  refine hQ _ _ _ ?_
  simp (maxSteps := 1000000) (disch := omega) only [SS,eq_self,reduceIte,reduceCtorEq,Nat.reduceEqDiff,Nat.reduceAdd]
  refine ⟨?_,pHD⟩
  cases hd : slD (k : Int) es a b with
  | none => rfl
  | some x =>
    obtain ⟨hd0,hd7⟩ := slD_rng hd
    simp only [Option.getD_some,Option.isSome_some]
    rw [decide_eq_true hd0]
    by_cases hx0 : 0 < x
    · rw [if_pos hx0]
    · rw [if_neg hx0]
      have : x = 0 := by omega
      rw [this]
def freeK (es : List (Int × Int)) (b : List Int) (c : Int) : Nat → Bool
  | 0 => true
  | j + 1 => freeK es b c j && (decide (b.getD j 0 ≠ c) || !nearB es (j : Int) (b.length : Int))
def tryC (es : List (Int × Int)) (rec : List Int → List (List Int) → List (List Int)) (b : List Int) : Nat → Nat → List (List Int) → List (List Int)
  | 0,_,ls => ls
  | d + 1,c,ls => tryC es rec b d (c + 1) (if ls.length ≤ 300 ∧ freeK es b (c : Int) b.length = true then rec (b ++ [(c : Int)]) ls else ls)
def moreL (es : List (Int × Int)) : Nat → List Int → List (List Int) → List (List Int)
  | 0 => fun b ls => ls ++ [b]
  | f + 1 => fun b ls => tryC es (moreL es f) b 2 0 ls
theorem moreL_ne (es : List (Int × Int)) : ∀ f b ls,ls ≠ [] → moreL es f b ls ≠ []
  | 0,b,ls,h => by simp [moreL]
  | f + 1,b,ls,h => by
    have key : ∀ d c ls,ls ≠ [] → tryC es (moreL es f) b d c ls ≠ [] := by
      intro d
      induction d with
      | zero => intro c ls h; exact h
      | succ d ih =>
        intro c ls h
        simp only [tryC]
        refine ih (c + 1) _ ?_
        split
        · exact moreL_ne es f _ ls h
        · exact h
    exact key 2 0 ls h
theorem freeK_iff (es : List (Int × Int)) (b : List Int) (c : Int) (k : Nat) : freeK es b c k = true ↔ ∀ y,y < k → b.getD y 0 ≠ c ∨ nearB es (y : Int) (b.length : Int) = false := by
  induction k with
  | zero => simp [freeK]
  | succ k ih =>
    simp only [freeK,Bool.and_eq_true,ih,Bool.or_eq_true,decide_eq_true_eq,Bool.not_eq_true']
    constructor
    · rintro ⟨h1,h2⟩ y hy
      by_cases e : y = k
      · subst e; exact h2
      · exact h1 y (by omega)
    · intro h
      exact ⟨fun y hy => h y (by omega),h k (by omega)⟩
def Col2 (es : List (Int × Int)) (N : Nat) (g : Nat → Int) : Prop := (∀ i,i < N → g i = 0 ∨ g i = 1) ∧ ∀ i j : Nat,i < N → j < N → nearB es (i : Int) (j : Int) = true → g i ≠ g j
def Ext2 (es : List (Int × Int)) (N : Nat) (b : List Int) : Prop := ∃ g,Col2 es N g ∧ ∀ i,i < b.length → g i = b.getD i 0
theorem moreL_iff {n : Int} {es : List (Int × Int)} (hg : Grd n es) : ∀ f b,Col2 es b.length (fun i => b.getD i 0) → (moreL es f b [] ≠ [] ↔ Ext2 es (b.length + f) b)
  | 0,b,hb => by
    refine ⟨fun _ => ⟨_,hb,fun _ _ => rfl⟩,fun _ => ?_⟩
    simp [moreL]
  | f + 1,b,hb => by
    have at1 : ∀ (c : Int) i,(b ++ [c]).getD i 0 = if i < b.length then b.getD i 0 else if i = b.length then c else 0 := by
      intro c i
      rw [List.getD_eq_getElem?_getD,List.getElem?_append]
      split
      · rw [← List.getD_eq_getElem?_getD]
      · split
        · rename_i h; subst h; simp
        · rename_i h1 h2
          rw [List.getElem?_eq_none (by simp; omega)]; rfl
    have col : ∀ c : Int,(c = 0 ∨ c = 1) → freeK es b c b.length = true → Col2 es (b ++ [c]).length (fun i => (b ++ [c]).getD i 0) := by
      intro c hc hf
      rw [freeK_iff] at hf
      refine ⟨fun i hi => ?_,fun i j hi hj hn => ?_⟩
      · simp only [at1]
        simp only [List.length_append,List.length_cons,List.length_nil] at hi
        split
        · rename_i h; exact hb.1 i h
        · rw [if_pos (by omega)]; exact hc
      · simp only [at1]
        simp only [List.length_append,List.length_cons,List.length_nil] at hi hj
        have hne := (near_rng hg hn).2.2
        by_cases h1 : i < b.length
        · rw [if_pos h1]
          by_cases h2 : j < b.length
          · rw [if_pos h2]; exact hb.2 i j h1 h2 hn
          · have : j = b.length := by omega
            subst this
            rw [if_neg h2,if_pos rfl]
            rcases hf i h1 with h | h
            · exact h
            · rw [h] at hn; exact absurd hn (by decide)
        · have : i = b.length := by omega
          subst this
          rw [if_neg h1,if_pos rfl]
          have h2 : j < b.length := by omega
          rw [if_pos h2]
          rcases hf j h2 with h | h
          · exact fun e => h e.symm
          · rw [nearB_comm,h] at hn; exact absurd hn (by decide)
    have ext : ∀ c : Int,Ext2 es ((b ++ [c]).length + f) (b ++ [c]) → Ext2 es (b.length + (f + 1)) b := by
      rintro c ⟨g,h1,h2⟩
      have e : (b ++ [c]).length + f = b.length + (f + 1) := by simp; omega
      rw [e] at h1
      refine ⟨g,h1,fun i hi => ?_⟩
      rw [h2 i (by simp; omega),at1,if_pos hi]
    have back : Ext2 es (b.length + (f + 1)) b → ∃ c : Int,(c = 0 ∨ c = 1) ∧ freeK es b c b.length = true ∧ Ext2 es ((b ++ [c]).length + f) (b ++ [c]) := by
      rintro ⟨g,h1,h2⟩
      refine ⟨g b.length,h1.1 _ (by omega),?_,g,?_,fun i hi => ?_⟩
      · rw [freeK_iff]
        intro y hy
        by_cases hn : nearB es (y : Int) (b.length : Int) = true
        · left
          rw [← h2 y hy]
          exact h1.2 y b.length (by omega) (by omega) hn
        · right; simpa using hn
      · have e : (b ++ [g b.length]).length + f = b.length + (f + 1) := by simp; omega
        rw [e]; exact h1
      · rw [at1]
        simp only [List.length_append,List.length_cons,List.length_nil] at hi
        split
        · rename_i h; exact h2 i h
        · rw [if_pos (by omega)]
          congr 1; omega
    have ih := fun c hc hf => moreL_iff hg f (b ++ [c]) (col c hc hf)
    have e0 : moreL es (f + 1) b [] = tryC es (moreL es f) b 2 0 [] := rfl
    rw [e0]
    simp only [tryC]
    have hz : ((0 : Nat) : Int) = 0 := rfl
    have ho : ((0 + 1 : Nat) : Int) = 1 := rfl
    rw [hz,ho]
    generalize hl1 : (if ([] : List (List Int)).length ≤ 300 ∧ freeK es b 0 b.length = true then moreL es f (b ++ [0]) [] else []) = l1
    have f1 : l1 ≠ [] ↔ (freeK es b 0 b.length = true ∧ Ext2 es ((b ++ [0]).length + f) (b ++ [0])) := by
      rw [← hl1]
      by_cases h : freeK es b 0 b.length = true
      · rw [if_pos ⟨by simp,h⟩,ih 0 (.inl rfl) h]
        exact ⟨fun g => ⟨h,g⟩,fun g => g.2⟩
      · rw [if_neg (fun g => h g.2)]
        exact ⟨fun g => absurd rfl g,fun g => absurd g.1 h⟩
    by_cases hne : l1 = []
    · have h0 : ¬ (freeK es b 0 b.length = true ∧ Ext2 es ((b ++ [0]).length + f) (b ++ [0])) := fun g => f1.2 g hne
      rw [hne]
      by_cases h : freeK es b 1 b.length = true
      · rw [if_pos ⟨by simp,h⟩,ih 1 (.inr rfl) h]
        refine ⟨ext 1,fun g => ?_⟩
        obtain ⟨c,hc,g1,g2⟩ := back g
        rcases hc with rfl | rfl
        · exact absurd ⟨g1,g2⟩ h0
        · exact g2
      · rw [if_neg (fun g => h g.2)]
        refine ⟨fun g => absurd rfl g,fun g => ?_⟩
        obtain ⟨c,hc,g1,g2⟩ := back g
        rcases hc with rfl | rfl
        · exact absurd ⟨g1,g2⟩ h0
        · exact absurd g1 h
    · have hE := f1.1 hne
      refine ⟨fun _ => ext 0 hE.2,fun _ => ?_⟩
      split
      · exact moreL_ne es f _ l1 hne
      · exact hne
def evB (n : Nat) (es : List (Int × Int)) : Bool := decide (0 < (moreL es n [] []).length)
theorem evB_iff {n : Nat} {es : List (Int × Int)} (hg : Grd (n : Int) es) : evB n es = true ↔ ∃ g,Col2 es n g := by
  unfold evB
  rw [decide_eq_true_iff,List.length_pos_iff,moreL_iff hg n [] ⟨fun i hi => absurd hi (Nat.not_lt_zero i),fun i j hi => absurd hi (Nat.not_lt_zero i)⟩]
  unfold Ext2
  simp only [List.length_nil,Nat.zero_add]
  exact ⟨fun ⟨g,h,_⟩ => ⟨g,h⟩,fun ⟨g,h⟩ => ⟨g,h,fun i hi => absurd hi (Nat.not_lt_zero i)⟩⟩
theorem bfs_par {L : List (List Int)} (hL : LOk L.length L) {i : Nat} (hi : i < L.length) (g : Nat → Int) (h01 : ∀ v,v < L.length → g v = 0 ∨ g v = 1) (hc : ∀ u v : Nat,u < L.length → v < L.length → (v : Int) ∈ L.getD u [] → g u ≠ g v) :
    ∀ (d : Nat) (v : Nat),v < L.length → (bfs L i).getD v 0 = d → (g v - g i) % 2 = (d : Int) % 2 := by
  obtain ⟨q,h⟩ := bfs_DI hL hi
  intro d
  induction d with
  | zero =>
    intro v hv hd
    rcases h.src v hv (show 0 ≤ (bfs L i).getD v 0 by omega) with ⟨e,_⟩ | ⟨u,u1,u2,u3,u4⟩
    · subst e; simp
    · have u2' : 0 ≤ (bfs L i).getD u 0 := u2
      have u4' : (bfs L i).getD v 0 = (bfs L i).getD u 0 + 1 := u4
      omega
  | succ d ih =>
    intro v hv hd
    rcases h.src v hv (show 0 ≤ (bfs L i).getD v 0 by omega) with ⟨_,e⟩ | ⟨u,u1,u2,u3,u4⟩
    · have e' : (bfs L i).getD v 0 = 0 := e
      omega
    · have u4' : (bfs L i).getD v 0 = (bfs L i).getD u 0 + 1 := u4
      have := ih u u1 (by omega)
      have h1 := h01 u u1
      have h2 := h01 v hv
      have h3 := hc u v u1 hv u3
      omega
structure BdO (nx : List Int → List (List Int)) (st : List (List Int × Int)) (k : Nat) : Prop where
  mono : ∀ i j,i ≤ j → j < st.length → (st.getD i ([],0)).2 ≤ (st.getD j ([],0)).2
  near : ∀ j,k < st.length → j < st.length → (st.getD j ([],0)).2 ≤ (st.getD k ([],0)).2 + 1
  ed : ∀ j,j < k → ∀ c ∈ nx (st.getD j ([],0)).1,∃ e ∈ st,e.1 = c ∧ e.2 ≤ (st.getD j ([],0)).2 + 1
theorem BdO.step {nx : List Int → List (List Int)} {st : List (List Int × Int)} {k : Nat} (h : BdO nx st k) (hk : k < st.length) : BdO nx (bdIn ((st.getD k ([],0)).2 + 1) (nx (st.getD k ([],0)).1) st) (k + 1) := by
  generalize hu : st.getD k ([],0) = u at *
  obtain ⟨t,ht⟩ := bdIn_pre (u.2 + 1) (nx u.1) st
  have hle : st.length ≤ (bdIn (u.2 + 1) (nx u.1) st).length := by rw [← ht]; simp
  have keep : ∀ j,j < st.length → (bdIn (u.2 + 1) (nx u.1) st).getD j ([],0) = st.getD j ([],0) := by
    intro j hj
    rw [← ht,List.getD_eq_getElem?_getD,List.getElem?_append_left hj,← List.getD_eq_getElem?_getD]
  have gm : ∀ {l : List (List Int × Int)} {j : Nat},j < l.length → l.getD j ([],0) ∈ l := fun {l j} hj => by simp [hj]
  have new : ∀ j,st.length ≤ j → j < (bdIn (u.2 + 1) (nx u.1) st).length → ((bdIn (u.2 + 1) (nx u.1) st).getD j ([],0)).2 = u.2 + 1 := by
    intro j h1 h2
    have e1 : (bdIn (u.2 + 1) (nx u.1) st).getD j ([],0) = t.getD (j - st.length) ([],0) := by
      rw [← ht,List.getD_eq_getElem?_getD,List.getElem?_append_right h1,← List.getD_eq_getElem?_getD]
    have hjt : j - st.length < t.length := by
      have := congrArg List.length ht
      rw [List.length_append] at this
      omega
    have hmt := gm (l := t) hjt
    rw [← e1] at hmt
    have key : ∀ (l : List (List Int)) (s t : List (List Int × Int)),s ++ t = bdIn (u.2 + 1) l s → ∀ e ∈ t,e.2 = u.2 + 1 := by
      intro l
      induction l with
      | nil =>
        intro s t h e he
        have : t = [] := by simpa [bdIn] using h
        rw [this] at he; simp at he
      | cons b r ih =>
        intro s t h e he
        simp only [bdIn] at h
        split at h
        · exact ih s t h e he
        · obtain ⟨q,hq⟩ := bdIn_pre (u.2 + 1) r (s ++ [(b,u.2 + 1)])
          rw [← hq,List.append_assoc] at h
          have h' := List.append_cancel_left h
          rw [h'] at he
          rcases List.mem_append.1 he with g | g
          · rw [List.mem_singleton] at g; rw [g]
          · exact ih (s ++ [(b,u.2 + 1)]) q hq e g
    exact key _ st t ht _ hmt
  have nr : ∀ j,j < st.length → (st.getD j ([],0)).2 ≤ u.2 + 1 := fun j hj => by have := h.near j hk hj; rw [hu] at this; exact this
  have mono' : ∀ i j,i ≤ j → j < (bdIn (u.2 + 1) (nx u.1) st).length → ((bdIn (u.2 + 1) (nx u.1) st).getD i ([],0)).2 ≤ ((bdIn (u.2 + 1) (nx u.1) st).getD j ([],0)).2 := by
    intro i j hij hj
    by_cases g1 : j < st.length
    · rw [keep i (by omega),keep j g1]; exact h.mono i j hij g1
    · rw [new j (by omega) hj]
      by_cases g2 : i < st.length
      · rw [keep i g2]; exact nr i g2
      · rw [new i (by omega) (by omega)]; omega
  refine ⟨mono',fun j hk1 hj => ?_,fun j hj c hc => ?_⟩
  · have h1 := mono' k (k + 1) (by omega) hk1
    rw [keep k hk,hu] at h1
    by_cases g1 : j < st.length
    · rw [keep j g1]; have := nr j g1; omega
    · rw [new j (by omega) hj]; omega
  · rw [keep j (by omega)] at hc ⊢
    by_cases e : j = k
    · subst e
      rw [hu] at hc ⊢
      obtain ⟨x,hx,hx2⟩ := List.mem_map.1 (bdIn_get (u.2 + 1) (nx u.1) st c hc)
      refine ⟨x,hx,hx2,?_⟩
      obtain ⟨i,hi,e1⟩ := List.mem_iff_getElem.1 hx
      have e2 : (bdIn (u.2 + 1) (nx u.1) st).getD i ([],0) = x := by simp [hi,e1]
      rw [← e2]
      by_cases g1 : i < st.length
      · rw [keep i g1]; exact nr i g1
      · rw [new i (by omega) hi]; omega
    · obtain ⟨x,hx,hx2,hx3⟩ := h.ed j (by omega) c hc
      exact ⟨x,by rw [← ht]; exact List.mem_append_left _ hx,hx2,hx3⟩
theorem BdO.zero (nx : List Int → List (List Int)) (p : List Int) : BdO nx [(p,0)] 0 := by
  refine ⟨fun i j hij hj => ?_,fun j _ hj => ?_,fun j hj => absurd hj (Nat.not_lt_zero j)⟩
  · have hj' : j < 1 := hj
    have e1 : i = 0 := by omega
    have e2 : j = 0 := by omega
    rw [e1,e2]; exact Int.le_refl _
  · have hj' : j < 1 := hj
    have e2 : j = 0 := by omega
    rw [e2]; omega
theorem bdF_runO {n : Nat} (hn : n ≤ 6) {nx : List Int → List (List Int)} (hnx : ∀ b,Bd n b → ∀ c ∈ nx b,Bd n c) {p : List Int} : ∀ (f : Nat) (st : List (List Int × Int)) (k : Nat),mny n < f + k → BdI n nx p st k → BdO nx st k → BdO nx (bdF nx f st k) (bdF nx f st k).length
  | 0,st,k,hf,h,_ => by have := h.len_le hn; have := h.le; omega
  | f + 1,st,k,hf,h,ho => by
    simp only [bdF]
    split
    · rename_i hk
      exact bdF_runO hn hnx f _ _ (by omega) (h.step hnx hk) (ho.step hk)
    · have e : k = st.length := by have := h.le; omega
      rw [← e]; exact ho
theorem bdR_O {n : Nat} (hn : n ≤ 6) {es : List (Int × Int)} (hg : Grd (n : Int) es) (sl : Bool) {p : List Int} (hp : Bd n p) : BdO (nxt es sl) (bdR es sl p) (bdR es sl p).length :=
  bdF_runO hn (fun b hb => nxt_bd hg sl hb) 721 _ 0 (by have := mny_le hn; omega) (BdI.zero hp) (BdO.zero _ p)
theorem bdR_edge {n : Nat} (hn : n ≤ 6) {es : List (Int × Int)} (hg : Grd (n : Int) es) (sl : Bool) {p b : List Int} (hp : Bd n p) {d : Int} (hd : bdD (bdR es sl p) b = some d) {c : List Int} (hc : c ∈ nxt es sl b) :
    ∃ x,bdD (bdR es sl p) c = some x ∧ 0 ≤ x ∧ x ≤ d + 1 := by
  have hI := bdR_I hn hg sl hp
  have hO := bdR_O hn hg sl hp
  obtain ⟨j,hj,e⟩ := List.mem_iff_getElem.1 (bdD_mem hd)
  have e1 : (bdR es sl p).getD j ([],0) = (b,d) := by simp [hj,e]
  obtain ⟨x,h1,h2,h3⟩ := hO.ed j hj c (by rw [e1]; exact hc)
  rw [e1] at h3
  exact ⟨x.2,by rw [← h2]; exact bdD_some hI.nd h1,(hI.rng x h1).1,h3⟩
theorem bdR_start {n : Nat} (hn : n ≤ 6) {es : List (Int × Int)} (hg : Grd (n : Int) es) (sl : Bool) {p : List Int} (hp : Bd n p) : bdD (bdR es sl p) p = some 0 := by
  have hI := bdR_I hn hg sl hp
  have hm : (p,(0 : Int)) ∈ bdR es sl p := by
    have h0 := hI.start
    rw [← h0.1]
    simp [h0.2]
  exact bdD_some hI.nd hm
theorem bdR_zero {n : Nat} (hn : n ≤ 6) {es : List (Int × Int)} (hg : Grd (n : Int) es) (sl : Bool) {p b : List Int} (hp : Bd n p) (hd : bdD (bdR es sl p) b = some 0) : b = p := by
  have hI := bdR_I hn hg sl hp
  rcases hI.src _ (bdD_mem hd) with h | ⟨u,h1,_,h3⟩
  · exact congrArg Prod.fst h
  · have := (hI.rng u h1).1
    have h3' : (0 : Int) = u.2 + 1 := h3
    omega
inductive Wlk (es : List (Int × Int)) (sl : Bool) : Nat → List Int → List Int → Prop
  | nil (b : List Int) : Wlk es sl 0 b b
  | cons {k : Nat} {b c d : List Int} (h : Wlk es sl k b c) (hd : d ∈ nxt es sl c) : Wlk es sl (k + 1) b d
theorem Wlk.front {es : List (Int × Int)} {sl : Bool} {k : Nat} {b c d : List Int} (hc : c ∈ nxt es sl b) (h : Wlk es sl k c d) : Wlk es sl (k + 1) b d := by
  induction h with
  | nil => exact .cons (.nil b) hc
  | cons h1 h2 ih => exact .cons (ih hc) h2
theorem Wlk.bd {n : Nat} {es : List (Int × Int)} (hg : Grd (n : Int) es) {sl : Bool} {k : Nat} {b c : List Int} (hb : Bd n b) (h : Wlk es sl k b c) : Bd n c := by
  induction h with
  | nil => exact hb
  | cons h1 h2 ih => exact nxt_bd hg sl (ih hb) _ h2
theorem Wlk.back {n : Nat} {es : List (Int × Int)} (hg : Grd (n : Int) es) {sl : Bool} {k : Nat} {b c : List Int} (hb : Bd n b) (h : Wlk es sl k b c) : Wlk es sl k c b := by
  induction h with
  | nil => exact .nil _
  | cons h1 h2 ih => exact .front (nxt_back hg sl (h1.bd hg hb) h2) (ih hb)
theorem wlk_dist {n : Nat} (hn : n ≤ 6) {es : List (Int × Int)} (hg : Grd (n : Int) es) {sl : Bool} {p b : List Int} (hp : Bd n p) {k : Nat} (h : Wlk es sl k p b) : ∃ x,bdD (bdR es sl p) b = some x ∧ 0 ≤ x ∧ x ≤ k := by
  induction h with
  | nil => exact ⟨0,bdR_start hn hg sl hp,by omega,by omega⟩
  | cons h1 h2 ih =>
    obtain ⟨x,x1,x2,x3⟩ := ih hp
    obtain ⟨y,y1,y2,y3⟩ := bdR_edge hn hg sl hp x1 h2
    exact ⟨y,y1,y2,by omega⟩
theorem dist_wlk {n : Nat} (hn : n ≤ 6) {es : List (Int × Int)} (hg : Grd (n : Int) es) {sl : Bool} {p : List Int} (hp : Bd n p) : ∀ (d : Nat) (b : List Int),bdD (bdR es sl p) b = some (d : Int) → Wlk es sl d b p
  | 0,b,h => by rw [bdR_zero hn hg sl hp h]; exact .nil p
  | d + 1,b,h => by
    obtain ⟨e,he,h2⟩ := bdR_down hn hg sl hp h (by omega)
    rw [show ((d + 1 : Nat) : Int) - 1 = (d : Int) by omega] at h2
    exact .front (List.mem_map.2 ⟨e,he,rfl⟩) (dist_wlk hn hg hp d _ h2)
theorem dist_sym {n : Nat} (hn : n ≤ 6) {es : List (Int × Int)} (hg : Grd (n : Int) es) {sl : Bool} {a b : List Int} (ha : Bd n a) (hb : Bd n b) : bdD (bdR es sl a) b = bdD (bdR es sl b) a := by
  have half : ∀ {a b : List Int},Bd n a → Bd n b → ∀ x,bdD (bdR es sl a) b = some x → ∃ y,bdD (bdR es sl b) a = some y ∧ 0 ≤ x ∧ 0 ≤ y ∧ y ≤ x := by
    intro a b ha hb x hx
    have hI := bdR_I hn hg sl ha
    have h0 := (hI.rng _ (bdD_mem hx)).1
    have hw := dist_wlk hn hg ha x.toNat b (by rw [Int.toNat_of_nonneg h0]; exact hx)
    obtain ⟨y,y1,y2,y3⟩ := wlk_dist hn hg hb hw
    exact ⟨y,y1,h0,y2,by omega⟩
  cases h : bdD (bdR es sl a) b with
  | some x =>
    obtain ⟨y,y1,y2,y3,y4⟩ := half ha hb x h
    obtain ⟨z,z1,_,_,z4⟩ := half hb ha y y1
    rw [h] at z1
    cases z1
    rw [y1]; congr 1; omega
  | none =>
    cases h2 : bdD (bdR es sl b) a with
    | none => rfl
    | some y =>
      obtain ⟨z,z1,_⟩ := half hb ha y h2
      rw [h] at z1; cases z1
theorem ax_hole {n : Nat} {b : List Int} (hb : Bd n b) {h : Nat} (hh : h < n) (h0 : b.getD h 0 = 0) : ax b 0 = (h : Int) := by
  obtain ⟨h',h1,h2,h3⟩ := hole_of hb (by omega)
  rw [h2]
  have hnd := prm_nodup hb.1
  have l1 : h < b.length := by rw [hb.2]; exact hh
  have l2 : h' < b.length := by rw [hb.2]; exact h1
  have e1 : b[h] = 0 := by have := h0; simpa [l1] using this
  have e2 : b[h'] = 0 := by have := h3; simpa [l2] using this
  have := (List.getElem_inj hnd).1 (e2.trans e1.symm)
  omega
theorem nxt_iff {n : Nat} {es : List (Int × Int)} (hg : Grd (n : Int) es) {b : List Int} (hb : Bd n b) {h : Nat} (hh : h < n) (h0 : b.getD h 0 = 0) (c : List Int) :
    c ∈ nxt es true b ↔ ∃ x : Nat,x < n ∧ nearB es (h : Int) (x : Int) = true ∧ c = swp b h x := by
  obtain ⟨_,hsh⟩ := oth_srt hg hb hh h0
  have hnb := oth_nbs hg hb hh h0
  have hne : ∀ x : Nat,x ∈ [x] := fun x => by simp
  constructor
  · intro hc
    obtain ⟨e,he,rfl⟩ := List.mem_map.1 hc
    have hm : othB b e ∈ nbsU es (h : Int) n := by rw [← hnb]; exact List.mem_map.2 ⟨e,he,rfl⟩
    obtain ⟨h1,h2⟩ := (nbsU_mem es (h : Int) n _).1 hm
    obtain ⟨k0,_,k2⟩ := hsh e he
    refine ⟨(othB b e).toNat,by omega,by rw [Int.toNat_of_nonneg h1.1]; exact h2,?_⟩
    rw [k2,swp_comm b _ _ (by omega)]
  · rintro ⟨x,hx,hn,rfl⟩
    have hm : (x : Int) ∈ nbsU es (h : Int) n := (nbsU_mem es (h : Int) n _).2 ⟨by omega,hn⟩
    rw [← hnb] at hm
    obtain ⟨e,he,hex⟩ := List.mem_map.1 hm
    obtain ⟨k0,_,k2⟩ := hsh e he
    refine List.mem_map.2 ⟨e,he,?_⟩
    rw [k2,hex,Int.toNat_natCast,swp_comm b _ _ (by omega)]
theorem slideF_wlk {n : Nat} {es : List (Int × Int)} (hg : Grd (n : Int) es) (hn : 1 ≤ n) : ∀ (xs b c : List Int),Bd n b → slideF es b xs = some c → Wlk es true xs.length b c
  | [],b,c,hb,h => by
    simp only [slideF,Option.some.injEq] at h
    subst h; exact .nil b
  | x :: r,b,c,hb,h => by
    obtain ⟨k,hk,hax,h0⟩ := hole_of hb hn
    simp only [slideF,hax] at h
    split at h
    · rename_i hnr
      have hr := near_rng hg hnr
      rw [Int.toNat_natCast] at h
      have hc : swp b k x.toNat ∈ nxt es true b := (nxt_iff hg hb hk h0 _).2 ⟨x.toNat,by omega,by rw [Int.toNat_of_nonneg hr.2.1.1]; exact hnr,rfl⟩
      exact .front hc (slideF_wlk hg hn r _ c (nxt_bd hg true hb _ hc) h)
    · cases h
theorem plan_to {n : Nat} (hn : n ≤ 6) {es : List (Int × Int)} (hg : Grd (n : Int) es) (hn1 : 1 ≤ n) {p : List Int} (hp : Bd n p) : ∀ (d : Nat) (b : List Int),Bd n b → bdD (bdR es true p) b = some (d : Int) → slideF es b ((pthL (bdR es true p) es true d b).map fun t => othB t.2 t.1) = some p
  | 0,b,hb,h => by
    rw [bdR_zero hn hg true hp h]; rfl
  | d + 1,b,hb,h => by
    obtain ⟨e,h1,h2,h3⟩ := fst1_some hn hg true hp h
    obtain ⟨k,hk,hax,h0⟩ := hole_of hb hn1
    obtain ⟨k0,k1,k2⟩ := (oth_srt hg hb hk h0).2 e h2
    have hm : othB b e ∈ nbsU es (k : Int) n := by rw [← oth_nbs hg hb hk h0]; exact List.mem_map.2 ⟨e,h2,rfl⟩
    obtain ⟨g1,g2⟩ := (nbsU_mem es (k : Int) n _).1 hm
    have hb2 := nxt_bd hg true hb (swp b e.1.toNat e.2.toNat) (List.mem_map.2 ⟨e,h2,rfl⟩)
    simp only [pthL,h1,List.map_cons,slideF,hax]
    rw [if_pos g2,Int.toNat_natCast,swp_comm b _ _ (by omega),← k2]
    exact plan_to hn hg hn1 hp d _ hb2 h3
theorem wlk_par {n : Nat} {es : List (Int × Int)} (hg : Grd (n : Int) es) (hn : 1 ≤ n) {g : Nat → Int} (hc : Col2 es n g) {k : Nat} {b c : List Int} (hb : Bd n b) (h : Wlk es true k b c) : (g (ax b 0).toNat + (k : Int)) % 2 = g (ax c 0).toNat % 2 := by
  induction h with
  | nil => simp
  | cons h1 h2 ih =>
    rename_i k b c d
    have ih := ih hb
    have hcb := h1.bd hg hb
    obtain ⟨i,hi,hax,h0⟩ := hole_of hcb hn
    obtain ⟨x,hx,hnr,rfl⟩ := (nxt_iff hg hcb hi h0 _).1 h2
    have hr := near_rng hg hnr
    have hz : (swp c i x).getD x 0 = 0 := by
      rw [swp_at c i x x (by rw [hcb.2]; exact hi) (by rw [hcb.2]; exact hx) (by rw [hcb.2]; exact hx),if_pos rfl]
      exact h0
    have hdb := nxt_bd hg true hcb _ h2
    rw [ax_hole hdb hx hz,Int.toNat_natCast]
    rw [hax,Int.toNat_natCast] at ih
    have c1 := hc.1 i hi
    have c2 := hc.1 x hx
    have c3 := hc.2 i x hi hx hnr
    omega
theorem brd_of {n : Nat} {es : List (Int × Int)} (hg : Grd (n : Int) es) (h1 : 1 ≤ n) (h6 : n ≤ 6) {b : List Int} (hb : Bd n b) : Brd (n : Int) es b :=
  ⟨⟨⟨hg,hb.1⟩,by rw [hb.2]⟩,by omega,by omega⟩
theorem slides_back {n : Int} {es : List (Int × Int)} {p xs : List Int} (h : slideK n es p xs = true) : ∃ d,slD n es (slideR n es p xs) p = some d ∧ d ≤ xs.length ∧ (evB n.toNat es = true → (d + xs.length) % 2 = 0) := by
  unfold slideK at h
  rw [Bool.and_eq_true,decide_eq_true_eq] at h
  obtain ⟨hB,hs⟩ := h
  obtain ⟨k,rfl,hg,hb,h1,h6⟩ := brd_bdS hB
  obtain ⟨c,hc⟩ := Option.isSome_iff_exists.1 hs
  have hR : slideR (k : Int) es p xs = c := by unfold slideR; rw [if_pos hB,hc]; rfl
  have hw := slideF_wlk hg h1 xs p c hb hc
  have hcb := hw.bd hg hb
  obtain ⟨d,d1,d2,d3⟩ := wlk_dist h6 hg hb hw
  rw [hR]
  refine ⟨d,by unfold slD; rw [if_pos ⟨brd_of hg h1 h6 hcb,hB⟩]; exact d1,d3,fun he => ?_⟩
  rw [Int.toNat_natCast] at he
  obtain ⟨g,hcol⟩ := (evB_iff hg).1 he
  have p1 := wlk_par hg h1 hcol hb hw
  have hw2 := dist_wlk h6 hg hb d.toNat c (by rw [Int.toNat_of_nonneg d2]; exact d1)
  have p2 := wlk_par hg h1 hcol hcb hw2
  omega
theorem plan_ok {n : Int} {es : List (Int × Int)} {a b : List Int} {d : Int} (h : slD n es a b = some d) : slideK n es a (slP n es a b) = true ∧ slideR n es a (slP n es a b) = b ∧ ((slP n es a b).length : Int) = d ∧ slD n es b a = some d := by
  have hr := slD_rng h
  have hl := slP_len n es a b
  rw [h] at hl
  have h' := h
  unfold slD at h'
  split at h'
  · rename_i hB
    obtain ⟨k,rfl,hg,ha,h1,h6⟩ := brd_bdS hB.1
    have hb : Bd k b := by
      obtain ⟨k2,e,_,hb,_⟩ := brd_bdS hB.2
      have : k2 = k := by omega
      rw [← this]; exact hb
    have hpl := plan_to h6 hg h1 hb d.toNat a ha (by rw [Int.toNat_of_nonneg hr.1]; exact h')
    have hP : slP (k : Int) es a b = (pthL (bdR es true b) es true d.toNat a).map fun t => othB t.2 t.1 := by unfold slP; rw [h]
    rw [← hP] at hpl
    refine ⟨?_,?_,by rw [hl]; simp only; omega,?_⟩
    · unfold slideK; rw [hpl,decide_eq_true hB.1]; rfl
    · unfold slideR; rw [if_pos hB.1,hpl]; rfl
    · unfold slD; rw [if_pos ⟨hB.2,hB.1⟩,dist_sym h6 hg ha hb]; exact h'
  · cases h'
theorem Rch.trans' {adj : Int → Int → Prop} {S : Int → Prop} {x y z : Int} (h1 : Rch adj S x y) (h2 : Rch adj S y z) : Rch adj S x z := by
  induction h2 with
  | refl => exact h1
  | step _ a b ih => exact .step ih a b
theorem Rch.symm' {adj : Int → Int → Prop} {S : Int → Prop} (hs : ∀ a b,adj a b → adj b a) {x z : Int} (hx : S x) (h : Rch adj S x z) : Rch adj S z x := by
  induction h with
  | refl => exact .refl
  | step hy ha hz ih => exact (Rch.step .refl (hs _ _ ha) (hy.in_ hx)).trans' ih
theorem reach_x (es : List (Int × Int)) (set : List Int) (x : Int) : x ∈ reachL es set x := rcIter_x es set x _
structure PcI (es : List (Int × Int)) (set : List Int) (st : List (List Int) × List Int) : Prop where
  mem : ∀ p ∈ st.1,∃ x ∈ set,p = reachL es set x
  seen : ∀ z,z ∈ st.2 ↔ ∃ p ∈ st.1,z ∈ p
theorem PcI.step {es : List (Int × Int)} {set : List Int} {st : List (List Int) × List Int} (h : PcI es set st) {y : Int} (hy : y ∈ set) : PcI es set (pcS es set st y) := by
  unfold pcS
  split
  · exact h
  · refine ⟨?_,?_⟩
    · intro p hp
      rcases List.mem_append.1 hp with hp | hp
      · exact h.mem p hp
      · simp only [List.mem_cons,List.not_mem_nil,or_false] at hp
        exact ⟨y,hy,hp⟩
    · intro z
      show z ∈ (reachL es set y).foldl put st.2 ↔ _
      rw [puts_mem,h.seen]
      constructor
      · rintro (h1 | ⟨p,h1,h2⟩)
        · exact ⟨_,List.mem_append.2 (.inr (by simp)),h1⟩
        · exact ⟨p,List.mem_append.2 (.inl h1),h2⟩
      · rintro ⟨p,h1,h2⟩
        rcases List.mem_append.1 h1 with h1 | h1
        · exact .inr ⟨p,h1,h2⟩
        · simp only [List.mem_cons,List.not_mem_nil,or_false] at h1
          rw [h1] at h2; exact .inl h2
theorem pcS_mono (es : List (Int × Int)) (set : List Int) (st : List (List Int) × List Int) (y : Int) {z : Int} (h : z ∈ st.2) : z ∈ (pcS es set st y).2 := by
  unfold pcS
  split
  · exact h
  · exact (puts_mem z _ _).2 (.inr h)
theorem pcS_get (es : List (Int × Int)) (set : List Int) (st : List (List Int) × List Int) (y : Int) : y ∈ (pcS es set st y).2 := by
  unfold pcS
  split
  · rename_i h; exact h
  · exact (puts_mem y _ _).2 (.inl (reach_x es set y))
theorem pcF_mono (es : List (Int × Int)) (set : List Int) {z : Int} : ∀ (l : List Int) (st : List (List Int) × List Int),z ∈ st.2 → z ∈ (l.foldl (pcS es set) st).2
  | [],st,h => h
  | y :: ys,st,h => pcF_mono es set ys _ (pcS_mono es set st y h)
theorem pcF_inv (es : List (Int × Int)) (set : List Int) : ∀ (l : List Int) (st : List (List Int) × List Int),(∀ y ∈ l,y ∈ set) → PcI es set st → PcI es set (l.foldl (pcS es set) st) ∧ ∀ y ∈ l,y ∈ (l.foldl (pcS es set) st).2
  | [],st,_,h => ⟨h,fun y hy => by simp at hy⟩
  | y :: ys,st,hl,h => by
    obtain ⟨i1,i2⟩ := pcF_inv es set ys _ (fun z hz => hl z (by simp [hz])) (h.step (hl y (by simp)))
    refine ⟨i1,fun z hz => ?_⟩
    rcases List.mem_cons.1 hz with rfl | hz
    · exact pcF_mono es set ys _ (pcS_get es set st z)
    · exact i2 z hz
theorem pieces_mem {es : List (Int × Int)} {set p : List Int} (hp : p ∈ piecesL es set) : ∃ x ∈ set,p = reachL es set x :=
  (pcF_inv es set set ([],[]) (fun _ h => h) ⟨fun p hp => by simp at hp,fun z => by simp⟩).1.mem p hp
theorem pieces_cov {es : List (Int × Int)} {set : List Int} {z : Int} (hz : z ∈ set) : ∃ p ∈ piecesL es set,z ∈ p := by
  obtain ⟨h1,h2⟩ := pcF_inv es set set ([],[]) (fun _ h => h) ⟨fun p hp => by simp at hp,fun z => by simp⟩
  exact (h1.seen z).1 (h2 z hz)
theorem piece_clo {es : List (Int × Int)} {set p : List Int} (hp : p ∈ piecesL es set) {a b : Int} (hb : b ∈ set) (hn : nearB es a b = true) (ha : a ∈ p) : b ∈ p := by
  obtain ⟨x,hx,rfl⟩ := pieces_mem hp
  exact (reach_iff es set x hx b).2 (.step ((reach_iff es set x hx a).1 ha) hn hb)
theorem piece_sub {es : List (Int × Int)} {set p : List Int} (hp : p ∈ piecesL es set) {a : Int} (ha : a ∈ p) : a ∈ set := by
  obtain ⟨x,hx,rfl⟩ := pieces_mem hp
  exact ((reach_iff es set x hx a).1 ha).in_ (S := (· ∈ set)) hx
theorem piece_first {es : List (Int × Int)} {set p : List Int} (hp : p ∈ piecesL es set) : p.getD 0 0 ∈ p := by
  obtain ⟨x,hx,rfl⟩ := pieces_mem hp
  have := List.length_pos_of_mem (reach_x es set x)
  simp [this]
theorem piece_rch {es : List (Int × Int)} {set p : List Int} (hp : p ∈ piecesL es set) {a b : Int} (ha : a ∈ p) (hb : b ∈ p) : Rch (fun a b => nearB es a b = true) (· ∈ set) a b := by
  obtain ⟨x,hx,rfl⟩ := pieces_mem hp
  have h1 := (reach_iff es set x hx a).1 ha
  have h2 := (reach_iff es set x hx b).1 hb
  exact (h1.symm' (fun a b h => by rw [nearB_comm]; exact h) hx).trans' h2
def sidePt (far part s : List Int) : List Int := part.foldl (fun s x => s.set x.toNat ((far.getD x.toNat 0).tmod 2)) s
def sideP (L : List (List Int)) (s p : List Int) : List Int := sidePt (bfs L (p.getD 0 0).toNat) p s
def sideL (L : List (List Int)) (P : List (List Int)) (s : List Int) : List Int := P.foldl (sideP L) s
theorem sidePt_len (far : List Int) : ∀ (part s : List Int),(sidePt far part s).length = s.length
  | [],s => rfl
  | x :: xs,s => by
    show (sidePt far xs (s.set x.toNat _)).length = _
    rw [sidePt_len far xs]; simp
theorem sidePt_at (far : List Int) (v : Nat) : ∀ (part s : List Int),(∀ x ∈ part,0 ≤ x) → v < s.length → (sidePt far part s).getD v 0 = if (v : Int) ∈ part then (far.getD v 0).tmod 2 else s.getD v 0
  | [],s,_,_ => by simp [sidePt]
  | x :: xs,s,hp,hv => by
    show (sidePt far xs (s.set x.toNat _)).getD v 0 = _
    rw [sidePt_at far v xs _ (fun y hy => hp y (by simp [hy])) (by simpa using hv)]
    have hx := hp x (by simp)
    by_cases h1 : (v : Int) ∈ xs
    · rw [if_pos h1,if_pos (by simp [h1])]
    · rw [if_neg h1,getD_setB _ _ _ _ hv]
      by_cases e : x.toNat = v
      · have : (v : Int) = x := by omega
        rw [if_pos e,if_pos (by simp [this]),e]
      · have : ¬ (v : Int) = x := by omega
        rw [if_neg e,if_neg (by simp [this,h1])]
theorem sideL_len (L : List (List Int)) : ∀ (P : List (List Int)) (s : List Int),(sideL L P s).length = s.length
  | [],s => rfl
  | p :: P,s => by
    show (sideL L P (sideP L s p)).length = _
    rw [sideL_len L P]; exact sidePt_len _ _ _
theorem sideL_two (L : List (List Int)) {a b : Nat} : ∀ (P : List (List Int)) (s : List Int),(∀ p ∈ P,(∀ x ∈ p,0 ≤ x) ∧ ((a : Int) ∈ p ↔ (b : Int) ∈ p)) → a < s.length → b < s.length →
    (∃ p ∈ P,(a : Int) ∈ p ∧ (b : Int) ∈ p ∧ (sideL L P s).getD a 0 = ((bfs L (p.getD 0 0).toNat).getD a 0).tmod 2 ∧ (sideL L P s).getD b 0 = ((bfs L (p.getD 0 0).toNat).getD b 0).tmod 2)
    ∨ ((∀ p ∈ P,(a : Int) ∉ p) ∧ (sideL L P s).getD a 0 = s.getD a 0 ∧ (sideL L P s).getD b 0 = s.getD b 0)
  | [],s,_,_,_ => .inr ⟨fun p hp => by simp at hp,rfl,rfl⟩
  | p :: P,s,hp,ha,hb => by
    obtain ⟨hp0,hp1⟩ := hp p (by simp)
    have hl : (sideP L s p).length = s.length := sidePt_len _ _ _
    have ea : (sideP L s p).getD a 0 = if (a : Int) ∈ p then ((bfs L (p.getD 0 0).toNat).getD a 0).tmod 2 else s.getD a 0 := sidePt_at _ a p s hp0 ha
    have eb : (sideP L s p).getD b 0 = if (b : Int) ∈ p then ((bfs L (p.getD 0 0).toNat).getD b 0).tmod 2 else s.getD b 0 := sidePt_at _ b p s hp0 hb
    rcases sideL_two L P (sideP L s p) (fun q hq => hp q (by simp [hq])) (by omega) (by omega) with ⟨q,h1,h2⟩ | ⟨h1,h2,h3⟩
    · exact .inl ⟨q,by simp [h1],h2⟩
    · have h2' : (sideL L (p :: P) s).getD a 0 = (sideP L s p).getD a 0 := h2
      have h3' : (sideL L (p :: P) s).getD b 0 = (sideP L s p).getD b 0 := h3
      by_cases hm : (a : Int) ∈ p
      · have hm2 := hp1.1 hm
        refine .inl ⟨p,by simp,hm,hm2,?_,?_⟩
        · rw [h2',ea,if_pos hm]
        · rw [h3',eb,if_pos hm2]
      · have hm2 : (b : Int) ∉ p := fun h => hm (hp1.2 h)
        refine .inr ⟨fun q hq => ?_,?_,?_⟩
        · rcases List.mem_cons.1 hq with rfl | hq
          · exact hm
          · exact h1 q hq
        · rw [h2',ea,if_neg hm]
        · rw [h3',eb,if_neg hm2]
theorem even_side {n : Nat} {es : List (Int × Int)} (hg : Grd (n : Int) es) :
    (∀ e ∈ es,(sideL (roadsL n es) (piecesL es (alls n)) (List.replicate n 0)).getD e.1.toNat 0 ≠ (sideL (roadsL n es) (piecesL es (alls n)) (List.replicate n 0)).getD e.2.toNat 0) ↔ evB n es = true := by
  rw [evB_iff hg]
  have hL := roadsL_ok n es
  have hlen := roadsL_len n es
  have met : ∀ p ∈ piecesL es (alls n),∀ z ∈ p,(p.getD 0 0).toNat < n ∧ 0 ≤ (bfs (roadsL n es) (p.getD 0 0).toNat).getD z.toNat 0 := by
    intro p hp z hz
    have hf := piece_first hp
    have h0 := (alls_mem n _).1 (piece_sub hp hf)
    have hr := piece_rch hp hf hz
    generalize p.getD 0 0 = p0 at *
    refine ⟨by omega,?_⟩
    induction hr with
    | refl =>
      obtain ⟨q,h⟩ := bfs_DI hL (i := p0.toNat) (by omega)
      exact h.at_
    | step hy hn hz' ih =>
      rename_i y z
      have hyA : y ∈ alls n := hy.in_ (S := (· ∈ alls n)) ((alls_mem n _).2 h0)
      have hyr := (alls_mem n y).1 hyA
      have hzr := (alls_mem n z).1 hz'
      refine bfs_clo hL (by omega) (u := y.toNat) (by omega) (ih (piece_clo hp hyA (by rw [nearB_comm]; exact hn) hz)) ?_
      rw [roadsL_at n es _ (by omega),nbsU_mem,Int.toNat_of_nonneg hyr.1]
      exact ⟨hzr,hn⟩
  have two : ∀ a b : Nat,a < n → b < n → (a = b ∨ nearB es (a : Int) (b : Int) = true) → ∃ p ∈ piecesL es (alls n),(a : Int) ∈ p ∧ (b : Int) ∈ p ∧ (sideL (roadsL n es) (piecesL es (alls n)) (List.replicate n 0)).getD a 0 = ((bfs (roadsL n es) (p.getD 0 0).toNat).getD a 0).tmod 2 ∧ (sideL (roadsL n es) (piecesL es (alls n)) (List.replicate n 0)).getD b 0 = ((bfs (roadsL n es) (p.getD 0 0).toNat).getD b 0).tmod 2 := by
    intro a b ha hb hab
    have hpp : ∀ p ∈ piecesL es (alls n),(∀ x ∈ p,0 ≤ x) ∧ ((a : Int) ∈ p ↔ (b : Int) ∈ p) := by
      intro p hp
      refine ⟨fun x hx => ((alls_mem n x).1 (piece_sub hp hx)).1,?_⟩
      rcases hab with rfl | hn
      · exact Iff.rfl
      · exact ⟨piece_clo hp ((alls_mem n _).2 (by omega)) hn,piece_clo hp ((alls_mem n _).2 (by omega)) (by rw [nearB_comm]; exact hn)⟩
    rcases sideL_two (roadsL n es) (a := a) (b := b) (piecesL es (alls n)) (List.replicate n 0) hpp (by simpa using ha) (by simpa using hb) with h | ⟨h,_⟩
    · exact h
    · obtain ⟨p,h1,h2⟩ := pieces_cov (es := es) ((alls_mem n (a : Int)).2 (by omega))
      exact absurd h2 (h p h1)
  generalize hS : sideL (roadsL n es) (piecesL es (alls n)) (List.replicate n 0) = S at *
  constructor
  · intro h
    refine ⟨fun i => S.getD i 0,fun i hi => ?_,fun i j hi hj hn => ?_⟩
    · obtain ⟨p,p1,p2,_,p3,_⟩ := two i i hi hi (.inl rfl)
      have := (met p p1 _ p2).2
      rw [Int.toNat_natCast] at this
      show S.getD i 0 = 0 ∨ S.getD i 0 = 1
      rw [p3,Int.tmod_eq_emod_of_nonneg this]
      omega
    · rcases (nearB_iff es _ _).1 hn with hm | hm
      · simpa using h _ hm
      · exact fun e => h _ hm (by simpa using e.symm)
  · rintro ⟨g,g1,g2⟩ ⟨a,b⟩ he
    obtain ⟨h1,h2,h3⟩ := grd_mem hg he
    simp only at h1 h2 h3
    obtain ⟨x,rfl⟩ : ∃ x : Nat,a = x := ⟨a.toNat,by omega⟩
    obtain ⟨y,rfl⟩ : ∃ y : Nat,b = y := ⟨b.toNat,by omega⟩
    have hn : nearB es (x : Int) (y : Int) = true := (nearB_iff es _ _).2 (.inl he)
    obtain ⟨p,p1,p2,p3,p4,p5⟩ := two x y (by omega) (by omega) (.inr hn)
    obtain ⟨q1,q2⟩ := met p p1 _ p2
    obtain ⟨_,q3⟩ := met p p1 _ p3
    simp only [Int.toNat_natCast] at q2 q3 ⊢
    rw [p4,p5,Int.tmod_eq_emod_of_nonneg q2,Int.tmod_eq_emod_of_nonneg q3]
    have par := bfs_par hL (i := (p.getD 0 0).toNat) (by omega) g (fun v hv => g1 v (by omega)) (fun u v hu hv hm => by
      rw [hlen] at hu hv
      rw [roadsL_at n es u hu,nbsU_mem] at hm
      exact g2 u v hu hv hm.2)
    have e1 := par _ x (by omega) (Int.toNat_of_nonneg q2).symm
    have e2 := par _ y (by omega) (Int.toNat_of_nonneg q3).symm
    have c1 := g1 x (by omega)
    have c2 := g1 y (by omega)
    have c3 := g2 x y (by omega) (by omega) hn
    generalize (bfs (roadsL n es) (p.getD 0 0).toNat).getD x 0 = dx at *
    generalize (bfs (roadsL n es) (p.getD 0 0).toNat).getD y 0 = dy at *
    omega
def ords135 : List (Nat × List (Nat × Bool)) := []
def cd135 : Cd := (.seq (.reg [⟨⟨some 4,Op.assign (Operand.const (Value.int IntKind.i64 0)),none⟩,[]⟩]) (.seq (.seq (.reg [⟨⟨some 6,Op.move (Operand.tmp 0),none⟩,[]⟩,
  ⟨⟨some 7,Op.call { callee := (Callee.builtin Builtin.len),args := #[(Operand.tmp 6)],argTypes := #[24] },none⟩,[]⟩,
  ⟨⟨some 8,Op.move (Operand.const (Value.int IntKind.i64 0)),none⟩,[]⟩]) (.block 0 (.loop (.seq (.reg [⟨⟨some 9,Op.binOp BinOp.lss 3 (Operand.tmp 8) (Operand.tmp 7) 3,none⟩,[]⟩]) (.seq (.cond (Operand.tmp 9) .skip (.exit 0)) (.seq (.block 1 (.seq (.reg [⟨⟨some 10,Op.move (Operand.tmp 8),none⟩,[]⟩,
  ⟨⟨some 5,Op.assign (Operand.tmp 10),none⟩,[]⟩]) (.seq (.reg [⟨⟨some 11,Op.move (Operand.tmp 1),none⟩,[]⟩,
  ⟨⟨some 12,Op.move (Operand.tmp 0),none⟩,[]⟩,
  ⟨⟨some 13,Op.move (Operand.tmp 5),none⟩,[]⟩,
  ⟨⟨some 14,Op.indexAddr 24 (Operand.tmp 12) (Operand.tmp 13),none⟩,[]⟩,
  ⟨⟨some 15,Op.load 53 (Operand.tmp 14),none⟩,[]⟩,
  ⟨⟨some 16,Op.call { callee := (Callee.value (Operand.tmp 11)),args := #[(Operand.tmp 15)],argTypes := #[53] },none⟩,[]⟩]) (.cond (Operand.tmp 16) (.seq (.reg [⟨⟨some 17,Op.move (Operand.tmp 5),none⟩,[]⟩,
  ⟨⟨some 4,Op.assign (Operand.tmp 17),none⟩,[]⟩]) .ret) .skip)))) (.reg [⟨⟨some 18,Op.binOp BinOp.add 3 (Operand.tmp 8) (Operand.const (Value.int IntKind.i64 1)) 3,none⟩,[]⟩,
  ⟨⟨some 8,Op.move (Operand.tmp 18),none⟩,[]⟩]))))))) (.seq (.reg [⟨⟨some 4,Op.assign (Operand.const (Value.int IntKind.i64 (-1))),none⟩,[]⟩]) .ret)))
theorem sl135 : slim Tryz.f135.ntmps ords135 (Tryz.f135.body.getD .skip) = some cd135 := by kernel_rfl
theorem in135 {args : List Value} {H : AH} {R : Value → AH → Prop} (hl : args.length = 2) (h : ∀ (Q : Exit → Sl → AH → Prop),(∀ e s H,endA Tryz.prog [ResultVar.tmp 4] R e s H → Q e s H) → wpC Tryz.prog cd135 Q (enterA args) H) : ACalls Tryz.prog 135 args H R :=
  ACalls.intro (by kernel_rfl) Tryz.func135 rfl (by kernel_rfl) sl135 hl (of_decide_eq_true (by kernel_rfl)) (by kernel_rfl) h
def ords120 : List (Nat × List (Nat × Bool)) := []
def cd120 : Cd := (.seq (.reg [⟨⟨some 4,Op.assign (Operand.const (Value.bool false)),none⟩,[]⟩]) (.seq (.reg [⟨⟨some 5,Op.move (Operand.tmp 0),none⟩,[]⟩,
  ⟨⟨some 6,Op.move (Operand.tmp 1),none⟩,[]⟩,
  ⟨⟨some 7,Op.call { callee := (Callee.value (Operand.func 135)),args := #[(Operand.tmp 5),(Operand.tmp 6)],argTypes := #[24,116] },none⟩,[]⟩,
  ⟨⟨some 8,Op.binOp BinOp.geq 3 (Operand.tmp 7) (Operand.const (Value.int IntKind.i64 0)) 3,none⟩,[]⟩,
  ⟨⟨some 4,Op.assign (Operand.tmp 8),none⟩,[]⟩]) .ret))
theorem sl120 : slim Tryz.f120.ntmps ords120 (Tryz.f120.body.getD .skip) = some cd120 := by kernel_rfl
theorem in120 {args : List Value} {H : AH} {R : Value → AH → Prop} (hl : args.length = 2) (h : ∀ (Q : Exit → Sl → AH → Prop),(∀ e s H,endA Tryz.prog [ResultVar.tmp 4] R e s H → Q e s H) → wpC Tryz.prog cd120 Q (enterA args) H) : ACalls Tryz.prog 120 args H R :=
  ACalls.intro (by kernel_rfl) Tryz.func120 rfl (by kernel_rfl) sl120 hl (of_decide_eq_true (by kernel_rfl)) (by kernel_rfl) h
end Go.Proofs.YtelafbennmclfaaGreat.Ai
namespace Go.Proofs.YtelafbennmclfaaGreat.Ai
open Go Go.RowKit
set_option maxRecDepth 20000 in
set_option maxHeartbeats 1000000 in
theorem IndexFuncP_c (v : Value) (ps : List (Int × Int)) (p : Int × Int → Bool) (g : FuncId) (caps : List Value) (H : AH) (hr : RowP 53 H v ps) (hlen : ps.length ≤ 1099511627776)
    (hp : ∀ x ∈ ps,∀ H1,H <+: H1 → ACalls Tryz.prog g (.agg (List.toArray [.int .i64 x.1,.int .i64 x.2]) :: caps) H1 fun r H' => r = .bool (p x) ∧ H1 <+: H') :
    ACalls Tryz.prog 135 [v,.func (.func g) #[] (List.toArray caps)] H fun r H' => (∃ k : Int,r = .int .i64 k ∧ (0 ≤ k ↔ ps.any p = true)) ∧ H <+: H' := by
  refine in135 rfl ?_
  intro Q hQ
  simp (maxSteps := 1000000) (disch := omega) only [cd135,hr.len Tryz.underlying24,SS,eq_self,reduceIte,reduceCtorEq,Nat.reduceEqDiff,Nat.reduceAdd]
  refine LoopH.by (fun m s H' => ∃ i,m + i = ps.length ∧ s 0 = v ∧ s 1 = .func (.func g) #[] (List.toArray caps) ∧ s 8 = .int .i64 ((i : Nat) : Int) ∧ s 7 = .int .i64 (ps.length : Int) ∧ H <+: H' ∧ ∀ j,j < i → p (ps.getD j (0,0)) = false) ps.length ?_ ?_
  · exact ⟨0,by simp,rfl,rfl,rfl,rfl,List.prefix_refl _,fun j hj => absurd hj (Nat.not_lt_zero j)⟩
  · rintro m s H' ⟨i,hm,h0,h1,h8,h7,hpp,hn⟩
    have hr' := hr.pre hpp
    simp (maxSteps := 1000000) (disch := omega) only [h0,h1,h8,h7,SS,eq_self,reduceIte,reduceCtorEq,Nat.reduceEqDiff,Nat.reduceAdd]
    refine brD.intro (fun g1 => ?_) (fun g1 => ?_)
    · have hi : i < ps.length := by omega
      have hmem : ps.getD i (0,0) ∈ ps := by simp [hi]
      simp (maxSteps := 1000000) (disch := omega) only [h0,h1,h8,h7,hr'.ix Tryz.underlying24 cs53,Int.toNat_natCast,hr'.ld ag53 cs53 hi,SS,eq_self,reduceIte,reduceCtorEq,Nat.reduceEqDiff,Nat.reduceAdd]
      refine CallH.by (hp (ps.getD i (0,0)) hmem H' hpp) ?_
      rintro _ D ⟨rfl,pD⟩
      simp (maxSteps := 1000000) (disch := omega) only [SS,eq_self,reduceIte,reduceCtorEq,Nat.reduceEqDiff,Nat.reduceAdd]
      refine brH.intro (fun e => ?_) (fun e => ?_) <;> simp (maxSteps := 1000000) (disch := omega) only [e,h0,h1,h8,h7,wrap64,SS,eq_self,reduceIte,reduceCtorEq,Nat.reduceEqDiff,Nat.reduceAdd]
      · refine hQ _ _ _ ?_
        simp (maxSteps := 1000000) (disch := omega) only [SS,eq_self,reduceIte,reduceCtorEq,Nat.reduceEqDiff,Nat.reduceAdd]
        exact ⟨⟨i,rfl,⟨fun _ => List.any_eq_true.2 ⟨_,hmem,e⟩,fun _ => by omega⟩⟩,hpp.trans pD⟩
      · have f1 : ∀ j,j < i + 1 → p (ps.getD j (0,0)) = false := by
          intro j hj
          rcases Nat.lt_succ_iff_lt_or_eq.1 hj with h | h
          · exact hn j h
          · rw [h]; exact e
        have f2 := hpp.trans pD
        refine ⟨m - 1,by omega,i + 1,?_⟩
        (repeat' apply And.intro) <;> first | exact f1 | exact f2 | (simp only [Value.int.injEq,true_and]; omega) | omega | rfl | assumption | (simp; done) | (simp; omega)
    · simp (maxSteps := 1000000) (disch := omega) only [SS,eq_self,reduceIte,reduceCtorEq,Nat.reduceEqDiff,Nat.reduceAdd]
      refine hQ _ _ _ ?_
      simp (maxSteps := 1000000) (disch := omega) only [SS,eq_self,reduceIte,reduceCtorEq,Nat.reduceEqDiff,Nat.reduceAdd]
      refine ⟨⟨-1,rfl,⟨fun h => absurd h (by omega),fun h => ?_⟩⟩,hpp⟩
      obtain ⟨x,hx,e⟩ := List.any_eq_true.1 h
      obtain ⟨j,hj,e2⟩ := List.mem_iff_getElem.1 hx
      have := hn j (by omega)
      rw [show ps.getD j (0,0) = x by simp [hj,e2],e] at this
      cases this
set_option maxHeartbeats 1000000 in
theorem ContainsFuncP_c (v : Value) (ps : List (Int × Int)) (p : Int × Int → Bool) (g : FuncId) (caps : List Value) (H : AH) (hr : RowP 53 H v ps) (hlen : ps.length ≤ 1099511627776)
    (hp : ∀ x ∈ ps,∀ H1,H <+: H1 → ACalls Tryz.prog g (.agg (List.toArray [.int .i64 x.1,.int .i64 x.2]) :: caps) H1 fun r H' => r = .bool (p x) ∧ H1 <+: H') :
    ACalls Tryz.prog 120 [v,.func (.func g) #[] (List.toArray caps)] H fun r H' => r = .bool (ps.any p) ∧ H <+: H' := by
  refine in120 rfl ?_
  intro Q hQ
  simp (maxSteps := 1000000) (disch := omega) only [cd120,SS,eq_self,reduceIte,reduceCtorEq,Nat.reduceEqDiff,Nat.reduceAdd]
  refine CallH.by (IndexFuncP_c v ps p g caps H hr hlen hp) ?_
  rintro _ D ⟨⟨k,rfl,hk⟩,pD⟩
  simp (maxSteps := 1000000) (disch := omega) only [SS,eq_self,reduceIte,reduceCtorEq,Nat.reduceEqDiff,Nat.reduceAdd]
  refine hQ _ _ _ ?_
  simp (maxSteps := 1000000) (disch := omega) only [SS,eq_self,reduceIte,reduceCtorEq,Nat.reduceEqDiff,Nat.reduceAdd]
  refine ⟨?_,pD⟩
  by_cases h : ps.any p = true
  · rw [h,decide_eq_true (hk.2 h)]
  · rw [decide_eq_false (fun q => h (hk.1 q))]
    have h' : ps.any p = false := by simpa using h
    rw [h']
def ords121 : List (Nat × List (Nat × Bool)) := [(1,[(0,false),(1,false),(2,false),(3,false),(4,false),(5,false),(6,false),(7,false),(8,false),(9,false),(10,false),(11,false)])]
def cd121 : Cd := (.seq (.reg [⟨⟨some 2,Op.box 53 (Operand.tmp 0),none⟩,[]⟩,
  ⟨⟨some 3,Op.assign (Operand.const (Value.bool false)),none⟩,[]⟩]) (.seq (.reg [⟨⟨some 4,Op.load 27 (Operand.tmp 1),none⟩,[]⟩,
  ⟨⟨some 5,Op.indexAddr 53 (Operand.tmp 2) (Operand.const (Value.int IntKind.i64 0)),none⟩,[]⟩,
  ⟨⟨some 6,Op.load 3 (Operand.tmp 5),none⟩,[]⟩,
  ⟨⟨some 7,Op.indexAddr 27 (Operand.tmp 4) (Operand.tmp 6),none⟩,[]⟩,
  ⟨⟨some 8,Op.load 3 (Operand.tmp 7),none⟩,[]⟩,
  ⟨⟨some 9,Op.load 27 (Operand.tmp 1),none⟩,[]⟩,
  ⟨⟨some 10,Op.indexAddr 53 (Operand.tmp 2) (Operand.const (Value.int IntKind.i64 1)),none⟩,[]⟩,
  ⟨⟨some 11,Op.load 3 (Operand.tmp 10),none⟩,[]⟩,
  ⟨⟨some 12,Op.indexAddr 27 (Operand.tmp 9) (Operand.tmp 11),none⟩,[]⟩,
  ⟨⟨some 13,Op.load 3 (Operand.tmp 12),none⟩,[]⟩,
  ⟨⟨some 14,Op.binOp BinOp.eql 3 (Operand.tmp 8) (Operand.tmp 13) 3,none⟩,[]⟩,
  ⟨⟨some 3,Op.assign (Operand.tmp 14),none⟩,[]⟩]) .ret))
theorem sl121 : slim Tryz.f121.ntmps ords121 (Tryz.f121.body.getD .skip) = some cd121 := by kernel_rfl
theorem in121 {args : List Value} {H : AH} {R : Value → AH → Prop} (hl : args.length = 2) (h : ∀ (Q : Exit → Sl → AH → Prop),(∀ e s H,endA Tryz.prog [ResultVar.tmp 3] R e s H → Q e s H) → wpC Tryz.prog cd121 Q (enterA args) H) : ACalls Tryz.prog 121 args H R :=
  ACalls.intro (by kernel_rfl) Tryz.func121 rfl (by kernel_rfl) sl121 hl (of_decide_eq_true (by kernel_rfl)) (by kernel_rfl) h
def ords98 : List (Nat × List (Nat × Bool)) := [(1,[(0,false),(2,false),(3,false),(4,false),(5,false),(1,true),(6,false),(7,true)]),(9,[(0,false),(1,false),(2,false),(3,false),(4,false),(5,false),(6,false),(7,false),(8,true)])]
def cd98 : Cd := (.seq (.reg [⟨⟨some 1,Op.box 26 (Operand.tmp 0),none⟩,[]⟩,
  ⟨⟨some 2,Op.assign (Operand.const (Value.bool false)),none⟩,[]⟩]) (.seq (.reg [⟨⟨some 10,Op.load 26 (Operand.tmp 1),none⟩,[]⟩,
  ⟨⟨some 12,Op.fieldAddr 26 (Operand.tmp 1) 0,none⟩,[]⟩,
  ⟨⟨some 13,Op.load 3 (Operand.tmp 12),none⟩,[]⟩,
  ⟨⟨some 14,Op.makeSlice 27 (Operand.tmp 13) (Operand.tmp 13),none⟩,[]⟩,
  ⟨⟨some 4,Op.alloc 27,none⟩,[]⟩,
  ⟨⟨some 11,Op.call { callee := (Callee.value (Operand.func 67)),args := #[(Operand.tmp 10)],argTypes := #[26] },none⟩,[⟨some 4,Op.alloc 27,none⟩,⟨some 14,Op.makeSlice 27 (Operand.tmp 13) (Operand.tmp 13),none⟩,⟨some 13,Op.load 3 (Operand.tmp 12),none⟩]⟩,
  ⟨⟨some 3,Op.assign (Operand.tmp 11),none⟩,[]⟩,
  ⟨⟨none,Op.store 27 (Operand.tmp 4) (Operand.tmp 14),none⟩,[]⟩]) (.seq (.seq (.reg [⟨⟨some 15,Op.move (Operand.tmp 3),none⟩,[]⟩,
  ⟨⟨some 16,Op.call { callee := (Callee.value (Operand.func 119)),args := #[(Operand.tmp 15),(Operand.const (Value.int IntKind.i64 (-1)))],argTypes := #[43,3] },none⟩,[]⟩,
  ⟨⟨some 17,Op.call { callee := (Callee.builtin Builtin.len),args := #[(Operand.tmp 16)],argTypes := #[43] },none⟩,[]⟩,
  ⟨⟨some 18,Op.move (Operand.const (Value.int IntKind.i64 0)),none⟩,[]⟩]) (.block 0 (.loop (.seq (.reg [⟨⟨some 19,Op.binOp BinOp.lss 3 (Operand.tmp 18) (Operand.tmp 17) 3,none⟩,[]⟩]) (.seq (.cond (Operand.tmp 19) .skip (.exit 0)) (.seq (.block 1 (.seq (.reg [⟨⟨some 20,Op.indexAddr 43 (Operand.tmp 16) (Operand.tmp 18),none⟩,[]⟩,
  ⟨⟨some 21,Op.load 27 (Operand.tmp 20),none⟩,[]⟩,
  ⟨⟨some 6,Op.assign (Operand.tmp 21),none⟩,[]⟩]) (.seq (.reg [⟨⟨some 22,Op.move (Operand.tmp 3),none⟩,[]⟩,
  ⟨⟨some 23,Op.move (Operand.tmp 6),none⟩,[]⟩,
  ⟨⟨some 24,Op.indexAddr 27 (Operand.tmp 23) (Operand.const (Value.int IntKind.i64 0)),none⟩,[]⟩,
  ⟨⟨some 25,Op.load 3 (Operand.tmp 24),none⟩,[]⟩,
  ⟨⟨some 26,Op.call { callee := (Callee.value (Operand.func 68)),args := #[(Operand.tmp 22),(Operand.tmp 25)],argTypes := #[43,3] },none⟩,[]⟩,
  ⟨⟨some 7,Op.assign (Operand.tmp 26),none⟩,[]⟩]) (.seq (.reg [⟨⟨some 27,Op.move (Operand.tmp 6),none⟩,[]⟩,
  ⟨⟨some 28,Op.call { callee := (Callee.builtin Builtin.len),args := #[(Operand.tmp 27)],argTypes := #[27] },none⟩,[]⟩,
  ⟨⟨some 29,Op.move (Operand.const (Value.int IntKind.i64 0)),none⟩,[]⟩]) (.block 2 (.loop (.seq (.reg [⟨⟨some 30,Op.binOp BinOp.lss 3 (Operand.tmp 29) (Operand.tmp 28) 3,none⟩,[]⟩]) (.seq (.cond (Operand.tmp 30) .skip (.exit 2)) (.seq (.block 3 (.seq (.reg [⟨⟨some 31,Op.indexAddr 27 (Operand.tmp 27) (Operand.tmp 29),none⟩,[]⟩,
  ⟨⟨some 32,Op.load 3 (Operand.tmp 31),none⟩,[]⟩,
  ⟨⟨some 9,Op.assign (Operand.tmp 32),none⟩,[]⟩]) (.reg [⟨⟨some 33,Op.load 27 (Operand.tmp 4),none⟩,[]⟩,
  ⟨⟨some 34,Op.move (Operand.tmp 9),none⟩,[]⟩,
  ⟨⟨some 35,Op.move (Operand.tmp 7),none⟩,[]⟩,
  ⟨⟨some 36,Op.move (Operand.tmp 9),none⟩,[]⟩,
  ⟨⟨some 37,Op.indexAddr 27 (Operand.tmp 35) (Operand.tmp 36),none⟩,[]⟩,
  ⟨⟨some 38,Op.load 3 (Operand.tmp 37),none⟩,[]⟩,
  ⟨⟨some 39,Op.binOp BinOp.rem 3 (Operand.tmp 38) (Operand.const (Value.int IntKind.i64 2)) 3,none⟩,[]⟩,
  ⟨⟨some 40,Op.indexAddr 27 (Operand.tmp 33) (Operand.tmp 34),none⟩,[]⟩,
  ⟨⟨none,Op.store 3 (Operand.tmp 40) (Operand.tmp 39),none⟩,[]⟩]))) (.reg [⟨⟨some 41,Op.binOp BinOp.add 3 (Operand.tmp 29) (Operand.const (Value.int IntKind.i64 1)) 3,none⟩,[]⟩,
  ⟨⟨some 29,Op.move (Operand.tmp 41),none⟩,[]⟩])))))))))) (.reg [⟨⟨some 42,Op.binOp BinOp.add 3 (Operand.tmp 18) (Operand.const (Value.int IntKind.i64 1)) 3,none⟩,[]⟩,
  ⟨⟨some 18,Op.move (Operand.tmp 42),none⟩,[]⟩]))))))) (.seq (.reg [⟨⟨some 43,Op.fieldAddr 26 (Operand.tmp 1) 1,none⟩,[]⟩,
  ⟨⟨some 44,Op.load 24 (Operand.tmp 43),none⟩,[]⟩,
  ⟨⟨some 45,Op.makeFunc (Fn.func 121) #[] #[(Operand.tmp 4)],none⟩,[]⟩,
  ⟨⟨some 46,Op.call { callee := (Callee.value (Operand.func 120)),args := #[(Operand.tmp 44),(Operand.tmp 45)],argTypes := #[24,116] },none⟩,[]⟩,
  ⟨⟨some 47,Op.unOp UnOp.not 4 (Operand.tmp 46),none⟩,[]⟩,
  ⟨⟨some 2,Op.assign (Operand.tmp 47),none⟩,[]⟩]) .ret))))
theorem sl98 : slim Tryz.f98.ntmps ords98 (Tryz.f98.body.getD .skip) = some cd98 := by kernel_rfl
theorem in98 {args : List Value} {H : AH} {R : Value → AH → Prop} (hl : args.length = 1) (h : ∀ (Q : Exit → Sl → AH → Prop),(∀ e s H,endA Tryz.prog [ResultVar.tmp 2] R e s H → Q e s H) → wpC Tryz.prog cd98 Q (enterA args) H) : ACalls Tryz.prog 98 args H R :=
  ACalls.intro (by kernel_rfl) Tryz.func98 rfl (by kernel_rfl) sl98 hl (of_decide_eq_true (by kernel_rfl)) (by kernel_rfl) h
def ords60 : List (Nat × List (Nat × Bool)) := []
def cd60 : Cd := (.seq (.reg [⟨⟨some 1,Op.box 26 (Operand.tmp 0),none⟩,[]⟩,
  ⟨⟨some 2,Op.assign (Operand.const (Value.bool false)),none⟩,[]⟩,
  ⟨⟨some 3,Op.assign (Operand.const (Value.bool false)),none⟩,[]⟩]) (.seq (.seq (.reg [⟨⟨some 4,Op.load 26 (Operand.tmp 1),none⟩,[]⟩,
  ⟨⟨some 5,Op.call { callee := (Callee.value (Operand.func 73)),args := #[(Operand.tmp 4)],argTypes := #[26] },none⟩,[]⟩,
  ⟨⟨some 6,Op.unOp UnOp.not 4 (Operand.tmp 5),none⟩,[]⟩]) (.cond (Operand.tmp 6) (.seq (.reg [⟨⟨some 2,Op.assign (Operand.const (Value.bool false)),none⟩,[]⟩,
  ⟨⟨some 3,Op.assign (Operand.const (Value.bool false)),none⟩,[]⟩]) .ret) .skip)) (.seq (.reg [⟨⟨some 7,Op.load 26 (Operand.tmp 1),none⟩,[]⟩,
  ⟨⟨some 8,Op.call { callee := (Callee.value (Operand.func 98)),args := #[(Operand.tmp 7)],argTypes := #[26] },none⟩,[]⟩,
  ⟨⟨some 2,Op.assign (Operand.tmp 8),none⟩,[]⟩,
  ⟨⟨some 3,Op.assign (Operand.const (Value.bool true)),none⟩,[]⟩]) .ret)))
theorem sl60 : slim Tryz.f60.ntmps ords60 (Tryz.f60.body.getD .skip) = some cd60 := by kernel_rfl
theorem in60 {args : List Value} {H : AH} {R : Value → AH → Prop} (hl : args.length = 1) (h : ∀ (Q : Exit → Sl → AH → Prop),(∀ e s H,endA Tryz.prog [ResultVar.tmp 2,ResultVar.tmp 3] R e s H → Q e s H) → wpC Tryz.prog cd60 Q (enterA args) H) : ACalls Tryz.prog 60 args H R :=
  ACalls.intro (by kernel_rfl) Tryz.func60 rfl (by kernel_rfl) sl60 hl (of_decide_eq_true (by kernel_rfl)) (by kernel_rfl) h
end Go.Proofs.YtelafbennmclfaaGreat.Ai
namespace Go.Proofs.YtelafbennmclfaaGreat.Ai
open Go Go.RowKit
theorem InL.frame {lo hi q : Nat} {e2 e : TypeId} {H H' : AH} {v : Value} {ls : List (List Int)} (h : InL lo hi e2 e H v ls) (hq : q < lo ∨ hi ≤ q) (hh : ∀ (j : Nat) (y : AObj),j ≠ q → H[j]? = some y → H'[j]? = some y) : InL lo hi e2 e H' v ls := by
  rcases h with h | ⟨o,us,h1,h2⟩
  · exact .inl h
  · exact .inr ⟨o,us,h1,h2.moveq (h2.away hq) hh⟩
theorem alloc_slE (H : AH) : allocA Tryz.prog 27 H = some (.pointer (some ⟨H.length,0,none⟩),H ++ [.cells [.slice none 0 0] 27 false]) := by kernel_rfl
theorem mkf_1E (f : Fn) (p : Option Addr) : makeFuncA f [] [.pointer p] = some (.func f #[] (List.toArray [.pointer p])) := rfl
set_option maxRecDepth 20000 in
set_option maxHeartbeats 1000000 in
theorem evClos_c (a b : Nat) (sd : List Int) (ps so : Nat) (H : AH) (h1 : H[ps]? = some (.cells [.slice (some ⟨so,0,none⟩) sd.length sd.length] 27 false)) (h2 : H[so]? = some (.cells (ints sd) 3 false)) (ha : a < sd.length) (hb : b < sd.length) :
    ACalls Tryz.prog 121 [.agg (List.toArray [.int .i64 (a : Int),.int .i64 (b : Int)]),.pointer (some ⟨ps,0,none⟩)] H fun r H' => r = .bool (decide (sd.getD a 0 = sd.getD b 0)) ∧ H <+: H' := by
  refine in121 rfl ?_
  intro Q hQ
  simp (maxSteps := 1000000) (disch := omega) only [cd121,box_a2,SS,eq_self,reduceIte,reduceCtorEq,Nat.reduceEqDiff,Nat.reduceAdd]
  generalize hA : H ++ [AObj.cells [.int .i64 (a : Int),.int .i64 (b : Int)] 53 false] = A
  have pA : H <+: A := by rw [← hA]; exact List.prefix_append _ _
  have cA : A[H.length]? = some (.cells [.int .i64 (a : Int),.int .i64 (b : Int)] 53 false) := by rw [← hA]; exact at_new ..
  have c1 := pre_at pA h1
  have c2 := pre_at pA h2
  have ia := ints_at sd ha
  have ib := ints_at sd hb
  simp (maxSteps := 1000000) (disch := omega) only [cell_of cA,cell_of c1,cell_of c2,Int.toNat_natCast,Nat.zero_add,ia,ib,SS,eq_self,reduceIte,reduceCtorEq,Nat.reduceEqDiff,Nat.reduceAdd]
  refine hQ _ _ _ ?_
  simp (maxSteps := 1000000) (disch := omega) only [SS,eq_self,reduceIte,reduceCtorEq,Nat.reduceEqDiff,Nat.reduceAdd]
  exact pA
set_option maxRecDepth 20000 in
set_option maxHeartbeats 8000000 in
theorem isEven_c (n : Nat) (v : Value) (es : List (Int × Int)) (H : AH) (hr : RowP 53 H v es) (hlen : es.length ≤ 1099511627776) (hg : Grd (n : Int) es) :
    ACalls Tryz.prog 98 [.agg (List.toArray [.int .i64 (n : Int),v])] H fun r H' => r = .bool (evB n es) ∧ H <+: H' := by
  have hn : n ≤ 8 := by have := hg.1; omega
  refine in98 rfl ?_
  intro Q hQ
  simp (maxSteps := 1000000) (disch := omega) only [cd98,hr.boxG,SS,eq_self,reduceIte,reduceCtorEq,Nat.reduceEqDiff,Nat.reduceAdd]
  generalize hA : H ++ [AObj.cells [.int .i64 ↑n,v] 26 false] = A
  have pA : H <+: A := by rw [← hA]; exact List.prefix_append _ _
  have cA : A[H.length]? = some (.cells [.int .i64 ↑n,v] 26 false) := by rw [← hA]; exact at_new ..
  have rA := hr.pre pA
  have mk := mks27 (n := (n : Int)) (by omega) (by omega) A
  rw [Int.toNat_natCast] at mk
  simp (maxSteps := 1000000) (disch := omega) only [ld_agg ag26 cs26 cA,cell_of cA,mk,SS,eq_self,reduceIte,reduceCtorEq,Nat.reduceEqDiff,Nat.reduceAdd]
  generalize hB : A ++ [AObj.cells (ints (List.replicate n 0)) 3 false] = B
  have pB : A <+: B := by rw [← hB]; exact List.prefix_append _ _
  have cB : B[A.length]? = some (.cells (ints (List.replicate n 0)) 3 false) := by rw [← hB]; exact at_new ..
  have lA : A.length = H.length + 1 := by rw [← hA]; simp
  have lB : B.length = A.length + 1 := by rw [← hB]; simp
  simp (maxSteps := 1000000) (disch := omega) only [alloc_slE,SS,eq_self,reduceIte,reduceCtorEq,Nat.reduceEqDiff,Nat.reduceAdd]
  generalize hC : B ++ [AObj.cells [.slice none 0 0] 27 false] = C
  have pC : B <+: C := by rw [← hC]; exact List.prefix_append _ _
  have cC : C[B.length]? = some (.cells [.slice none 0 0] 27 false) := by rw [← hC]; exact at_new ..
  have lC : C.length = B.length + 1 := by rw [← hC]; simp
  have rC := rA.pre (pB.trans pC)
  refine CallH.by (roads_c n v es C rC hlen hg) ?_
  rintro w D ⟨hL,pD⟩
  rw [Int.toNat_natCast] at hL
  have cCB := pre_at pC cB
  have cCA := pre_at (pB.trans pC) cA
  have dC := pre_at pD cC
  have dB := pre_at pD cCB
  have dA := pre_at pD cCA
  have hst := st_at (P := Tryz.prog) (t := 27) (i := 0) (y := .slice (some ⟨A.length,0,none⟩) n n) cs27 dC (by show 0 < 1; decide) rfl rfl
  rw [List.set_cons_zero] at hst
  simp (maxSteps := 1000000) (disch := omega) only [cC,dC,cCB,dB,cell_of dA,hst,SS,eq_self,reduceIte,reduceCtorEq,Nat.reduceEqDiff,Nat.reduceAdd]
  generalize hE : D.set B.length (.cells [.slice (some ⟨A.length,0,none⟩) n n] 27 false) = E
  have lD := pD.length_le
  have lE : E.length = D.length := by rw [← hE]; simp
  have atE : ∀ {o y},o ≠ B.length → D[o]? = some y → E[o]? = some y := fun ho hy => by rw [← hE,List.getElem?_set_ne (fun e => ho e.symm)]; exact hy
  have eC : E[B.length]? = some (.cells [.slice (some ⟨A.length,0,none⟩) n n] 27 false) := by rw [← hE,List.getElem?_set_self (by omega)]
  have eB : E[A.length]? = some (.cells (ints (List.replicate n 0)) 3 false) := atE (by omega) dB
  have eA : E[H.length]? = some (.cells [.int .i64 (n : Int),v] 26 false) := atE (by omega) dA
  have hLE := hL.frame (H' := E) (q := B.length) (.inl (by omega)) (fun j y hj hy => atE hj hy)
  have hok := roadsL_ok n es
  have hrl := roadsL_len n es
  have hsml := roadsL_small n es (by omega)
  have hp0 := roads_parts n es
  have hple := pieces_le es (alls n) (alls_sm hn)
  have hal := alls_len n
  refine CallH.by (parts_c w (roadsL n es) (-1) E hLE.row hok (by omega) (by omega) hsml) ?_
  rintro r F ⟨hP,pF⟩
  rw [hp0] at hP
  have lF := pF.length_le
  have hes := even_side hg
  have hmemP : ∀ p ∈ piecesL es (alls n),p.length ≤ 8 ∧ ∀ x ∈ p,0 ≤ x ∧ x < n := fun p hp => by
    obtain ⟨x,hx,rfl⟩ := pieces_mem hp
    have hx' := alls_sm hn x hx
    exact ⟨(Sm.reach (alls_sm hn) hx').len,fun y hy => (alls_mem n y).1 (piece_sub hp hy)⟩
  have hfst : ∀ p ∈ piecesL es (alls n),0 < p.length := fun p hp => List.length_pos_of_mem (piece_first hp)
  generalize hPL : piecesL es (alls n) = P at *
  generalize hRL : roadsL n es = L at *
  obtain ⟨us,hus0,hul,_⟩ := hP.parts
  simp (maxSteps := 1000000) (disch := omega) only [hus0.len Tryz.underlying43,hul,SS,eq_self,reduceIte,reduceCtorEq,Nat.reduceEqDiff,Nat.reduceAdd]
  refine LoopH.by (fun m s H' => ∃ i,m + i = P.length ∧ s 1 = .pointer (some ⟨H.length,0,none⟩) ∧ s 3 = w ∧ s 4 = .pointer (some ⟨B.length,0,none⟩) ∧ s 16 = r ∧ s 17 = .int .i64 (P.length : Int) ∧ s 18 = .int .i64 ((i : Nat) : Int) ∧
    H'[A.length]? = some (.cells (ints (sideL L (P.take i) (List.replicate n 0))) 3 false) ∧ (∀ (j : Nat) (y : AObj),j ≠ A.length → F[j]? = some y → H'[j]? = some y) ∧ F.length ≤ H'.length) P.length ?_ ?_
  · exact ⟨0,by simp,rfl,rfl,rfl,rfl,rfl,rfl,pre_at pF eB,fun j y _ hy => hy,Nat.le_refl _⟩
  rintro m s H' ⟨i,hm,h1,h3,h4,h16,h17,h18,hS,hk,hFl⟩
  have hP' := hP.frame (H' := H') (q := A.length) (.inl (by omega)) hk
  have hL' := (hLE.pre pF).frame (H' := H') (q := A.length) (.inl (by omega)) hk
  have cG := hk _ _ (by omega) (pre_at pF eA)
  have cS := hk _ _ (by omega) (pre_at pF eC)
  have hSl := sideL_len L (P.take i) (List.replicate n 0)
  rw [List.length_replicate] at hSl
  simp (maxSteps := 1000000) (disch := omega) only [h1,h3,h4,h16,h17,h18,SS,eq_self,reduceIte,reduceCtorEq,Nat.reduceEqDiff,Nat.reduceAdd]
  refine brD.intro (fun g => ?_) (fun g => ?_)
  rotate_left
  · have hi : i = P.length := by omega
    subst hi
    rw [List.take_of_length_le (Nat.le_refl _)] at hS hSl
    have hpre : H <+: H' := prefix_of fun j y hy => hk j y (by have := at_lt hy; omega) (pre_at pF (atE (by have := at_lt hy; omega) (pre_at (pA.trans (pB.trans (pC.trans pD))) hy)))
    have rH' : RowP 53 H' v es := hr.pre hpre
    simp (maxSteps := 1000000) (disch := omega) only [h1,h4,cell_of cG,mkf_1E,SS,eq_self,reduceIte,reduceCtorEq,Nat.reduceEqDiff,Nat.reduceAdd]
    generalize hSS : sideL L P (List.replicate n 0) = sd at *
    refine CallH.by (ContainsFuncP_c v es (fun e => decide (sd.getD e.1.toNat 0 = sd.getD e.2.toNat 0)) 121 [.pointer (some ⟨B.length,0,none⟩)] H' rH' hlen (fun x hx H1 hp1 => by
      obtain ⟨q1,q2,q3⟩ := grd_mem hg hx
      have e1 : ((x.1.toNat : Nat) : Int) = x.1 := by omega
      have e2 : ((x.2.toNat : Nat) : Int) = x.2 := by omega
      have := evClos_c x.1.toNat x.2.toNat sd B.length A.length H1 (by rw [hSl]; exact pre_at hp1 cS) (pre_at hp1 hS) (by omega) (by omega)
      rw [e1,e2] at this
      exact this)) ?_
    rintro _ G ⟨rfl,pG⟩
    simp (maxSteps := 1000000) (disch := omega) only [SS,eq_self,reduceIte,reduceCtorEq,Nat.reduceEqDiff,Nat.reduceAdd]
    refine hQ _ _ _ ?_
    simp (maxSteps := 1000000) (disch := omega) only [SS,eq_self,reduceIte,reduceCtorEq,Nat.reduceEqDiff,Nat.reduceAdd]
    refine ⟨?_,hpre.trans pG⟩
    rw [Value.bool.injEq]
    cases hev : evB n es
    · rw [hev] at hes
      apply Decidable.byContradiction
      intro hne
      have hany : es.any (fun e => decide (sd.getD e.1.toNat 0 = sd.getD e.2.toNat 0)) = false := by simpa using hne
      have := hes.1 (fun e he => by
        have := List.any_eq_false.1 hany e he
        simpa using this)
      cases this
    · have := hes.2 hev
      have hany : es.any (fun e => decide (sd.getD e.1.toNat 0 = sd.getD e.2.toNat 0)) = false := by
        rw [List.any_eq_false]
        intro e he
        simpa using this e he
      rw [hany]; rfl
  have hi : i < P.length := by omega
  have hmem : P.getD i [] ∈ P := by simp [hi]
  obtain ⟨hp8,hprg⟩ := hmemP _ hmem
  have hpf := hfst _ hmem
  have htk : sideL L (P.take (i + 1)) (List.replicate n 0) = sidePt (bfs L ((P.getD i []).getD 0 0).toNat) (P.getD i []) (sideL L (P.take i) (List.replicate n 0)) := by
    unfold sideL
    rw [List.take_add_one,List.getElem?_eq_getElem hi,List.foldl_append]
    have : P.getD i [] = P[i] := by simp [hi]
    rw [this]; rfl
  obtain ⟨us2,hus2,hul2,heach⟩ := hP'.parts
  have hrow := heach i hi
  have hrw := hrow.row.1
  have hcell := hus2.cell (show i < us2.length by omega)
  generalize hp : P.getD i [] = p at *
  have hp0m : p.getD 0 0 ∈ p := by simp [hpf]
  have hp0r := hprg _ hp0m
  obtain ⟨k,hk0⟩ : ∃ k : Nat,p.getD 0 0 = k := ⟨(p.getD 0 0).toNat,by omega⟩
  rw [hk0] at hp0r htk
  have hc0 := hrw.cell hpf
  rw [hk0,Nat.add_zero] at hc0
  have z0 : (0 : Int).toNat = 0 := rfl
  generalize hu : us2.getD i undef = u at *
  simp (maxSteps := 1000000) (disch := omega) only [h1,h3,h4,h16,h17,h18,hus2.ix Tryz.underlying43 cs27,hcell,Int.toNat_natCast,hrw.ix Tryz.underlying27 cs3,z0,hc0,SS,eq_self,reduceIte,reduceCtorEq,Nat.reduceEqDiff,Nat.reduceAdd]
  refine CallH.by (spread_c w L k H' hL'.row hok (by omega) (by omega) hsml) ?_
  rintro far G ⟨hfar,pG⟩
  rw [Int.toNat_natCast] at htk
  have hbl := bfs_rng L hok k (by omega)
  rw [hrl] at hbl
  have hfr := hfar.row
  have hrG := hrw.pre pG
  have hSG := pre_at pG hS
  have cSG := pre_at pG cS
  generalize hS0 : sideL L (P.take i) (List.replicate n 0) = S0 at *
  generalize hfL : bfs L k = fL at *
  simp (maxSteps := 1000000) (disch := omega) only [h1,h3,h4,h16,h17,h18,hrG.len Tryz.underlying27,SS,eq_self,reduceIte,reduceCtorEq,Nat.reduceEqDiff,Nat.reduceAdd]
  have hGl := pG.length_le
  refine LoopH.by (fun m' s' H2 => ∃ j,m' + j = p.length ∧ s' 1 = .pointer (some ⟨H.length,0,none⟩) ∧ s' 3 = w ∧ s' 4 = .pointer (some ⟨B.length,0,none⟩) ∧ s' 7 = far ∧ s' 16 = r ∧ s' 17 = .int .i64 (P.length : Int) ∧ s' 18 = .int .i64 ((i : Nat) : Int) ∧ s' 27 = u ∧ s' 28 = .int .i64 (p.length : Int) ∧ s' 29 = .int .i64 ((j : Nat) : Int) ∧
    H2[A.length]? = some (.cells (ints (sidePt fL (p.take j) S0)) 3 false) ∧ (∀ (j : Nat) (y : AObj),j ≠ A.length → G[j]? = some y → H2[j]? = some y) ∧ H2.length = G.length) p.length ?_ ?_
  · refine ⟨0,by simp,?_⟩
    have f1 : G[A.length]? = some (.cells (ints (sidePt fL (p.take 0) S0)) 3 false) := hSG
    have f2 : ∀ (j : Nat) (y : AObj),j ≠ A.length → G[j]? = some y → G[j]? = some y := fun j y _ hy => hy
    simp (maxSteps := 1000000) (disch := omega) only [h1,h3,h4,h16,h17,h18,SS,eq_self,reduceIte,reduceCtorEq,Nat.reduceEqDiff,Nat.reduceAdd]
    (repeat' first | exact f1 | exact f2 | apply And.intro) <;> first | (simp only [Value.int.injEq,true_and]; omega) | omega | rfl | assumption | (simp; done) | (simp; omega)
  rintro m' s' H2 ⟨j,hm',k1,k3,k4,k7,k16,k17,k18,k27,k28,k29,hS2,hk2,hl2⟩
  have hSl2 := sidePt_len fL (p.take j) S0
  have ap1 : Apart far (.slice (some ⟨A.length,0,none⟩) 0 0) := by
    rcases hfar with q | ⟨oo,q1,q2,_⟩
    · exact .inr (.inl q.1)
    · refine .inr (.inr ?_)
      rw [q1]
      show oo ≠ A.length
      omega
  have ap2 : Apart u (.slice (some ⟨A.length,0,none⟩) 0 0) := by
    rcases hrow.at_ with q | q
    · exact .inr (.inl q)
    · refine .inr (.inr ?_)
      show rowO u ≠ A.length
      omega
  have hkp : Kept (.slice (some ⟨A.length,0,none⟩) 0 0) G H2 := fun j y hj hy => by
    rcases hj with hj | hj
    · cases hj
    · exact hk2 j y hj hy
  have hf2 := hfr.kept ap1 hkp
  have hr2 := hrG.kept ap2 hkp
  have cS2 := hk2 _ _ (by omega) cSG
  simp (maxSteps := 1000000) (disch := omega) only [k1,k3,k4,k7,k16,k17,k18,k27,k28,k29,SS,eq_self,reduceIte,reduceCtorEq,Nat.reduceEqDiff,Nat.reduceAdd]
  refine brD.intro (fun q => ?_) (fun q => ?_)
  · have hj : j < p.length := by omega
    have hxm : p.getD j 0 ∈ p := by simp [hj]
    have hxr := hprg _ hxm
    have hcx := hr2.cell hj
    have hstp : sidePt fL (p.take (j + 1)) S0 = (sidePt fL (p.take j) S0).set (p.getD j 0).toNat ((fL.getD (p.getD j 0).toNat 0).tmod 2) := by
      unfold sidePt
      rw [List.take_add_one,List.getElem?_eq_getElem hj,List.foldl_append]
      have : p.getD j 0 = p[j] := by simp [hj]
      rw [this]; rfl
    obtain ⟨x,hx⟩ : ∃ x : Nat,p.getD j 0 = x := ⟨(p.getD j 0).toNat,by omega⟩
    rw [hx] at hxr hcx hstp
    rw [Int.toNat_natCast] at hstp
    have hcf := hf2.cell (show x < fL.length by omega)
    have hsto := st_ints (P := Tryz.prog) (t := 3) (x := (fL.getD x 0).tmod 2) cs3 hS2 (show x < (sidePt fL (p.take j) S0).length by omega)
    simp (maxSteps := 1000000) (disch := omega) only [k1,k3,k4,k7,k16,k17,k18,k27,k28,k29,hr2.ix Tryz.underlying27 cs3,hcx,Int.toNat_natCast,cell_of cS2,hf2.ix Tryz.underlying27 cs3,hcf,Nat.zero_add,hsto,wrap64,SS,eq_self,reduceIte,reduceCtorEq,Nat.reduceEqDiff,Nat.reduceAdd]
    rw [← hstp]
    have f1 : (H2.set A.length (.cells (ints (sidePt fL (p.take (j + 1)) S0)) 3 false))[A.length]? = some (.cells (ints (sidePt fL (p.take (j + 1)) S0)) 3 false) := at_set hS2
    have f2 : ∀ (j' : Nat) (y : AObj),j' ≠ A.length → G[j']? = some y → (H2.set A.length (.cells (ints (sidePt fL (p.take (j + 1)) S0)) 3 false))[j']? = some y := fun j' y hj' hy => by
      rw [List.getElem?_set_ne (fun e => hj' e.symm)]; exact hk2 j' y hj' hy
    have f3 : (H2.set A.length (.cells (ints (sidePt fL (p.take (j + 1)) S0)) 3 false)).length = G.length := by rw [List.length_set]; exact hl2
    refine ⟨m' - 1,by omega,j + 1,?_⟩
    (repeat' first | exact f1 | exact f2 | exact f3 | apply And.intro) <;> first | (simp only [Value.int.injEq,true_and]; omega) | omega | rfl | assumption | (simp; done) | (simp; omega)
  · have hj : j = p.length := by omega
    subst hj
    rw [List.take_of_length_le (Nat.le_refl _),← htk] at hS2
    have f2 : ∀ (j : Nat) (y : AObj),j ≠ A.length → F[j]? = some y → H2[j]? = some y := fun j y hj hy => hk2 j y hj (pre_at pG (hk j y hj hy))
    simp (maxSteps := 1000000) (disch := omega) only [k1,k3,k4,k7,k16,k17,k18,wrap64,SS,eq_self,reduceIte,reduceCtorEq,Nat.reduceEqDiff,Nat.reduceAdd]
    refine ⟨m - 1,by omega,i + 1,?_⟩
    (repeat' first | exact hS2 | exact f2 | apply And.intro) <;> first | (simp only [Value.int.injEq,true_and]; omega) | omega | rfl | assumption | (simp; done) | (simp; omega)
theorem EvenI_c (n : Int) (v : Value) (es : List (Int × Int)) (H : AH) (hr : RowP 53 H v es) (hlen : es.length ≤ 1099511627776) (hes : ∀ y ∈ es,I64 y.1 ∧ I64 y.2) (hn : I64 n) :
    ACalls Tryz.prog 60 [.agg (List.toArray [.int .i64 n,v])] H fun r H' => r = .tuple (List.toArray [.bool (decide (Grd n es) && evB n.toNat es),.bool (decide (Grd n es))]) ∧ H <+: H' := by
  refine in60 rfl ?_
  intro Q hQ
  simp (maxSteps := 1000000) (disch := omega) only [cd60,hr.boxG,SS,eq_self,reduceIte,reduceCtorEq,Nat.reduceEqDiff,Nat.reduceAdd]
  generalize hA : H ++ [AObj.cells [.int .i64 n,v] 26 false] = A
  have pA : H <+: A := by rw [← hA]; exact List.prefix_append _ _
  have cA : A[H.length]? = some (.cells [.int .i64 n,v] 26 false) := by rw [← hA]; exact at_new ..
  have rA := hr.pre pA
  simp (maxSteps := 1000000) (disch := omega) only [ld_agg ag26 cs26 cA,SS,eq_self,reduceIte,reduceCtorEq,Nat.reduceEqDiff,Nat.reduceAdd]
  refine CallH.by (IsGraph_c n v es A rA (by omega)) ?_
  rintro _ B ⟨rfl,pB⟩
  have cB := pre_at pB cA
  simp (maxSteps := 1000000) (disch := omega) only [SS,eq_self,reduceIte,reduceCtorEq,Nat.reduceEqDiff,Nat.reduceAdd]
  refine brD.intro (fun e => ?_) (fun e => ?_) <;> simp (maxSteps := 1000000) (disch := omega) only [e,ld_agg ag26 cs26 cB,SS,eq_self,reduceIte,reduceCtorEq,Nat.reduceEqDiff,Nat.reduceAdd]
  · obtain ⟨k,hk⟩ : ∃ k : Nat,n = k := ⟨n.toNat,by have := e.1; omega⟩
    subst hk
    refine CallH.by (isEven_c k v es B (rA.pre pB) hlen e) ?_
    rintro _ C ⟨rfl,pC⟩
    simp (maxSteps := 1000000) (disch := omega) only [e,SS,eq_self,reduceIte,reduceCtorEq,Nat.reduceEqDiff,Nat.reduceAdd]
    refine hQ _ _ _ ?_
    simp (maxSteps := 1000000) (disch := omega) only [e,SS,eq_self,reduceIte,reduceCtorEq,Nat.reduceEqDiff,Nat.reduceAdd]
    simp [e,pA.trans (pB.trans pC)]
  · refine hQ _ _ _ ?_
    simp (maxSteps := 1000000) (disch := omega) only [e,SS,eq_self,reduceIte,reduceCtorEq,Nat.reduceEqDiff,Nat.reduceAdd]
    simp [e,pA.trans pB]
def ords15 : List (Nat × List (Nat × Bool)) := [(6,[(0,false),(1,false),(2,false),(3,false),(4,false),(5,false),(6,false),(7,false),(8,false)])]
def cd15 : Cd := (.seq (.reg [⟨⟨some 4,Op.assign (Operand.const (Value.bool false)),none⟩,[]⟩]) (.seq (.seq (.reg [⟨⟨some 6,Op.move (Operand.tmp 0),none⟩,[]⟩,
  ⟨⟨some 7,Op.call { callee := (Callee.builtin Builtin.len),args := #[(Operand.tmp 6)],argTypes := #[27] },none⟩,[]⟩,
  ⟨⟨some 8,Op.move (Operand.tmp 1),none⟩,[]⟩,
  ⟨⟨some 9,Op.call { callee := (Callee.builtin Builtin.len),args := #[(Operand.tmp 8)],argTypes := #[27] },none⟩,[]⟩,
  ⟨⟨some 10,Op.binOp BinOp.neq 3 (Operand.tmp 7) (Operand.tmp 9) 3,none⟩,[]⟩]) (.cond (Operand.tmp 10) (.seq (.reg [⟨⟨some 4,Op.assign (Operand.const (Value.bool false)),none⟩,[]⟩]) .ret) .skip)) (.seq (.seq (.reg [⟨⟨some 5,Op.assign (Operand.const (Value.int IntKind.i64 0)),none⟩,[]⟩]) (.block 0 (.loop (.seq (.seq (.reg [⟨⟨some 11,Op.move (Operand.tmp 5),none⟩,[]⟩,
  ⟨⟨some 12,Op.move (Operand.tmp 0),none⟩,[]⟩,
  ⟨⟨some 13,Op.call { callee := (Callee.builtin Builtin.len),args := #[(Operand.tmp 12)],argTypes := #[27] },none⟩,[]⟩,
  ⟨⟨some 14,Op.binOp BinOp.lss 3 (Operand.tmp 11) (Operand.tmp 13) 3,none⟩,[]⟩]) (.cond (Operand.tmp 14) .skip (.exit 0))) (.seq (.block 1 (.seq (.reg [⟨⟨some 17,Op.move (Operand.tmp 0),none⟩,[]⟩,
  ⟨⟨some 18,Op.move (Operand.tmp 5),none⟩,[]⟩,
  ⟨⟨some 19,Op.indexAddr 27 (Operand.tmp 17) (Operand.tmp 18),none⟩,[]⟩,
  ⟨⟨some 20,Op.load 3 (Operand.tmp 19),none⟩,[]⟩,
  ⟨⟨some 21,Op.move (Operand.tmp 1),none⟩,[]⟩,
  ⟨⟨some 22,Op.move (Operand.tmp 5),none⟩,[]⟩,
  ⟨⟨some 23,Op.indexAddr 27 (Operand.tmp 21) (Operand.tmp 22),none⟩,[]⟩,
  ⟨⟨some 24,Op.load 3 (Operand.tmp 23),none⟩,[]⟩,
  ⟨⟨some 25,Op.binOp BinOp.neq 3 (Operand.tmp 20) (Operand.tmp 24) 3,none⟩,[]⟩]) (.cond (Operand.tmp 25) (.seq (.reg [⟨⟨some 4,Op.assign (Operand.const (Value.bool false)),none⟩,[]⟩]) .ret) .skip))) (.reg [⟨⟨some 15,Op.move (Operand.tmp 5),none⟩,[]⟩,
  ⟨⟨some 16,Op.binOp BinOp.add 3 (Operand.tmp 15) (Operand.const (Value.int IntKind.i64 1)) 3,none⟩,[]⟩,
  ⟨⟨some 5,Op.assign (Operand.tmp 16),none⟩,[]⟩])))))) (.seq (.reg [⟨⟨some 4,Op.assign (Operand.const (Value.bool true)),none⟩,[]⟩]) .ret))))
theorem sl15 : slim Tryz.f15.ntmps ords15 (Tryz.f15.body.getD .skip) = some cd15 := by kernel_rfl
theorem in15 {args : List Value} {H : AH} {R : Value → AH → Prop} (hl : args.length = 2) (h : ∀ (Q : Exit → Sl → AH → Prop),(∀ e s H,endA Tryz.prog [ResultVar.tmp 4] R e s H → Q e s H) → wpC Tryz.prog cd15 Q (enterA args) H) : ACalls Tryz.prog 15 args H R :=
  ACalls.intro (by kernel_rfl) Tryz.func15 rfl (by kernel_rfl) sl15 hl (of_decide_eq_true (by kernel_rfl)) (by kernel_rfl) h
end Go.Proofs.YtelafbennmclfaaGreat.Ai
namespace Go.Proofs.YtelafbennmclfaaGreat.Ai
open Go Go.RowKit
theorem vInts_c (v w : Value) (xs : List Int) (H : AH) (hr : Row 3 H v xs) (hs : Row 3 H w xs) (hl : xs.length ≤ 1000000) : ACalls Tryz.prog 15 [v,w] H fun r H' => r = .bool true ∧ H = H' := by
  refine in15 rfl ?_
  intro Q hQ
  have e0 : ¬ ¬ ((xs.length : Nat) : Int) = ((xs.length : Nat) : Int) := fun h => h rfl
  simp (maxSteps := 1000000) (disch := omega) only [cd15,hr.len Tryz.underlying27,hs.len Tryz.underlying27,decide_eq_false e0,SS,eq_self,reduceIte,reduceCtorEq,Nat.reduceEqDiff,Nat.reduceAdd]
  refine LoopH.by (fun m s H' => ∃ (i : Nat),m + i = xs.length ∧ s 0 = v ∧ s 1 = w ∧ s 5 = .int .i64 ((i : Nat) : Int) ∧ H = H') xs.length ?_ ?_
  · exact ⟨0,by simp,rfl,rfl,rfl,rfl⟩
  rintro m s H' ⟨i,hm,h0,h1,h5,rfl⟩
  simp (maxSteps := 1000000) (disch := omega) only [h0,h1,h5,hr.len Tryz.underlying27,SS,eq_self,reduceIte,reduceCtorEq,Nat.reduceEqDiff,Nat.reduceAdd]
  refine brD.intro (fun g => ?_) (fun g => ?_)
  · have hi : i < xs.length := by omega
    have c1 := hr.cell hi
    have c2 := hs.cell hi
    have e1 : ¬ ¬ xs.getD i 0 = xs.getD i 0 := fun h => h rfl
    simp (maxSteps := 1000000) (disch := omega) only [h0,h1,h5,hr.ix Tryz.underlying27 cs3,hs.ix Tryz.underlying27 cs3,Int.toNat_natCast,c1,c2,decide_eq_false e1,wrap64,SS,eq_self,reduceIte,reduceCtorEq,Nat.reduceEqDiff,Nat.reduceAdd]
    refine ⟨m - 1,by omega,i + 1,?_⟩
    (repeat' first | exact rfl | apply And.intro) <;> first | (simp only [Value.int.injEq,true_and]; omega) | omega | rfl | assumption | (simp; done) | (simp; omega)
  · simp (maxSteps := 1000000) (disch := omega) only [SS,eq_self,reduceIte,reduceCtorEq,Nat.reduceEqDiff,Nat.reduceAdd]
    refine hQ _ _ _ ?_
    simp (maxSteps := 1000000) (disch := omega) only [SS,eq_self,reduceIte,reduceCtorEq,Nat.reduceEqDiff,Nat.reduceAdd]
def ords16 : List (Nat × List (Nat × Bool)) := []
def cd16 : Cd := (.seq (.reg [⟨⟨some 1,Op.box 26 (Operand.tmp 0),none⟩,[]⟩,
  ⟨⟨some 2,Op.assign (Operand.const (Value.bool false)),none⟩,[]⟩]) (.seq (.reg [⟨⟨some 6,Op.load 26 (Operand.tmp 1),none⟩,[]⟩,
  ⟨⟨some 7,Op.call { callee := (Callee.value (Operand.func 60)),args := #[(Operand.tmp 6)],argTypes := #[26] },none⟩,[]⟩,
  ⟨⟨some 5,Op.move (Operand.tmp 7),none⟩,[]⟩,
  ⟨⟨some 8,Op.extract (Operand.tmp 5) 0,none⟩,[]⟩,
  ⟨⟨some 9,Op.extract (Operand.tmp 5) 1,none⟩,[]⟩,
  ⟨⟨some 3,Op.assign (Operand.tmp 8),none⟩,[]⟩,
  ⟨⟨some 4,Op.assign (Operand.tmp 9),none⟩,[]⟩]) (.seq (.reg [⟨⟨some 10,Op.move (Operand.tmp 4),none⟩,[]⟩,
  ⟨⟨some 11,Op.move (Operand.tmp 10),none⟩,[]⟩,
  ⟨⟨some 12,Op.move (Operand.tmp 3),some (11,true)⟩,[]⟩,
  ⟨⟨some 13,Op.pick (Operand.tmp 11) (Operand.tmp 12) (Operand.const (Value.bool false)),none⟩,[]⟩,
  ⟨⟨some 2,Op.assign (Operand.tmp 13),none⟩,[]⟩]) .ret)))
theorem sl16 : slim Tryz.f16.ntmps ords16 (Tryz.f16.body.getD .skip) = some cd16 := by kernel_rfl
theorem in16 {args : List Value} {H : AH} {R : Value → AH → Prop} (hl : args.length = 1) (h : ∀ (Q : Exit → Sl → AH → Prop),(∀ e s H,endA Tryz.prog [ResultVar.tmp 2] R e s H → Q e s H) → wpC Tryz.prog cd16 Q (enterA args) H) : ACalls Tryz.prog 16 args H R :=
  ACalls.intro (by kernel_rfl) Tryz.func16 rfl (by kernel_rfl) sl16 hl (of_decide_eq_true (by kernel_rfl)) (by kernel_rfl) h
def ords3 : List (Nat × List (Nat × Bool)) := []
def cd3 : Cd := (.seq (.reg [⟨⟨some 2,Op.assign (Operand.const (Value.bool false)),none⟩,[]⟩]) (.seq (.seq (.reg [⟨⟨some 27,Op.move (Operand.tmp 0),none⟩,[]⟩,
  ⟨⟨some 28,Op.call { callee := (Callee.value (Operand.func 5)),args := #[(Operand.tmp 27)],argTypes := #[22] },none⟩,[]⟩]) (.cond (Operand.tmp 28) (.seq (.reg [⟨⟨some 2,Op.assign (Operand.const (Value.bool true)),none⟩,[]⟩]) .ret) .skip)) (.seq (.reg [⟨⟨some 30,Op.move (Operand.tmp 0),none⟩,[]⟩,
  ⟨⟨some 31,Op.call { callee := (Callee.value (Operand.func 6)),args := #[(Operand.tmp 30)],argTypes := #[22] },none⟩,[]⟩,
  ⟨⟨some 29,Op.move (Operand.tmp 31),none⟩,[]⟩,
  ⟨⟨some 32,Op.extract (Operand.tmp 29) 0,none⟩,[]⟩,
  ⟨⟨some 33,Op.extract (Operand.tmp 29) 1,none⟩,[]⟩,
  ⟨⟨some 34,Op.extract (Operand.tmp 29) 2,none⟩,[]⟩,
  ⟨⟨some 3,Op.alloc 26,none⟩,[]⟩,
  ⟨⟨none,Op.store 26 (Operand.tmp 3) (Operand.tmp 32),none⟩,[]⟩,
  ⟨⟨some 4,Op.assign (Operand.tmp 33),none⟩,[]⟩,
  ⟨⟨some 5,Op.assign (Operand.tmp 34),none⟩,[]⟩]) (.seq (.reg [⟨⟨some 36,Op.load 26 (Operand.tmp 3),none⟩,[]⟩,
  ⟨⟨some 37,Op.move (Operand.tmp 4),none⟩,[]⟩,
  ⟨⟨some 38,Op.move (Operand.tmp 5),none⟩,[]⟩,
  ⟨⟨some 39,Op.call { callee := (Callee.value (Operand.func 7)),args := #[(Operand.tmp 36),(Operand.tmp 37),(Operand.tmp 38)],argTypes := #[26,27,27] },none⟩,[]⟩,
  ⟨⟨some 35,Op.move (Operand.tmp 39),none⟩,[]⟩,
  ⟨⟨some 40,Op.extract (Operand.tmp 35) 0,none⟩,[]⟩,
  ⟨⟨some 41,Op.extract (Operand.tmp 35) 1,none⟩,[]⟩,
  ⟨⟨some 6,Op.assign (Operand.tmp 40),none⟩,[]⟩,
  ⟨⟨some 7,Op.assign (Operand.tmp 41),none⟩,[]⟩]) (.seq (.reg [⟨⟨some 43,Op.load 26 (Operand.tmp 3),none⟩,[]⟩,
  ⟨⟨some 44,Op.move (Operand.tmp 4),none⟩,[]⟩,
  ⟨⟨some 45,Op.move (Operand.tmp 5),none⟩,[]⟩,
  ⟨⟨some 46,Op.call { callee := (Callee.value (Operand.func 8)),args := #[(Operand.tmp 43),(Operand.tmp 44),(Operand.tmp 45)],argTypes := #[26,27,27] },none⟩,[]⟩,
  ⟨⟨some 42,Op.move (Operand.tmp 46),none⟩,[]⟩,
  ⟨⟨some 47,Op.extract (Operand.tmp 42) 0,none⟩,[]⟩,
  ⟨⟨some 48,Op.extract (Operand.tmp 42) 1,none⟩,[]⟩,
  ⟨⟨some 8,Op.assign (Operand.tmp 47),none⟩,[]⟩,
  ⟨⟨some 9,Op.assign (Operand.tmp 48),none⟩,[]⟩]) (.seq (.reg [⟨⟨some 50,Op.load 26 (Operand.tmp 3),none⟩,[]⟩,
  ⟨⟨some 51,Op.move (Operand.tmp 4),none⟩,[]⟩,
  ⟨⟨some 52,Op.move (Operand.tmp 5),none⟩,[]⟩,
  ⟨⟨some 53,Op.call { callee := (Callee.value (Operand.func 9)),args := #[(Operand.tmp 50),(Operand.tmp 51),(Operand.tmp 52)],argTypes := #[26,27,27] },none⟩,[]⟩,
  ⟨⟨some 49,Op.move (Operand.tmp 53),none⟩,[]⟩,
  ⟨⟨some 54,Op.extract (Operand.tmp 49) 0,none⟩,[]⟩,
  ⟨⟨some 55,Op.extract (Operand.tmp 49) 1,none⟩,[]⟩,
  ⟨⟨some 10,Op.assign (Operand.tmp 54),none⟩,[]⟩,
  ⟨⟨some 11,Op.assign (Operand.tmp 55),none⟩,[]⟩]) (.seq (.reg [⟨⟨some 57,Op.load 26 (Operand.tmp 3),none⟩,[]⟩,
  ⟨⟨some 58,Op.move (Operand.tmp 4),none⟩,[]⟩,
  ⟨⟨some 59,Op.move (Operand.tmp 5),none⟩,[]⟩,
  ⟨⟨some 60,Op.call { callee := (Callee.value (Operand.func 10)),args := #[(Operand.tmp 57),(Operand.tmp 58),(Operand.tmp 59)],argTypes := #[26,27,27] },none⟩,[]⟩,
  ⟨⟨some 56,Op.move (Operand.tmp 60),none⟩,[]⟩,
  ⟨⟨some 61,Op.extract (Operand.tmp 56) 0,none⟩,[]⟩,
  ⟨⟨some 62,Op.extract (Operand.tmp 56) 1,none⟩,[]⟩,
  ⟨⟨some 12,Op.assign (Operand.tmp 61),none⟩,[]⟩,
  ⟨⟨some 13,Op.assign (Operand.tmp 62),none⟩,[]⟩]) (.seq (.reg [⟨⟨some 64,Op.move (Operand.tmp 0),none⟩,[]⟩,
  ⟨⟨some 65,Op.call { callee := (Callee.value (Operand.func 12)),args := #[(Operand.tmp 64),(Operand.const (Value.int IntKind.i64 1))],argTypes := #[22,3] },none⟩,[]⟩,
  ⟨⟨some 66,Op.call { callee := (Callee.value (Operand.func 11)),args := #[(Operand.tmp 65)],argTypes := #[22] },none⟩,[]⟩,
  ⟨⟨some 63,Op.move (Operand.tmp 66),none⟩,[]⟩,
  ⟨⟨some 67,Op.extract (Operand.tmp 63) 0,none⟩,[]⟩,
  ⟨⟨some 68,Op.extract (Operand.tmp 63) 1,none⟩,[]⟩,
  ⟨⟨some 69,Op.extract (Operand.tmp 63) 2,none⟩,[]⟩,
  ⟨⟨some 14,Op.alloc 26,none⟩,[]⟩,
  ⟨⟨none,Op.store 26 (Operand.tmp 14) (Operand.tmp 67),none⟩,[]⟩,
  ⟨⟨some 15,Op.assign (Operand.tmp 68),none⟩,[]⟩,
  ⟨⟨some 16,Op.assign (Operand.tmp 69),none⟩,[]⟩]) (.seq (.reg [⟨⟨some 71,Op.load 26 (Operand.tmp 14),none⟩,[]⟩,
  ⟨⟨some 72,Op.move (Operand.tmp 15),none⟩,[]⟩,
  ⟨⟨some 73,Op.move (Operand.tmp 16),none⟩,[]⟩,
  ⟨⟨some 74,Op.call { callee := (Callee.value (Operand.func 13)),args := #[(Operand.tmp 71),(Operand.tmp 72),(Operand.tmp 73)],argTypes := #[26,27,27] },none⟩,[]⟩,
  ⟨⟨some 70,Op.move (Operand.tmp 74),none⟩,[]⟩,
  ⟨⟨some 75,Op.extract (Operand.tmp 70) 0,none⟩,[]⟩,
  ⟨⟨some 76,Op.extract (Operand.tmp 70) 1,none⟩,[]⟩,
  ⟨⟨some 17,Op.assign (Operand.tmp 75),none⟩,[]⟩,
  ⟨⟨some 18,Op.assign (Operand.tmp 76),none⟩,[]⟩]) (.seq (.reg [⟨⟨some 78,Op.load 26 (Operand.tmp 14),none⟩,[]⟩,
  ⟨⟨some 79,Op.move (Operand.tmp 15),none⟩,[]⟩,
  ⟨⟨some 80,Op.move (Operand.tmp 16),none⟩,[]⟩,
  ⟨⟨some 81,Op.call { callee := (Callee.value (Operand.func 14)),args := #[(Operand.tmp 78),(Operand.tmp 79),(Operand.tmp 80)],argTypes := #[26,27,27] },none⟩,[]⟩,
  ⟨⟨some 77,Op.move (Operand.tmp 81),none⟩,[]⟩,
  ⟨⟨some 82,Op.extract (Operand.tmp 77) 0,none⟩,[]⟩,
  ⟨⟨some 83,Op.extract (Operand.tmp 77) 1,none⟩,[]⟩,
  ⟨⟨some 19,Op.assign (Operand.tmp 82),none⟩,[]⟩,
  ⟨⟨some 20,Op.assign (Operand.tmp 83),none⟩,[]⟩]) (.seq (.seq (.reg [⟨⟨some 84,Op.move (Operand.tmp 7),none⟩,[]⟩,
  ⟨⟨some 85,Op.move (Operand.tmp 9),none⟩,[]⟩,
  ⟨⟨some 86,Op.binOp BinOp.neq 4 (Operand.tmp 84) (Operand.tmp 85) 4,none⟩,[]⟩,
  ⟨⟨some 87,Op.move (Operand.tmp 86),none⟩,[]⟩,
  ⟨⟨some 88,Op.move (Operand.tmp 6),some (87,false)⟩,[]⟩,
  ⟨⟨some 89,Op.move (Operand.tmp 8),some (87,false)⟩,[]⟩,
  ⟨⟨some 90,Op.call { callee := (Callee.value (Operand.func 15)),args := #[(Operand.tmp 88),(Operand.tmp 89)],argTypes := #[27,27] },some (87,false)⟩,[]⟩,
  ⟨⟨some 91,Op.unOp UnOp.not 4 (Operand.tmp 90),some (87,false)⟩,[]⟩,
  ⟨⟨some 92,Op.pick (Operand.tmp 87) (Operand.const (Value.bool true)) (Operand.tmp 91),none⟩,[]⟩,
  ⟨⟨some 93,Op.move (Operand.tmp 92),none⟩,[]⟩,
  ⟨⟨some 94,Op.move (Operand.tmp 10),some (93,false)⟩,[]⟩,
  ⟨⟨some 95,Op.move (Operand.tmp 12),some (93,false)⟩,[]⟩,
  ⟨⟨some 96,Op.binOp BinOp.neq 3 (Operand.tmp 94) (Operand.tmp 95) 3,some (93,false)⟩,[]⟩,
  ⟨⟨some 97,Op.pick (Operand.tmp 93) (Operand.const (Value.bool true)) (Operand.tmp 96),none⟩,[]⟩,
  ⟨⟨some 98,Op.move (Operand.tmp 97),none⟩,[]⟩,
  ⟨⟨some 99,Op.move (Operand.tmp 11),some (98,false)⟩,[]⟩,
  ⟨⟨some 100,Op.move (Operand.tmp 13),some (98,false)⟩,[]⟩,
  ⟨⟨some 101,Op.binOp BinOp.neq 4 (Operand.tmp 99) (Operand.tmp 100) 4,some (98,false)⟩,[]⟩,
  ⟨⟨some 102,Op.pick (Operand.tmp 98) (Operand.const (Value.bool true)) (Operand.tmp 101),none⟩,[]⟩,
  ⟨⟨some 103,Op.move (Operand.tmp 102),none⟩,[]⟩,
  ⟨⟨some 104,Op.move (Operand.tmp 7),some (103,false)⟩,[]⟩,
  ⟨⟨some 105,Op.move (Operand.tmp 11),some (103,false)⟩,[]⟩,
  ⟨⟨some 106,Op.binOp BinOp.neq 4 (Operand.tmp 104) (Operand.tmp 105) 4,some (103,false)⟩,[]⟩,
  ⟨⟨some 107,Op.pick (Operand.tmp 103) (Operand.const (Value.bool true)) (Operand.tmp 106),none⟩,[]⟩,
  ⟨⟨some 108,Op.move (Operand.tmp 107),none⟩,[]⟩,
  ⟨⟨some 109,Op.move (Operand.tmp 18),some (108,false)⟩,[]⟩,
  ⟨⟨some 110,Op.move (Operand.tmp 20),some (108,false)⟩,[]⟩,
  ⟨⟨some 111,Op.binOp BinOp.neq 4 (Operand.tmp 109) (Operand.tmp 110) 4,some (108,false)⟩,[]⟩,
  ⟨⟨some 112,Op.pick (Operand.tmp 108) (Operand.const (Value.bool true)) (Operand.tmp 111),none⟩,[]⟩,
  ⟨⟨some 113,Op.move (Operand.tmp 112),none⟩,[]⟩,
  ⟨⟨some 114,Op.move (Operand.tmp 17),some (113,false)⟩,[]⟩,
  ⟨⟨some 115,Op.move (Operand.tmp 19),some (113,false)⟩,[]⟩,
  ⟨⟨some 116,Op.call { callee := (Callee.value (Operand.func 15)),args := #[(Operand.tmp 114),(Operand.tmp 115)],argTypes := #[27,27] },some (113,false)⟩,[]⟩,
  ⟨⟨some 117,Op.unOp UnOp.not 4 (Operand.tmp 116),some (113,false)⟩,[]⟩,
  ⟨⟨some 118,Op.pick (Operand.tmp 113) (Operand.const (Value.bool true)) (Operand.tmp 117),none⟩,[]⟩]) (.cond (Operand.tmp 118) (.seq (.reg [⟨⟨some 2,Op.assign (Operand.const (Value.bool false)),none⟩,[]⟩]) .ret) .skip)) (.seq (.seq (.reg [⟨⟨some 119,Op.move (Operand.tmp 18),none⟩,[]⟩]) (.cond (Operand.tmp 119) (.seq (.reg [⟨⟨some 121,Op.load 26 (Operand.tmp 14),none⟩,[]⟩,
  ⟨⟨some 122,Op.move (Operand.tmp 17),none⟩,[]⟩,
  ⟨⟨some 123,Op.move (Operand.tmp 15),none⟩,[]⟩,
  ⟨⟨some 124,Op.call { callee := (Callee.value (Operand.func 9)),args := #[(Operand.tmp 121),(Operand.tmp 122),(Operand.tmp 123)],argTypes := #[26,27,27] },none⟩,[]⟩,
  ⟨⟨some 120,Op.move (Operand.tmp 124),none⟩,[]⟩,
  ⟨⟨some 125,Op.extract (Operand.tmp 120) 0,none⟩,[]⟩,
  ⟨⟨some 126,Op.extract (Operand.tmp 120) 1,none⟩,[]⟩,
  ⟨⟨some 21,Op.assign (Operand.tmp 125),none⟩,[]⟩,
  ⟨⟨some 22,Op.assign (Operand.tmp 126),none⟩,[]⟩]) (.seq (.reg [⟨⟨some 127,Op.move (Operand.tmp 22),none⟩,[]⟩,
  ⟨⟨some 128,Op.unOp UnOp.not 4 (Operand.tmp 127),none⟩,[]⟩,
  ⟨⟨some 129,Op.move (Operand.tmp 128),none⟩,[]⟩,
  ⟨⟨some 130,Op.move (Operand.tmp 21),some (129,false)⟩,[]⟩,
  ⟨⟨some 131,Op.move (Operand.tmp 16),some (129,false)⟩,[]⟩,
  ⟨⟨some 132,Op.call { callee := (Callee.builtin Builtin.len),args := #[(Operand.tmp 131)],argTypes := #[27] },some (129,false)⟩,[]⟩,
  ⟨⟨some 133,Op.binOp BinOp.gtr 3 (Operand.tmp 130) (Operand.tmp 132) 3,some (129,false)⟩,[]⟩,
  ⟨⟨some 134,Op.pick (Operand.tmp 129) (Operand.const (Value.bool true)) (Operand.tmp 133),none⟩,[]⟩,
  ⟨⟨some 135,Op.move (Operand.tmp 134),none⟩,[]⟩,
  ⟨⟨some 136,Op.move (Operand.tmp 21),some (135,false)⟩,[]⟩,
  ⟨⟨some 137,Op.move (Operand.tmp 16),some (135,false)⟩,[]⟩,
  ⟨⟨some 138,Op.call { callee := (Callee.builtin Builtin.len),args := #[(Operand.tmp 137)],argTypes := #[27] },some (135,false)⟩,[]⟩,
  ⟨⟨some 139,Op.binOp BinOp.add 3 (Operand.tmp 136) (Operand.tmp 138) 3,some (135,false)⟩,[]⟩,
  ⟨⟨some 140,Op.binOp BinOp.rem 3 (Operand.tmp 139) (Operand.const (Value.int IntKind.i64 2)) 3,some (135,false)⟩,[]⟩,
  ⟨⟨some 141,Op.binOp BinOp.neq 3 (Operand.tmp 140) (Operand.const (Value.int IntKind.i64 0)) 3,some (135,false)⟩,[]⟩,
  ⟨⟨some 142,Op.move (Operand.tmp 141),some (135,false)⟩,[]⟩,
  ⟨⟨some 143,Op.load 26 (Operand.tmp 14),some (142,true)⟩,[]⟩,
  ⟨⟨some 144,Op.call { callee := (Callee.value (Operand.func 16)),args := #[(Operand.tmp 143)],argTypes := #[26] },some (142,true)⟩,[]⟩,
  ⟨⟨some 145,Op.pick (Operand.tmp 142) (Operand.tmp 144) (Operand.const (Value.bool false)),some (135,false)⟩,[]⟩,
  ⟨⟨some 146,Op.pick (Operand.tmp 135) (Operand.const (Value.bool true)) (Operand.tmp 145),none⟩,[]⟩]) (.cond (Operand.tmp 146) (.seq (.reg [⟨⟨some 2,Op.assign (Operand.const (Value.bool false)),none⟩,[]⟩]) .ret) .skip))) .skip)) (.seq (.seq (.reg [⟨⟨some 147,Op.move (Operand.tmp 7),none⟩,[]⟩,
  ⟨⟨some 148,Op.unOp UnOp.not 4 (Operand.tmp 147),none⟩,[]⟩]) (.cond (Operand.tmp 148) (.seq (.reg [⟨⟨some 2,Op.assign (Operand.const (Value.bool true)),none⟩,[]⟩]) .ret) .skip)) (.seq (.reg [⟨⟨some 150,Op.load 26 (Operand.tmp 3),none⟩,[]⟩,
  ⟨⟨some 151,Op.move (Operand.tmp 4),none⟩,[]⟩,
  ⟨⟨some 152,Op.move (Operand.tmp 6),none⟩,[]⟩,
  ⟨⟨some 153,Op.call { callee := (Callee.value (Operand.func 13)),args := #[(Operand.tmp 150),(Operand.tmp 151),(Operand.tmp 152)],argTypes := #[26,27,27] },none⟩,[]⟩,
  ⟨⟨some 149,Op.move (Operand.tmp 153),none⟩,[]⟩,
  ⟨⟨some 154,Op.extract (Operand.tmp 149) 0,none⟩,[]⟩,
  ⟨⟨some 155,Op.extract (Operand.tmp 149) 1,none⟩,[]⟩,
  ⟨⟨some 23,Op.assign (Operand.tmp 154),none⟩,[]⟩,
  ⟨⟨some 24,Op.assign (Operand.tmp 155),none⟩,[]⟩]) (.seq (.reg [⟨⟨some 157,Op.load 26 (Operand.tmp 3),none⟩,[]⟩,
  ⟨⟨some 158,Op.move (Operand.tmp 5),none⟩,[]⟩,
  ⟨⟨some 159,Op.move (Operand.tmp 4),none⟩,[]⟩,
  ⟨⟨some 160,Op.call { callee := (Callee.value (Operand.func 9)),args := #[(Operand.tmp 157),(Operand.tmp 158),(Operand.tmp 159)],argTypes := #[26,27,27] },none⟩,[]⟩,
  ⟨⟨some 156,Op.move (Operand.tmp 160),none⟩,[]⟩,
  ⟨⟨some 161,Op.extract (Operand.tmp 156) 0,none⟩,[]⟩,
  ⟨⟨some 162,Op.extract (Operand.tmp 156) 1,none⟩,[]⟩,
  ⟨⟨some 25,Op.assign (Operand.tmp 161),none⟩,[]⟩,
  ⟨⟨some 26,Op.assign (Operand.tmp 162),none⟩,[]⟩]) (.seq (.reg [⟨⟨some 163,Op.move (Operand.tmp 24),none⟩,[]⟩,
  ⟨⟨some 164,Op.move (Operand.tmp 163),none⟩,[]⟩,
  ⟨⟨some 165,Op.move (Operand.tmp 26),some (164,true)⟩,[]⟩,
  ⟨⟨some 166,Op.pick (Operand.tmp 164) (Operand.tmp 165) (Operand.const (Value.bool false)),none⟩,[]⟩,
  ⟨⟨some 167,Op.move (Operand.tmp 166),none⟩,[]⟩,
  ⟨⟨some 168,Op.move (Operand.tmp 23),some (167,true)⟩,[]⟩,
  ⟨⟨some 169,Op.move (Operand.tmp 5),some (167,true)⟩,[]⟩,
  ⟨⟨some 170,Op.call { callee := (Callee.value (Operand.func 15)),args := #[(Operand.tmp 168),(Operand.tmp 169)],argTypes := #[27,27] },some (167,true)⟩,[]⟩,
  ⟨⟨some 171,Op.pick (Operand.tmp 167) (Operand.tmp 170) (Operand.const (Value.bool false)),none⟩,[]⟩,
  ⟨⟨some 172,Op.move (Operand.tmp 171),none⟩,[]⟩,
  ⟨⟨some 173,Op.move (Operand.tmp 6),some (172,true)⟩,[]⟩,
  ⟨⟨some 174,Op.call { callee := (Callee.builtin Builtin.len),args := #[(Operand.tmp 173)],argTypes := #[27] },some (172,true)⟩,[]⟩,
  ⟨⟨some 175,Op.move (Operand.tmp 10),some (172,true)⟩,[]⟩,
  ⟨⟨some 176,Op.binOp BinOp.eql 3 (Operand.tmp 174) (Operand.tmp 175) 3,some (172,true)⟩,[]⟩,
  ⟨⟨some 177,Op.pick (Operand.tmp 172) (Operand.tmp 176) (Operand.const (Value.bool false)),none⟩,[]⟩,
  ⟨⟨some 178,Op.move (Operand.tmp 177),none⟩,[]⟩,
  ⟨⟨some 179,Op.move (Operand.tmp 25),some (178,true)⟩,[]⟩,
  ⟨⟨some 180,Op.move (Operand.tmp 10),some (178,true)⟩,[]⟩,
  ⟨⟨some 181,Op.binOp BinOp.eql 3 (Operand.tmp 179) (Operand.tmp 180) 3,some (178,true)⟩,[]⟩,
  ⟨⟨some 182,Op.pick (Operand.tmp 178) (Operand.tmp 181) (Operand.const (Value.bool false)),none⟩,[]⟩,
  ⟨⟨some 2,Op.assign (Operand.tmp 182),none⟩,[]⟩]) .ret))))))))))))))))
theorem sl3 : slim Tryz.f3.ntmps ords3 (Tryz.f3.body.getD .skip) = some cd3 := by kernel_rfl
theorem in3 {args : List Value} {H : AH} {R : Value → AH → Prop} (hl : args.length = 1) (h : ∀ (Q : Exit → Sl → AH → Prop),(∀ e s H,endA Tryz.prog [ResultVar.tmp 2] R e s H → Q e s H) → wpC Tryz.prog cd3 Q (enterA args) H) : ACalls Tryz.prog 3 args H R :=
  ACalls.intro (by kernel_rfl) Tryz.func3 rfl (by kernel_rfl) sl3 hl (of_decide_eq_true (by kernel_rfl)) (by kernel_rfl) h
end Go.Proofs.YtelafbennmclfaaGreat.Ai
namespace Go.Proofs.YtelafbennmclfaaGreat.Ai
open Go Go.RowKit
theorem slP_i64 {n : Int} {es : List (Int × Int)} (hs : ∀ y ∈ es,I64 y.1 ∧ I64 y.2) (a b : List Int) : ∀ y ∈ slP n es a b,I64 y := by
  intro y hy
  unfold slP at hy
  split at hy
  · obtain ⟨t,ht,rfl⟩ := List.mem_map.1 hy
    have := hs _ (pthL_es _ es true _ _ t ht)
    unfold othB
    split
    · exact this.2
    · exact this.1
  · simp at hy
theorem slP_le (n : Int) (es : List (Int × Int)) (a b : List Int) : (slP n es a b).length ≤ 1000 := by
  have hl := slP_len n es a b
  cases hd : slD n es a b with
  | none => rw [hd] at hl; simp at hl; rw [hl]; simp
  | some d =>
    rw [hd] at hl
    have := slD_rng hd
    simp at hl
    omega
theorem slideR_lok {n : Int} {es : List (Int × Int)} {p xs : List Int} : LsOk (slideR n es p xs) := by
  by_cases hB : Brd n es p
  · obtain ⟨k,rfl,hg,hb,h1,h6⟩ := brd_bdS hB
    cases hc : slideF es p xs with
    | none =>
      have : slideR (k : Int) es p xs = [] := by unfold slideR; rw [if_pos hB,hc]; rfl
      rw [this]
      exact ⟨by simp,fun y hy => by simp at hy⟩
    | some c =>
      have hR : slideR (k : Int) es p xs = c := by unfold slideR; rw [if_pos hB,hc]; rfl
      have hw := slideF_wlk hg h1 xs p c hb hc
      rw [hR]
      exact bd_lok h6 (hw.bd hg hb)
  · have : slideR n es p xs = [] := by unfold slideR; rw [if_neg hB]
    rw [this]
    exact ⟨by simp,fun y hy => by simp at hy⟩
theorem sml_i64 {es : List (Int × Int)} (h : Sml es) : ∀ y ∈ es,I64 y.1 ∧ I64 y.2 := fun y hy => by
  have := h y hy
  unfold I64
  omega
set_option maxHeartbeats 1000000 in
theorem vEven_c (n : Int) (v : Value) (es : List (Int × Int)) (H : AH) (hr : RowP 53 H v es) (hlen : es.length ≤ 1099511627776) (hes : ∀ y ∈ es,I64 y.1 ∧ I64 y.2) (hn : I64 n) :
    ACalls Tryz.prog 16 [.agg (List.toArray [.int .i64 n,v])] H fun r H' => r = .bool (decide (Grd n es) && evB n.toNat es) ∧ H <+: H' := by
  refine in16 rfl ?_
  intro Q hQ
  simp (maxSteps := 1000000) (disch := omega) only [cd16,hr.boxG,SS,eq_self,reduceIte,reduceCtorEq,Nat.reduceEqDiff,Nat.reduceAdd]
  generalize hA : H ++ [AObj.cells [.int .i64 n,v] 26 false] = A
  have pA : H <+: A := by rw [← hA]; exact List.prefix_append _ _
  have cA : A[H.length]? = some (.cells [.int .i64 n,v] 26 false) := by rw [← hA]; exact at_new ..
  have rA := hr.pre pA
  simp (maxSteps := 1000000) (disch := omega) only [ld_agg ag26 cs26 cA,SS,eq_self,reduceIte,reduceCtorEq,Nat.reduceEqDiff,Nat.reduceAdd]
  refine CallH.by (EvenI_c n v es A rA hlen hes hn) ?_
  rintro _ B ⟨rfl,pB⟩
  by_cases hg : Grd n es
  · simp (maxSteps := 1000000) (disch := omega) only [decide_eq_true hg,SS,eq_self,reduceIte,reduceCtorEq,Nat.reduceEqDiff,Nat.reduceAdd]
    refine hQ _ _ _ ?_
    simp (maxSteps := 1000000) (disch := omega) only [decide_eq_true hg,Bool.true_and,SS,eq_self,reduceIte,reduceCtorEq,Nat.reduceEqDiff,Nat.reduceAdd]
    first | exact pA.trans pB | exact ⟨by simp,pA.trans pB⟩
  · simp (maxSteps := 1000000) (disch := omega) only [decide_eq_false hg,SS,eq_self,reduceIte,reduceCtorEq,Nat.reduceEqDiff,Nat.reduceAdd]
    refine hQ _ _ _ ?_
    simp (maxSteps := 1000000) (disch := omega) only [decide_eq_false hg,SS,eq_self,reduceIte,reduceCtorEq,Nat.reduceEqDiff,Nat.reduceAdd]
    first | exact pA.trans pB | exact ⟨by simp,pA.trans pB⟩
structure LwS (gp : Nat) (n : Int) (w a b : Value) (es : List (Int × Int)) (p q : List Int) (K : AH) : Prop where
  cg : K[gp]? = some (.cells [.int .i64 n,w] 26 false)
  hw : RowP 53 K w es
  ha : Row 3 K a p
  hb : Row 3 K b q
theorem LwS.pre {gp : Nat} {n : Int} {w a b : Value} {es : List (Int × Int)} {p q : List Int} {K L : AH} (h : LwS gp n w a b es p q K) (hp : K <+: L) : LwS gp n w a b es p q L :=
  ⟨pre_at hp h.cg,h.hw.pre hp,h.ha.pre hp,h.hb.pre hp⟩
set_option maxRecDepth 20000 in
set_option maxHeartbeats 16000000 in
theorem slwLaw_c (va : Value) (us : List Value) (H : AH) (hr : RowV 5 H va us) (hb : ∀ i,i < us.length → ∃ b : Nat,us.getD i undef = .int .u8 (b : Int) ∧ b < 256) (hl : (us.length : Int) ≤ 9223372036854775807) :
    ACalls Tryz.prog 3 [va] H fun r H' => r = .bool true := by
  refine in3 rfl ?_
  intro Q hQ
  rw [cd3]
  refine cutC (fun s H' => s 0 = va ∧ H = H') (fun c hc => ?_) ?_
  · simp (maxSteps := 1000000) (disch := omega) only [SS,eq_self,reduceIte,reduceCtorEq,Nat.reduceEqDiff,Nat.reduceAdd]
    exact hc _ _ ⟨rfl,rfl⟩
  rintro s _ ⟨h0,rfl⟩
  refine cutC (fun s H' => s 0 = va ∧ Byt H' va us ∧ us.length ≤ 1000000) (fun c hc => ?_) ?_
  · simp (maxSteps := 1000000) (disch := omega) only [h0,SS,eq_self,reduceIte,reduceCtorEq,Nat.reduceEqDiff,Nat.reduceAdd]
    refine CallH.by (vBig_c hr hl) ?_
    rintro _ _ ⟨rfl,rfl⟩
    simp (maxSteps := 1000000) (disch := omega) only [SS,eq_self,reduceIte,reduceCtorEq,Nat.reduceEqDiff,Nat.reduceAdd]
    refine brD.intro (fun g => ?_) (fun g => ?_)
    · simp (maxSteps := 1000000) (disch := omega) only [SS,eq_self,reduceIte,reduceCtorEq,Nat.reduceEqDiff,Nat.reduceAdd]
      refine hQ _ _ _ ?_
      simp (maxSteps := 1000000) (disch := omega) only [SS,eq_self,reduceIte,reduceCtorEq,Nat.reduceEqDiff,Nat.reduceAdd]
    · simp (maxSteps := 1000000) (disch := omega) only [SS,eq_self,reduceIte,reduceCtorEq,Nat.reduceEqDiff,Nat.reduceAdd]
      exact hc _ _ ⟨h0,⟨hr,hb,by omega⟩,by omega⟩
  clear h0 hr hb hl s H
  rintro s H ⟨s0,hby,hus⟩
  refine cutC (fun s K => ∃ (gp : Nat) (n : Int) (w a b : Value) (es : List (Int × Int)) (p q : List Int),s 0 = va ∧ s 3 = .pointer (some ⟨gp,0,none⟩) ∧ s 4 = a ∧ s 5 = b ∧ es.length ≤ 200 ∧ I64 n ∧ Sml es ∧ LsOk p ∧ LsOk q ∧ LwS gp n w a b es p q K ∧ Byt K va us) (fun c hc => ?_) ?_
  · simp (maxSteps := 1000000) (disch := omega) only [s0,SS,eq_self,reduceIte,reduceCtorEq,Nat.reduceEqDiff,Nat.reduceAdd]
    refine CallH.by (DrawSlP_c hby) ?_
    rintro _ K ⟨n,w,a,b,es,p,q,rfl,x1,x2,x3,x4,x5,x6,x7,x8,x9⟩
    have st := st_G x1 (at_new K (.cells [.int .i64 0,.slice none 0 0] 26 false)) rfl n
    rw [set_new] at st
    have p2 : K <+: K ++ [AObj.cells [.int .i64 n,w] 26 false] := List.prefix_append _ _
    have ta := x5.tup
    have tb := x7.tup
    simp (maxSteps := 1000000) (disch := omega) only [alloc_G,st,ta,tb,SS,eq_self,reduceIte,reduceCtorEq,Nat.reduceEqDiff,Nat.reduceAdd]
    exact hc _ _ ⟨K.length,n,w,a,b,es,p,q,s0,rfl,rfl,rfl,x2,x3,x4,x6,x8,⟨at_new ..,x1.pre p2,x5.pre p2,x7.pre p2⟩,(hby.pre x9).pre p2⟩
  clear s0 hby s H
  rintro s H ⟨gp,n,w,a,b,es,p,q,s0,s3,s4,s5,hel,hn,hs,⟨lp,kp⟩,⟨lq,kq⟩,hS,hby⟩
  have hi := sml_i64 hs
  have lP := slP_le n es p q
  refine cutC (fun s K => s 0 = va ∧ s 3 = .pointer (some ⟨gp,0,none⟩) ∧ s 4 = a ∧ s 5 = b ∧ s 7 = .bool (slD n es p q).isSome ∧ (∃ c1,s 6 = c1 ∧ Row 3 K c1 (slP n es p q)) ∧ H <+: K) (fun c hc => ?_) ?_
  · simp (maxSteps := 1000000) (disch := omega) only [s0,s3,s4,s5,ld_agg ag26 cs26 hS.cg,SS,eq_self,reduceIte,reduceCtorEq,Nat.reduceEqDiff,Nat.reduceAdd]
    refine CallH.by (SlI_c n w a b es p q H hS.hw (by omega) hi hS.ha (by omega) kp hS.hb (by omega) kq hn) ?_
    rintro _ K ⟨g,rfl,hg,pK⟩
    have tg := hg.row.tup
    simp (maxSteps := 1000000) (disch := omega) only [s0,s3,s4,s5,tg,SS,eq_self,reduceIte,reduceCtorEq,Nat.reduceEqDiff,Nat.reduceAdd]
    exact hc _ _ ⟨s0,s3,s4,s5,rfl,⟨g,rfl,hg.row⟩,pK⟩
  clear s0 s3 s4 s5 s
  rintro s K ⟨s0,s3,s4,s5,s7,⟨c1,s6,r1⟩,pK⟩
  replace hS := hS.pre pK
  replace hby := hby.pre pK
  clear pK H
  refine cutC (fun s H' => s 0 = va ∧ s 3 = .pointer (some ⟨gp,0,none⟩) ∧ s 4 = a ∧ s 5 = b ∧ s 6 = c1 ∧ s 7 = .bool (slD n es p q).isSome ∧ s 9 = .bool (slD n es p q).isSome ∧ (∃ c2,s 8 = c2 ∧ Row 3 H' c2 (slP n es p q)) ∧ K <+: H') (fun c hc => ?_) ?_
  · simp (maxSteps := 1000000) (disch := omega) only [s0,s3,s4,s5,s6,s7,ld_agg ag26 cs26 hS.cg,SS,eq_self,reduceIte,reduceCtorEq,Nat.reduceEqDiff,Nat.reduceAdd]
    refine CallH.by (SlS_c n w a b es p q K hS.hw (by omega) hi hS.ha (by omega) kp hS.hb (by omega) kq hn) ?_
    rintro _ L ⟨g,rfl,hg,pL⟩
    have tg := hg.row.tup
    simp (maxSteps := 1000000) (disch := omega) only [s0,s3,s4,s5,s6,s7,tg,SS,eq_self,reduceIte,reduceCtorEq,Nat.reduceEqDiff,Nat.reduceAdd]
    exact hc _ _ ⟨s0,s3,s4,s5,s6,s7,rfl,⟨g,rfl,hg.row⟩,pL⟩
  clear s0 s3 s4 s5 s6 s7 s
  rintro s L ⟨s0,s3,s4,s5,s6,s7,s9,⟨c2,s8,r2⟩,pL⟩
  replace hS := hS.pre pL
  replace hby := hby.pre pL
  replace r1 := r1.pre pL
  clear pL K
  refine cutC (fun s H' => s 0 = va ∧ s 3 = .pointer (some ⟨gp,0,none⟩) ∧ s 4 = a ∧ s 5 = b ∧ s 6 = c1 ∧ s 7 = .bool (slD n es p q).isSome ∧ s 8 = c2 ∧ s 9 = .bool (slD n es p q).isSome ∧ s 10 = .int .i64 ((slD n es p q).getD 0) ∧ s 11 = .bool (slD n es p q).isSome ∧ L <+: H') (fun c hc => ?_) ?_
  · simp (maxSteps := 1000000) (disch := omega) only [s0,s3,s4,s5,s6,s7,s8,s9,ld_agg ag26 cs26 hS.cg,SS,eq_self,reduceIte,reduceCtorEq,Nat.reduceEqDiff,Nat.reduceAdd]
    refine CallH.by (SlDI_c n w a b es p q L hS.hw (by omega) hi hS.ha (by omega) kp hS.hb (by omega) kq hn) ?_
    rintro _ M ⟨rfl,pM⟩
    simp (maxSteps := 1000000) (disch := omega) only [s0,s3,s4,s5,s6,s7,s8,s9,SS,eq_self,reduceIte,reduceCtorEq,Nat.reduceEqDiff,Nat.reduceAdd]
    exact hc _ _ ⟨s0,s3,s4,s5,s6,s7,s8,s9,rfl,rfl,pM⟩
  clear s0 s3 s4 s5 s6 s7 s8 s9 s
  rintro s M ⟨s0,s3,s4,s5,s6,s7,s8,s9,s10,s11,pM⟩
  replace hS := hS.pre pM
  replace hby := hby.pre pM
  replace r1 := r1.pre pM
  replace r2 := r2.pre pM
  clear pM L
  refine cutC (fun s H' => s 0 = va ∧ s 3 = .pointer (some ⟨gp,0,none⟩) ∧ s 4 = a ∧ s 5 = b ∧ s 6 = c1 ∧ s 7 = .bool (slD n es p q).isSome ∧ s 8 = c2 ∧ s 9 = .bool (slD n es p q).isSome ∧ s 10 = .int .i64 ((slD n es p q).getD 0) ∧ s 11 = .bool (slD n es p q).isSome ∧ s 12 = .int .i64 ((slD n es p q).getD 0) ∧ s 13 = .bool (slD n es p q).isSome ∧ M <+: H') (fun c hc => ?_) ?_
  · simp (maxSteps := 1000000) (disch := omega) only [s0,s3,s4,s5,s6,s7,s8,s9,s10,s11,ld_agg ag26 cs26 hS.cg,SS,eq_self,reduceIte,reduceCtorEq,Nat.reduceEqDiff,Nat.reduceAdd]
    refine CallH.by (SlDS_c n w a b es p q M hS.hw (by omega) hi hS.ha (by omega) kp hS.hb (by omega) kq hn) ?_
    rintro _ P ⟨rfl,pP⟩
    simp (maxSteps := 1000000) (disch := omega) only [s0,s3,s4,s5,s6,s7,s8,s9,s10,s11,SS,eq_self,reduceIte,reduceCtorEq,Nat.reduceEqDiff,Nat.reduceAdd]
    exact hc _ _ ⟨s0,s3,s4,s5,s6,s7,s8,s9,s10,s11,rfl,rfl,pP⟩
  clear s0 s3 s4 s5 s6 s7 s8 s9 s10 s11 s
  rintro s P ⟨s0,s3,s4,s5,s6,s7,s8,s9,s10,s11,s12,s13,pP⟩
  replace hS := hS.pre pP
  replace hby := hby.pre pP
  replace r1 := r1.pre pP
  replace r2 := r2.pre pP
  clear pP M
  refine cutC (fun s K => ∃ (gp' : Nat) (n' : Int) (w' a' b' : Value) (es' : List (Int × Int)) (p' q' : List Int),s 14 = .pointer (some ⟨gp',0,none⟩) ∧ s 15 = a' ∧ s 16 = b' ∧ es'.length ≤ 200 ∧ I64 n' ∧ Sml es' ∧ LsOk p' ∧ LsOk q' ∧ LwS gp' n' w' a' b' es' p' q' K ∧ s 3 = .pointer (some ⟨gp,0,none⟩) ∧ s 4 = a ∧ s 5 = b ∧ s 6 = c1 ∧ s 7 = .bool (slD n es p q).isSome ∧ s 8 = c2 ∧ s 9 = .bool (slD n es p q).isSome ∧ s 10 = .int .i64 ((slD n es p q).getD 0) ∧ s 11 = .bool (slD n es p q).isSome ∧ s 12 = .int .i64 ((slD n es p q).getD 0) ∧ s 13 = .bool (slD n es p q).isSome ∧ P <+: K) (fun c hc => ?_) ?_
  · simp (maxSteps := 1000000) (disch := omega) only [s0,s3,s4,s5,s6,s7,s8,s9,s10,s11,s12,s13,SS,eq_self,reduceIte,reduceCtorEq,Nat.reduceEqDiff,Nat.reduceAdd]
    refine CallH.by (vCut_c hby hus) ?_
    rintro cv K ⟨ws,hbw,pK⟩
    simp (maxSteps := 1000000) (disch := omega) only [s0,s3,s4,s5,s6,s7,s8,s9,s10,s11,s12,s13,SS,eq_self,reduceIte,reduceCtorEq,Nat.reduceEqDiff,Nat.reduceAdd]
    refine CallH.by (DrawSlT_c hbw) ?_
    rintro _ L ⟨n',w',a',b',es',p',q',rfl,x1,x2,x3,x4,x5,x6,x7,x8,x9⟩
    have st := st_G x1 (at_new L (.cells [.int .i64 0,.slice none 0 0] 26 false)) rfl n'
    rw [set_new] at st
    have p2 : L <+: L ++ [AObj.cells [.int .i64 n',w'] 26 false] := List.prefix_append _ _
    have ta := x5.tup
    have tb := x7.tup
    simp (maxSteps := 1000000) (disch := omega) only [alloc_G,st,ta,tb,s3,s4,s5,s6,s7,s8,s9,s10,s11,s12,s13,SS,eq_self,reduceIte,reduceCtorEq,Nat.reduceEqDiff,Nat.reduceAdd]
    exact hc _ _ ⟨L.length,n',w',a',b',es',p',q',rfl,rfl,rfl,x2,x3,x4,x6,x8,⟨at_new ..,x1.pre p2,x5.pre p2,x7.pre p2⟩,s3,s4,s5,s6,s7,s8,s9,s10,s11,s12,s13,pK.trans (x9.trans p2)⟩
  clear s0 s3 s4 s5 s6 s7 s8 s9 s10 s11 s12 s13 s
  rintro s K ⟨gp',n',w',a',b',es',p',q',s14,s15,s16,hel',hn',hs',⟨lp',kp'⟩,⟨lq',kq'⟩,hT,s3,s4,s5,s6,s7,s8,s9,s10,s11,s12,s13,pK⟩
  have hi' := sml_i64 hs'
  replace hS := hS.pre pK
  replace r1 := r1.pre pK
  replace r2 := r2.pre pK
  clear pK hby P
  refine cutC (fun s L => s 3 = .pointer (some ⟨gp,0,none⟩) ∧ s 4 = a ∧ s 5 = b ∧ s 6 = c1 ∧ s 7 = .bool (slD n es p q).isSome ∧ s 8 = c2 ∧ s 9 = .bool (slD n es p q).isSome ∧ s 10 = .int .i64 ((slD n es p q).getD 0) ∧ s 11 = .bool (slD n es p q).isSome ∧ s 12 = .int .i64 ((slD n es p q).getD 0) ∧ s 13 = .bool (slD n es p q).isSome ∧ s 14 = .pointer (some ⟨gp',0,none⟩) ∧ s 15 = a' ∧ s 16 = b' ∧ s 18 = .bool (slideK n' es' p' q') ∧ (∃ c3,s 17 = c3 ∧ Row 3 L c3 (slideR n' es' p' q')) ∧ K <+: L) (fun c hc => ?_) ?_
  · simp (maxSteps := 1000000) (disch := omega) only [s3,s4,s5,s6,s7,s8,s9,s10,s11,s12,s13,s14,s15,s16,ld_agg ag26 cs26 hT.cg,SS,eq_self,reduceIte,reduceCtorEq,Nat.reduceEqDiff,Nat.reduceAdd]
    refine CallH.by (SlideI_c n' w' a' b' es' p' q' K hT.hw (by omega) hi' hT.ha (by omega) kp' hT.hb (by omega) kq' hn') ?_
    rintro _ L ⟨g,rfl,hg,pL⟩
    have tg := hg.row.tup
    simp (maxSteps := 1000000) (disch := omega) only [tg,s3,s4,s5,s6,s7,s8,s9,s10,s11,s12,s13,s14,s15,s16,SS,eq_self,reduceIte,reduceCtorEq,Nat.reduceEqDiff,Nat.reduceAdd]
    exact hc _ _ ⟨s3,s4,s5,s6,s7,s8,s9,s10,s11,s12,s13,s14,s15,s16,rfl,⟨g,rfl,hg.row⟩,pL⟩
  clear s3 s4 s5 s6 s7 s8 s9 s10 s11 s12 s13 s14 s15 s16 s
  rintro s L ⟨s3,s4,s5,s6,s7,s8,s9,s10,s11,s12,s13,s14,s15,s16,s18,⟨c3,s17,r3⟩,pL⟩
  replace hS := hS.pre pL
  replace hT := hT.pre pL
  replace r1 := r1.pre pL
  replace r2 := r2.pre pL
  clear pL K
  refine cutC (fun s K => s 3 = .pointer (some ⟨gp,0,none⟩) ∧ s 4 = a ∧ s 5 = b ∧ s 6 = c1 ∧ s 7 = .bool (slD n es p q).isSome ∧ s 8 = c2 ∧ s 9 = .bool (slD n es p q).isSome ∧ s 10 = .int .i64 ((slD n es p q).getD 0) ∧ s 11 = .bool (slD n es p q).isSome ∧ s 12 = .int .i64 ((slD n es p q).getD 0) ∧ s 13 = .bool (slD n es p q).isSome ∧ s 14 = .pointer (some ⟨gp',0,none⟩) ∧ s 15 = a' ∧ s 16 = b' ∧ s 17 = c3 ∧ s 18 = .bool (slideK n' es' p' q') ∧ s 20 = .bool (slideK n' es' p' q') ∧ (∃ c4,s 19 = c4 ∧ Row 3 K c4 (slideR n' es' p' q')) ∧ L <+: K) (fun c hc => ?_) ?_
  · simp (maxSteps := 1000000) (disch := omega) only [s3,s4,s5,s6,s7,s8,s9,s10,s11,s12,s13,s14,s15,s16,s17,s18,ld_agg ag26 cs26 hT.cg,SS,eq_self,reduceIte,reduceCtorEq,Nat.reduceEqDiff,Nat.reduceAdd]
    refine CallH.by (SlideS_c n' w' a' b' es' p' q' L hT.hw (by omega) hi' hT.ha (by omega) kp' hT.hb (by omega) kq' hn') ?_
    rintro _ K ⟨g,rfl,hg,pL⟩
    have tg := hg.row.tup
    simp (maxSteps := 1000000) (disch := omega) only [tg,s3,s4,s5,s6,s7,s8,s9,s10,s11,s12,s13,s14,s15,s16,s17,s18,SS,eq_self,reduceIte,reduceCtorEq,Nat.reduceEqDiff,Nat.reduceAdd]
    exact hc _ _ ⟨s3,s4,s5,s6,s7,s8,s9,s10,s11,s12,s13,s14,s15,s16,s17,s18,rfl,⟨g,rfl,hg.row⟩,pL⟩
  clear s3 s4 s5 s6 s7 s8 s9 s10 s11 s12 s13 s14 s15 s16 s17 s18 s
  rintro s K ⟨s3,s4,s5,s6,s7,s8,s9,s10,s11,s12,s13,s14,s15,s16,s17,s18,s20,⟨c4,s19,r4⟩,pL⟩
  replace hS := hS.pre pL
  replace hT := hT.pre pL
  replace r1 := r1.pre pL
  replace r2 := r2.pre pL
  replace r3 := r3.pre pL
  clear pL L
  have kR : LsOk (slideR n' es' p' q') := slideR_lok
  obtain ⟨lR,kR⟩ := kR
  refine cutC (fun s L => s 3 = .pointer (some ⟨gp,0,none⟩) ∧ s 4 = a ∧ s 5 = b ∧ s 6 = c1 ∧ s 7 = .bool (slD n es p q).isSome ∧ s 10 = .int .i64 ((slD n es p q).getD 0) ∧ s 14 = .pointer (some ⟨gp',0,none⟩) ∧ s 15 = a' ∧ s 16 = b' ∧ s 17 = c3 ∧ s 18 = .bool (slideK n' es' p' q') ∧ K = L) (fun c hc => ?_) ?_
  · have e0 : ¬ ¬ ((slD n es p q).getD 0 = (slD n es p q).getD 0) := fun h => h rfl
    generalize (slD n es p q).isSome = ok at *
    generalize (slD n es p q).getD 0 = far at *
    generalize slideK n' es' p' q' = there at *
    simp (maxSteps := 1000000) (disch := omega) only [s3,s4,s5,s6,s7,s8,s9,s10,s11,s12,s13,s14,s15,s16,s17,s18,s19,s20,SS,eq_self,reduceIte,reduceCtorEq,Nat.reduceEqDiff,Nat.reduceAdd]
    refine CallH.by (vInts_c c1 c2 _ K r1 r2 (by omega)) ?_
    rintro _ _ ⟨rfl,rfl⟩
    simp (maxSteps := 1000000) (disch := omega) only [s3,s4,s5,s6,s7,s8,s9,s10,s11,s12,s13,s14,s15,s16,s17,s18,s19,s20,decide_eq_false e0,SS,eq_self,reduceIte,reduceCtorEq,Nat.reduceEqDiff,Nat.reduceAdd]
    refine CallH.by (vInts_c c3 c4 _ K r3 r4 (by omega)) ?_
    rintro _ _ ⟨rfl,rfl⟩
    simp (maxSteps := 1000000) (disch := omega) only [s3,s4,s5,s6,s7,s8,s9,s10,s11,s12,s13,s14,s15,s16,s17,s18,s19,s20,SS,eq_self,reduceIte,reduceCtorEq,Nat.reduceEqDiff,Nat.reduceAdd]
    exact hc _ _ ⟨s3,s4,s5,s6,s7,s10,s14,s15,s16,s17,s18,rfl⟩
  clear s3 s4 s5 s6 s7 s8 s9 s10 s11 s12 s13 s14 s15 s16 s17 s18 s19 s20 s r2 r4
  rintro s _ ⟨s3,s4,s5,s6,s7,s10,s14,s15,s16,s17,s18,rfl⟩
  refine cutC (fun s L => s 3 = .pointer (some ⟨gp,0,none⟩) ∧ s 4 = a ∧ s 5 = b ∧ s 6 = c1 ∧ s 7 = .bool (slD n es p q).isSome ∧ s 10 = .int .i64 ((slD n es p q).getD 0) ∧ K <+: L) (fun c hc => ?_) ?_
  · by_cases hk : slideK n' es' p' q' = true
    rotate_left
    · have hk' : slideK n' es' p' q' = false := by simpa using hk
      rw [hk'] at s18
      simp (maxSteps := 1000000) (disch := omega) only [s3,s4,s5,s6,s7,s10,s14,s15,s16,s17,s18,SS,eq_self,reduceIte,reduceCtorEq,Nat.reduceEqDiff,Nat.reduceAdd]
      exact hc _ _ ⟨s3,s4,s5,s6,s7,s10,List.prefix_refl _⟩
    obtain ⟨d,hd,hdl,hpar⟩ := slides_back hk
    have hdr := slD_rng hd
    rw [hk] at s18
    simp (maxSteps := 1000000) (disch := omega) only [s3,s4,s5,s6,s7,s10,s14,s15,s16,s17,s18,ld_agg ag26 cs26 hT.cg,SS,eq_self,reduceIte,reduceCtorEq,Nat.reduceEqDiff,Nat.reduceAdd]
    refine CallH.by (SlDI_c n' w' c3 a' es' (slideR n' es' p' q') p' K hT.hw (by omega) hi' r3 (by omega) kR hT.ha (by omega) kp' hn') ?_
    rintro _ L ⟨rfl,pL⟩
    rw [hd]
    have hTL := hT.pre pL
    have e1 : ¬ ((q'.length : Int) < d) := by omega
    have hwr : IntKind.i64.wrap (d + (q'.length : Int)) = d + q'.length := by rw [wrap64 (by omega) (by omega)]
    have e3 : IntKind.i64.wrap ((d + (q'.length : Int)).tmod 2) = (d + q'.length) % 2 := by
      rw [Int.tmod_eq_emod_of_nonneg (by omega),wrap64 (by omega) (by omega)]
    simp only [Option.isSome_some,Option.getD_some]
    simp (maxSteps := 1000000) (disch := omega) only [s3,s4,s5,s6,s7,s10,s14,s15,s16,s17,hTL.hb.len Tryz.underlying27,decide_eq_false e1,hwr,SS,eq_self,reduceIte,reduceCtorEq,Nat.reduceEqDiff,Nat.reduceAdd]
    have em : (d + (q'.length : Int)).tmod 2 = (d + q'.length) % 2 := Int.tmod_eq_emod_of_nonneg (by omega)
    by_cases hp : (d + (q'.length : Int)) % 2 = 0
    · have e4 : ¬ ¬ (d + (q'.length : Int)).tmod 2 = 0 := by rw [em]; omega
      simp (maxSteps := 1000000) (disch := omega) only [s3,s4,s5,s6,s7,s10,s14,s15,s16,s17,decide_eq_false e4,SS,eq_self,reduceIte,reduceCtorEq,Nat.reduceEqDiff,Nat.reduceAdd]
      exact hc _ _ ⟨s3,s4,s5,s6,s7,s10,pL⟩
    · have e5 : ¬ (d + (q'.length : Int)).tmod 2 = 0 := by rw [em]; omega
      have hev : (decide (Grd n' es') && evB n'.toNat es') = false := by
        cases h : evB n'.toNat es' with
        | false => simp
        | true => exact absurd (hpar h) hp
      simp (maxSteps := 1000000) (disch := omega) only [s3,s4,s5,s6,s7,s10,s14,s15,s16,s17,decide_eq_true e5,ld_agg ag26 cs26 hTL.cg,SS,eq_self,reduceIte,reduceCtorEq,Nat.reduceEqDiff,Nat.reduceAdd]
      refine CallH.by (vEven_c n' w' es' L hTL.hw (by omega) hi' hn') ?_
      rintro _ M ⟨rfl,pM⟩
      rw [hev]
      simp (maxSteps := 1000000) (disch := omega) only [s3,s4,s5,s6,s7,s10,s14,s15,s16,s17,SS,eq_self,reduceIte,reduceCtorEq,Nat.reduceEqDiff,Nat.reduceAdd]
      exact hc _ _ ⟨s3,s4,s5,s6,s7,s10,pL.trans pM⟩
  clear s3 s4 s5 s6 s7 s10 s14 s15 s16 s17 s18 s hT r3 kR lR
  rintro s L ⟨s3,s4,s5,s6,s7,s10,pL⟩
  replace hS := hS.pre pL
  replace r1 := r1.pre pL
  clear pL K
  cases hD : slD n es p q with
  | none =>
    rw [hD] at s7
    simp only [Option.isSome_none] at s7
    refine cutC (fun _ _ => False) (fun c hc => ?_) (fun _ _ h => h.elim)
    simp (maxSteps := 1000000) (disch := omega) only [s7,SS,eq_self,reduceIte,reduceCtorEq,Nat.reduceEqDiff,Nat.reduceAdd]
    refine hQ _ _ _ ?_
    simp (maxSteps := 1000000) (disch := omega) only [SS,eq_self,reduceIte,reduceCtorEq,Nat.reduceEqDiff,Nat.reduceAdd]
  | some d =>
  obtain ⟨o1,o2,o3,o4⟩ := plan_ok hD
  have hdr := slD_rng hD
  rw [hD] at s7 s10
  simp only [Option.isSome_some,Option.getD_some] at s7 s10
  refine cutC (fun s K => s 3 = .pointer (some ⟨gp,0,none⟩) ∧ s 4 = a ∧ s 5 = b ∧ s 6 = c1 ∧ s 10 = .int .i64 d ∧ L = K) (fun c hc => ?_) ?_
  · simp (maxSteps := 1000000) (disch := omega) only [s7,s3,s4,s5,s6,s10,SS,eq_self,reduceIte,reduceCtorEq,Nat.reduceEqDiff,Nat.reduceAdd]
    exact hc _ _ ⟨s3,s4,s5,s6,s10,rfl⟩
  clear s3 s4 s5 s6 s7 s10 s
  rintro s _ ⟨s3,s4,s5,s6,s10,rfl⟩
  refine cutC (fun s K => s 3 = .pointer (some ⟨gp,0,none⟩) ∧ s 4 = a ∧ s 5 = b ∧ s 6 = c1 ∧ s 10 = .int .i64 d ∧ s 24 = .bool true ∧ (∃ c5,s 23 = c5 ∧ Row 3 K c5 q) ∧ L <+: K) (fun c hc => ?_) ?_
  · simp (maxSteps := 1000000) (disch := omega) only [s3,s4,s5,s6,s10,ld_agg ag26 cs26 hS.cg,SS,eq_self,reduceIte,reduceCtorEq,Nat.reduceEqDiff,Nat.reduceAdd]
    refine CallH.by (SlideI_c n w a c1 es p (slP n es p q) L hS.hw (by omega) hi hS.ha (by omega) kp r1 (by omega) (slP_i64 hi p q) hn) ?_
    rintro _ K ⟨g,rfl,hg,pK⟩
    rw [o1]
    rw [o2] at hg
    have tg := hg.row.tup
    simp (maxSteps := 1000000) (disch := omega) only [tg,s3,s4,s5,s6,s10,SS,eq_self,reduceIte,reduceCtorEq,Nat.reduceEqDiff,Nat.reduceAdd]
    exact hc _ _ ⟨s3,s4,s5,s6,s10,rfl,⟨g,rfl,hg.row⟩,pK⟩
  clear s3 s4 s5 s6 s10 s
  rintro s K ⟨s3,s4,s5,s6,s10,s24,⟨c5,s23,r5⟩,pK⟩
  replace hS := hS.pre pK
  replace r1 := r1.pre pK
  clear pK L
  refine cutC (fun s L => s 5 = b ∧ s 6 = c1 ∧ s 10 = .int .i64 d ∧ s 24 = .bool true ∧ s 23 = c5 ∧ s 25 = .int .i64 d ∧ s 26 = .bool true ∧ K <+: L) (fun c hc => ?_) ?_
  · simp (maxSteps := 1000000) (disch := omega) only [s3,s4,s5,s6,s10,s23,s24,ld_agg ag26 cs26 hS.cg,SS,eq_self,reduceIte,reduceCtorEq,Nat.reduceEqDiff,Nat.reduceAdd]
    refine CallH.by (SlDI_c n w b a es q p K hS.hw (by omega) hi hS.hb (by omega) kq hS.ha (by omega) kp hn) ?_
    rintro _ L ⟨rfl,pL⟩
    rw [o4]
    simp only [Option.isSome_some,Option.getD_some]
    simp (maxSteps := 1000000) (disch := omega) only [s3,s4,s5,s6,s10,s23,s24,SS,eq_self,reduceIte,reduceCtorEq,Nat.reduceEqDiff,Nat.reduceAdd]
    exact hc _ _ ⟨s5,s6,s10,s24,s23,rfl,rfl,pL⟩
  clear s3 s4 s5 s6 s10 s23 s24 s
  rintro s L ⟨s5,s6,s10,s24,s23,s25,s26,pL⟩
  replace hS := hS.pre pL
  replace r1 := r1.pre pL
  replace r5 := r5.pre pL
  clear pL K
  simp (maxSteps := 1000000) (disch := omega) only [s5,s6,s10,s23,s24,s25,s26,SS,eq_self,reduceIte,reduceCtorEq,Nat.reduceEqDiff,Nat.reduceAdd]
  refine CallH.by (vInts_c c5 b q L r5 hS.hb (by omega)) ?_
  rintro _ _ ⟨rfl,rfl⟩
  simp (maxSteps := 1000000) (disch := omega) only [s5,s6,s10,s23,s24,s25,s26,r1.len Tryz.underlying27,o3,decide_eq_true (rfl : d = d),SS,eq_self,reduceIte,reduceCtorEq,Nat.reduceEqDiff,Nat.reduceAdd]
  refine hQ _ _ _ ?_
  simp (maxSteps := 1000000) (disch := omega) only [SS,eq_self,reduceIte,reduceCtorEq,Nat.reduceEqDiff,Nat.reduceAdd]
end Go.Proofs.YtelafbennmclfaaGreat.Ai
namespace Go.Proofs.YtelafbennmclfaaGreat.Ai
open Go Go.RowKit
def byts (zs : List Int) : List Value := zs.map fun z => .int .u8 z
theorem byts_len (xs : List Int) : (byts xs).length = xs.length := by simp [byts]
theorem byts_at (xs : List Int) {i : Nat} (h : i < xs.length) : (byts xs)[i]? = some (.int .u8 (xs.getD i 0)) := by
  simp [byts,h,List.getElem?_eq_getElem]
theorem Args.addBytes {P : Program} {t e : TypeId} {W : World} {base : Nat} {a : Option Addr} {len cap : Nat} {zs : List Int} {μ : Mu} {H : AH} (h : Args P μ H W) (hc : P.cellsOf e = 1) (hu : P.underlying t = some (.slice e))
    (hok : Value.okWide P W .any base t (.slice a len cap)) (hrow : IsRow .u8 W a len cap zs) :
    ∃ (μ' : Mu) (obj : AObj) (va : Value) (us : List Value),Args P μ' (H ++ [obj]) W ∧ μ.Le μ' ∧ TRel μ' va (.slice a len cap) ∧ RowV e (H ++ [obj]) va us ∧ (∀ i,i < us.length → ∃ b : Nat,us.getD i undef = .int .u8 (b : Int) ∧ b < 256) ∧ (us.length : Int) ≤ 9223372036854775807 := by
  rcases hrow with ⟨rfl,rfl,rfl,rfl⟩ | ⟨x,rfl,hl,hm,hz,hcell,hwf⟩
  · refine ⟨μ,.dead,.slice none 0 0,[],⟨h.rel.phantom .dead,?_⟩,Mu.Le.refl _,⟨rfl,rfl,rfl⟩,.inl ⟨rfl,rfl⟩,fun i hi => absurd hi (by simp),by simp⟩
    intro o y hy
    rw [getElem?_snoc] at hy
    split at hy
    · cases hy; rfl
    · exact h.ro o y hy
  · simp only [Value.okWide,hu,Cell.okWide,Cell.ok] at hok
    obtain ⟨_,_,_,hspot,row,cells,hsh,_⟩ := hok
    have hblk : x.block < W.heap.size := by
      unfold World.shape? at hsh
      cases hb : W.heap[x.block]? with
      | none => rw [hb] at hsh; cases hsh
      | some o => exact (Array.getElem?_eq_some_iff.1 hb).1
    have hx : ∀ i,x.add i = ⟨x.block,x.off + i,none⟩ := by intro i; cases x; simp_all [Addr.add]
    have hfree : μ H.length = none := h.rel.dom _ (Nat.le_refl _)
    have hle := Mu.le_put (L := ⟨x.block,x.off,cap,1⟩) hfree
    have hro : ∀ (o : Nat) (y : AObj),(H ++ [AObj.cells (byts zs) e true])[o]? = some y → y.wr = false := by
      intro o y hy
      rw [getElem?_snoc] at hy
      split at hy
      · cases hy; rfl
      · exact h.ro o y hy
    refine ⟨μ.put H.length ⟨x.block,x.off,cap,1⟩,.cells (byts zs) e true,.slice (some ⟨H.length,0,none⟩) len len,byts (zs.take len),⟨?_,hro⟩,hle,?_,?_,?_,?_⟩
    · refine ⟨?_,?_,?_,?_⟩
      · intro o ho
        simp only [List.length_append,List.length_cons,List.length_nil] at ho
        rw [Mu.put_other _ _ _ (by omega)]; exact h.rel.dom o (by omega)
      · intro o vs t' ro L ho hL
        rw [getElem?_snoc] at ho
        split at ho
        · rename_i eo
          subst eo
          simp only [Option.some.injEq,AObj.cells.injEq] at ho
          obtain ⟨rfl,rfl,rfl⟩ := ho
          rw [Mu.put_same] at hL
          cases hL
          refine ⟨hblk,by simp,hc.symm,by rw [byts_len]; show zs.length ≤ cap; omega,?_,fun h => by cases h⟩
          intro i v hv
          have hi : i < zs.length := by have := (List.getElem?_eq_some_iff.1 hv).1; rwa [byts_len] at this
          rw [byts_at zs hi] at hv
          cases hv
          refine ⟨_,?_,rfl⟩
          rw [← hx]; exact hcell i hi
        · rename_i eo
          rw [Mu.put_other _ _ _ eo] at hL
          obtain ⟨h2,h3,h4,h5,h6,h7⟩ := h.rel.cells_ o vs t' ro L ho hL
          refine ⟨h2,h3,h4,h5,?_,h7⟩
          intro i v hv
          obtain ⟨cv,g1,g2⟩ := h6 i v hv
          exact ⟨cv,g1,g2.mono hle⟩
      · intro o es L ho hL
        rw [getElem?_snoc] at ho
        split at ho
        · cases ho
        · have := h.ro o _ ho
          cases this
      · intro o o' y y' L L' hne ho ho' hw
        have := hro o y ho
        rw [this] at hw; cases hw
    · refine ⟨rfl,rfl,x,cap,rfl,hl,.inr ⟨⟨x.block,x.off,cap,1⟩,Mu.put_same _ _ _,?_,by simp⟩⟩
      have := hx 0
      cases x
      simp_all
    · refine .inr ⟨H.length,0,byts zs,true,?_,at_new ..,?_,?_⟩
      · have : (byts (zs.take len)).length = len := by rw [byts_len]; simp; omega
        rw [this]
      · rw [byts_len,byts_len]; simp; omega
      · have : (byts (zs.take len)).length = len := by rw [byts_len]; simp; omega
        rw [this,List.drop_zero]
        simp [byts,List.map_take]
    · intro i hi
      rw [byts_len] at hi
      have h1 := byts_at (zs.take len) hi
      have hm2 : (zs.take len).getD i 0 ∈ zs.take len := by
        rw [List.getD_eq_getElem?_getD,List.getElem?_eq_getElem hi]
        exact List.getElem_mem hi
      have := hwf _ (List.mem_of_mem_take hm2)
      simp [Lit.wf,IntKind.min,IntKind.max,IntKind.signed,IntKind.bits] at this
      rw [List.getD_eq_getElem?_getD,h1]
      have h0 : 0 ≤ (zs.take len).getD i 0 ∧ (zs.take len).getD i 0 < 256 := by
        simp only [List.getD_eq_getElem?_getD,List.getElem?_take] at this ⊢
        omega
      exact ⟨((zs.take len).getD i 0).toNat,by rw [Int.toNat_of_nonneg h0.1]; rfl,by omega⟩
    · rw [byts_len,List.length_take]
      unfold maxLen at hm
      omega
end Go.Proofs.YtelafbennmclfaaGreat.Ai
