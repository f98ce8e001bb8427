/- Slim code of this translation. By the kernel. -/
import Derived.Test.YtnoihoeaconllaaProg
import Derived.Test.YtnoihoeaconllaaAiC
import Derived.KernelRfl
namespace Go.Proofs.Ytnoihoeaconllaa.Ai
open Go

/- loop.example/g01128/spec.l1Most -/
def ords67 : List (Nat × List (Nat × Bool)) := []
def cd67 : Cd := (.seq (.reg [⟨⟨some 4, Op.assign (Operand.const (Value.int IntKind.i64 0)), none⟩, []⟩]) (.seq (.seq (.reg [⟨⟨some 5, Op.move (Operand.tmp 0), none⟩, []⟩,
  ⟨⟨some 6, Op.move (Operand.tmp 1), none⟩, []⟩,
  ⟨⟨some 7, Op.binOp BinOp.gtr 3 (Operand.tmp 5) (Operand.tmp 6) 3, none⟩, []⟩]) (.cond (Operand.tmp 7) (.seq (.reg [⟨⟨some 8, Op.move (Operand.tmp 0), none⟩, []⟩,
  ⟨⟨some 4, Op.assign (Operand.tmp 8), none⟩, []⟩]) .ret) .skip)) (.seq (.reg [⟨⟨some 9, Op.move (Operand.tmp 1), none⟩, []⟩,
  ⟨⟨some 4, Op.assign (Operand.tmp 9), none⟩, []⟩]) .ret)))
theorem sl67 : slim Try.f67.ntmps ords67 (Try.f67.body.getD .skip) = some cd67 := by kernel_rfl
theorem in67 {args : List Value} {H : AH} {R : Value → AH → Prop} (hl : args.length = 2) (h : ∀ (Q : Exit → Sl → AH → Prop), (∀ e s H, endA Try.prog [ResultVar.tmp 4] R e s H → Q e s H) → wpC Try.prog cd67 Q (enterA args) H) : ACalls Try.prog 67 args H R :=
  ACalls.intro (by kernel_rfl) Try.func67 rfl (by kernel_rfl) sl67 hl (of_decide_eq_true (by kernel_rfl)) (by kernel_rfl) h

/- loop.example/g01128/spec.TurnTriangulation -/
def ords36 : List (Nat × List (Nat × Bool)) := [(7, [(0, false), (1, false), (2, false), (3, false), (4, false), (5, false), (6, false), (7, false), (8, false), (9, false), (10, false), (11, false)])]
def cd36 : Cd := (.seq (.reg [⟨⟨some 8, Op.assign (Operand.const (Value.slice none 0 0)), none⟩, []⟩,
  ⟨⟨some 9, Op.assign (Operand.const (Value.bool false)), none⟩, []⟩]) (.seq (.reg [⟨⟨some 14, Op.buildSlice 22 0 #[], none⟩, []⟩,
  ⟨⟨some 10, Op.assign (Operand.tmp 14), none⟩, []⟩]) (.seq (.seq (.reg [⟨⟨some 15, Op.move (Operand.tmp 0), none⟩, []⟩,
  ⟨⟨some 16, Op.move (Operand.tmp 1), none⟩, []⟩,
  ⟨⟨some 17, Op.call { callee := (Callee.value (Operand.func 54)), args := #[(Operand.tmp 15), (Operand.tmp 16)], argTypes := #[3, 22] }, none⟩, []⟩,
  ⟨⟨some 18, Op.unOp UnOp.not 4 (Operand.tmp 17), none⟩, []⟩,
  ⟨⟨some 19, Op.move (Operand.tmp 18), none⟩, []⟩,
  ⟨⟨some 20, Op.move (Operand.tmp 2), some (19, false)⟩, []⟩,
  ⟨⟨some 21, Op.move (Operand.tmp 0), some (19, false)⟩, []⟩,
  ⟨⟨some 22, Op.binOp BinOp.sub 3 (Operand.tmp 21) (Operand.const (Value.int IntKind.i64 1)) 3, some (19, false)⟩, []⟩,
  ⟨⟨some 23, Op.call { callee := (Callee.value (Operand.func 65)), args := #[(Operand.tmp 20), (Operand.const (Value.int IntKind.i64 0)), (Operand.tmp 22)], argTypes := #[3, 3, 3] }, some (19, false)⟩, []⟩,
  ⟨⟨some 24, Op.unOp UnOp.not 4 (Operand.tmp 23), some (19, false)⟩, []⟩,
  ⟨⟨some 25, Op.pick (Operand.tmp 19) (Operand.const (Value.bool true)) (Operand.tmp 24), none⟩, []⟩]) (.cond (Operand.tmp 25) (.seq (.reg [⟨⟨some 26, Op.move (Operand.tmp 10), none⟩, []⟩,
  ⟨⟨some 8, Op.assign (Operand.tmp 26), none⟩, []⟩,
  ⟨⟨some 9, Op.assign (Operand.const (Value.bool false)), none⟩, []⟩]) .ret) .skip)) (.seq (.seq (.reg [⟨⟨some 11, Op.assign (Operand.const (Value.int IntKind.i64 0)), none⟩, []⟩]) (.block 0 (.loop (.seq (.seq (.reg [⟨⟨some 27, Op.move (Operand.tmp 11), none⟩, []⟩,
  ⟨⟨some 28, Op.move (Operand.tmp 1), none⟩, []⟩,
  ⟨⟨some 29, Op.call { callee := (Callee.builtin Builtin.len), args := #[(Operand.tmp 28)], argTypes := #[22] }, none⟩, []⟩,
  ⟨⟨some 30, Op.binOp BinOp.lss 3 (Operand.tmp 27) (Operand.tmp 29) 3, none⟩, []⟩]) (.cond (Operand.tmp 30) .skip (.exit 0))) (.seq (.block 1 (.seq (.reg [⟨⟨some 33, Op.move (Operand.tmp 1), none⟩, []⟩,
  ⟨⟨some 34, Op.move (Operand.tmp 11), none⟩, []⟩,
  ⟨⟨some 35, Op.indexAddr 22 (Operand.tmp 33) (Operand.tmp 34), none⟩, []⟩,
  ⟨⟨some 36, Op.load 3 (Operand.tmp 35), none⟩, []⟩,
  ⟨⟨some 37, Op.binOp BinOp.quo 3 (Operand.tmp 36) (Operand.const (Value.int IntKind.i64 10)) 3, none⟩, []⟩,
  ⟨⟨some 38, Op.move (Operand.tmp 1), none⟩, []⟩,
  ⟨⟨some 39, Op.move (Operand.tmp 11), none⟩, []⟩,
  ⟨⟨some 40, Op.indexAddr 22 (Operand.tmp 38) (Operand.tmp 39), none⟩, []⟩,
  ⟨⟨some 41, Op.load 3 (Operand.tmp 40), none⟩, []⟩,
  ⟨⟨some 42, Op.binOp BinOp.rem 3 (Operand.tmp 41) (Operand.const (Value.int IntKind.i64 10)) 3, none⟩, []⟩,
  ⟨⟨some 12, Op.assign (Operand.tmp 37), none⟩, []⟩,
  ⟨⟨some 13, Op.assign (Operand.tmp 42), none⟩, []⟩]) (.seq (.seq (.reg [⟨⟨some 43, Op.move (Operand.tmp 3), none⟩, []⟩]) (.cond (Operand.tmp 43) (.seq (.reg [⟨⟨some 44, Op.move (Operand.tmp 0), none⟩, []⟩,
  ⟨⟨some 45, Op.binOp BinOp.sub 3 (Operand.tmp 44) (Operand.const (Value.int IntKind.i64 1)) 3, none⟩, []⟩,
  ⟨⟨some 46, Op.move (Operand.tmp 12), none⟩, []⟩,
  ⟨⟨some 47, Op.binOp BinOp.sub 3 (Operand.tmp 45) (Operand.tmp 46) 3, none⟩, []⟩,
  ⟨⟨some 12, Op.assign (Operand.tmp 47), none⟩, []⟩]) (.reg [⟨⟨some 48, Op.move (Operand.tmp 0), none⟩, []⟩,
  ⟨⟨some 49, Op.binOp BinOp.sub 3 (Operand.tmp 48) (Operand.const (Value.int IntKind.i64 1)) 3, none⟩, []⟩,
  ⟨⟨some 50, Op.move (Operand.tmp 13), none⟩, []⟩,
  ⟨⟨some 51, Op.binOp BinOp.sub 3 (Operand.tmp 49) (Operand.tmp 50) 3, none⟩, []⟩,
  ⟨⟨some 13, Op.assign (Operand.tmp 51), none⟩, []⟩])) .skip)) (.seq (.reg [⟨⟨some 52, Op.move (Operand.tmp 12), none⟩, []⟩,
  ⟨⟨some 53, Op.move (Operand.tmp 2), none⟩, []⟩,
  ⟨⟨some 54, Op.binOp BinOp.add 3 (Operand.tmp 52) (Operand.tmp 53) 3, none⟩, []⟩,
  ⟨⟨some 55, Op.move (Operand.tmp 0), none⟩, []⟩,
  ⟨⟨some 56, Op.binOp BinOp.rem 3 (Operand.tmp 54) (Operand.tmp 55) 3, none⟩, []⟩,
  ⟨⟨some 12, Op.assign (Operand.tmp 56), none⟩, []⟩]) (.seq (.reg [⟨⟨some 57, Op.move (Operand.tmp 13), none⟩, []⟩,
  ⟨⟨some 58, Op.move (Operand.tmp 2), none⟩, []⟩,
  ⟨⟨some 59, Op.binOp BinOp.add 3 (Operand.tmp 57) (Operand.tmp 58) 3, none⟩, []⟩,
  ⟨⟨some 60, Op.move (Operand.tmp 0), none⟩, []⟩,
  ⟨⟨some 61, Op.binOp BinOp.rem 3 (Operand.tmp 59) (Operand.tmp 60) 3, none⟩, []⟩,
  ⟨⟨some 13, Op.assign (Operand.tmp 61), none⟩, []⟩]) (.reg [⟨⟨some 62, Op.move (Operand.tmp 10), none⟩, []⟩,
  ⟨⟨some 63, Op.move (Operand.tmp 12), none⟩, []⟩,
  ⟨⟨some 64, Op.move (Operand.tmp 13), none⟩, []⟩,
  ⟨⟨some 65, Op.call { callee := (Callee.value (Operand.func 55)), args := #[(Operand.tmp 63), (Operand.tmp 64)], argTypes := #[3, 3] }, none⟩, []⟩,
  ⟨⟨some 66, Op.binOp BinOp.mul 3 (Operand.const (Value.int IntKind.i64 10)) (Operand.tmp 65) 3, none⟩, []⟩,
  ⟨⟨some 67, Op.move (Operand.tmp 12), none⟩, []⟩,
  ⟨⟨some 68, Op.move (Operand.tmp 13), none⟩, []⟩,
  ⟨⟨some 69, Op.call { callee := (Callee.value (Operand.func 67)), args := #[(Operand.tmp 67), (Operand.tmp 68)], argTypes := #[3, 3] }, none⟩, []⟩,
  ⟨⟨some 70, Op.binOp BinOp.add 3 (Operand.tmp 66) (Operand.tmp 69) 3, none⟩, []⟩,
  ⟨⟨some 71, Op.call { callee := (Callee.value (Operand.func 66)), args := #[(Operand.tmp 62), (Operand.tmp 70)], argTypes := #[22, 3] }, none⟩, []⟩,
  ⟨⟨some 10, Op.assign (Operand.tmp 71), none⟩, []⟩])))))) (.reg [⟨⟨some 31, Op.move (Operand.tmp 11), none⟩, []⟩,
  ⟨⟨some 32, Op.binOp BinOp.add 3 (Operand.tmp 31) (Operand.const (Value.int IntKind.i64 1)) 3, none⟩, []⟩,
  ⟨⟨some 11, Op.assign (Operand.tmp 32), none⟩, []⟩])))))) (.seq (.reg [⟨⟨some 72, Op.move (Operand.tmp 10), none⟩, []⟩,
  ⟨⟨some 8, Op.assign (Operand.tmp 72), none⟩, []⟩,
  ⟨⟨some 9, Op.assign (Operand.const (Value.bool true)), none⟩, []⟩]) .ret)))))
theorem sl36 : slim Try.f36.ntmps ords36 (Try.f36.body.getD .skip) = some cd36 := by kernel_rfl
theorem in36 {args : List Value} {H : AH} {R : Value → AH → Prop} (hl : args.length = 4) (h : ∀ (Q : Exit → Sl → AH → Prop), (∀ e s H, endA Try.prog [ResultVar.tmp 8, ResultVar.tmp 9] R e s H → Q e s H) → wpC Try.prog cd36 Q (enterA args) H) : ACalls Try.prog 36 args H R :=
  ACalls.intro (by kernel_rfl) Try.func36 rfl (by kernel_rfl) sl36 hl (of_decide_eq_true (by kernel_rfl)) (by kernel_rfl) h

/- loop.example/g01128/impl.pair -/
def ords70 : List (Nat × List (Nat × Bool)) := []
def cd70 : Cd := (.seq (.reg [⟨⟨some 4, Op.alloc 70, none⟩, []⟩]) (.seq (.reg [⟨⟨some 5, Op.move (Operand.tmp 0), none⟩, []⟩,
  ⟨⟨some 6, Op.move (Operand.tmp 1), none⟩, []⟩,
  ⟨⟨some 7, Op.call { callee := (Callee.builtin Builtin.min), args := #[(Operand.tmp 5), (Operand.tmp 6)], argTypes := #[3, 3] }, none⟩, []⟩,
  ⟨⟨some 8, Op.move (Operand.tmp 0), none⟩, []⟩,
  ⟨⟨some 9, Op.move (Operand.tmp 1), none⟩, []⟩,
  ⟨⟨some 10, Op.call { callee := (Callee.builtin Builtin.max), args := #[(Operand.tmp 8), (Operand.tmp 9)], argTypes := #[3, 3] }, none⟩, []⟩,
  ⟨⟨some 11, Op.build 70 #[(0, (Operand.tmp 7)), (1, (Operand.tmp 10))], none⟩, []⟩,
  ⟨⟨none, Op.store 70 (Operand.tmp 4) (Operand.tmp 11), none⟩, []⟩]) .ret))
theorem sl70 : slim Try.f70.ntmps ords70 (Try.f70.body.getD .skip) = some cd70 := by kernel_rfl
set_option maxRecDepth 20000 in
theorem in70 {args : List Value} {H : AH} {R : Value → AH → Prop} (hl : args.length = 2) (h : ∀ (Q : Exit → Sl → AH → Prop), (∀ e s H, endA Try.prog [ResultVar.cell 4 70] R e s H → Q e s H) → wpC Try.prog cd70 Q (enterA args) H) : ACalls Try.prog 70 args H R :=
  ACalls.intro (by kernel_rfl) Try.func70 rfl (by kernel_rfl) sl70 hl (of_decide_eq_true (by kernel_rfl)) (by kernel_rfl) h

/- loop.example/g01128/impl.TurnTriangulation$1 -/
def ords69 : List (Nat × List (Nat × Bool)) := []
def cd69 : Cd := (.seq (.reg [⟨⟨some 5, Op.assign (Operand.const (Value.int IntKind.i64 0)), none⟩, []⟩]) (.seq (.seq (.reg [⟨⟨some 6, Op.load 4 (Operand.tmp 1), none⟩, []⟩]) (.cond (Operand.tmp 6) (.reg [⟨⟨some 7, Op.load 3 (Operand.tmp 2), none⟩, []⟩,
  ⟨⟨some 8, Op.binOp BinOp.sub 3 (Operand.tmp 7) (Operand.const (Value.int IntKind.i64 1)) 3, none⟩, []⟩,
  ⟨⟨some 9, Op.move (Operand.tmp 0), none⟩, []⟩,
  ⟨⟨some 10, Op.binOp BinOp.sub 3 (Operand.tmp 8) (Operand.tmp 9) 3, none⟩, []⟩,
  ⟨⟨some 0, Op.assign (Operand.tmp 10), none⟩, []⟩]) .skip)) (.seq (.reg [⟨⟨some 11, Op.move (Operand.tmp 0), none⟩, []⟩,
  ⟨⟨some 12, Op.load 3 (Operand.tmp 3), none⟩, []⟩,
  ⟨⟨some 13, Op.binOp BinOp.add 3 (Operand.tmp 11) (Operand.tmp 12) 3, none⟩, []⟩,
  ⟨⟨some 14, Op.load 3 (Operand.tmp 2), none⟩, []⟩,
  ⟨⟨some 15, Op.binOp BinOp.rem 3 (Operand.tmp 13) (Operand.tmp 14) 3, none⟩, []⟩,
  ⟨⟨some 5, Op.assign (Operand.tmp 15), none⟩, []⟩]) .ret)))
theorem sl69 : slim Try.f69.ntmps ords69 (Try.f69.body.getD .skip) = some cd69 := by kernel_rfl
theorem in69 {args : List Value} {H : AH} {R : Value → AH → Prop} (hl : args.length = 4) (h : ∀ (Q : Exit → Sl → AH → Prop), (∀ e s H, endA Try.prog [ResultVar.tmp 5] R e s H → Q e s H) → wpC Try.prog cd69 Q (enterA args) H) : ACalls Try.prog 69 args H R :=
  ACalls.intro (by kernel_rfl) Try.func69 rfl (by kernel_rfl) sl69 hl (of_decide_eq_true (by kernel_rfl)) (by kernel_rfl) h

/- loop.example/g01128/impl.TurnTriangulation -/
def ords37 : List (Nat × List (Nat × Bool)) := []
def cd37 : Cd := (.seq (.reg [⟨⟨some 4, Op.box 3 (Operand.tmp 0), none⟩, []⟩,
  ⟨⟨some 6, Op.box 3 (Operand.tmp 2), none⟩, []⟩,
  ⟨⟨some 7, Op.box 4 (Operand.tmp 3), none⟩, []⟩,
  ⟨⟨some 8, Op.assign (Operand.const (Value.slice none 0 0)), none⟩, []⟩,
  ⟨⟨some 9, Op.assign (Operand.const (Value.bool false)), none⟩, []⟩]) (.seq (.seq (.reg [⟨⟨some 15, Op.load 3 (Operand.tmp 4), none⟩, []⟩,
  ⟨⟨some 16, Op.move (Operand.tmp 1), none⟩, []⟩,
  ⟨⟨some 17, Op.buildSlice 35 1 #[(0, (Operand.tmp 16))], none⟩, []⟩,
  ⟨⟨some 18, Op.call { callee := (Callee.value (Operand.func 57)), args := #[(Operand.tmp 15), (Operand.tmp 17)], argTypes := #[3, 35] }, none⟩, []⟩,
  ⟨⟨some 19, Op.unOp UnOp.not 4 (Operand.tmp 18), none⟩, []⟩,
  ⟨⟨some 20, Op.move (Operand.tmp 19), none⟩, []⟩,
  ⟨⟨some 21, Op.load 3 (Operand.tmp 6), some (20, false)⟩, []⟩,
  ⟨⟨some 22, Op.load 3 (Operand.tmp 4), some (20, false)⟩, []⟩,
  ⟨⟨some 23, Op.binOp BinOp.sub 3 (Operand.tmp 22) (Operand.const (Value.int IntKind.i64 1)) 3, some (20, false)⟩, []⟩,
  ⟨⟨some 24, Op.call { callee := (Callee.value (Operand.func 68)), args := #[(Operand.tmp 21), (Operand.const (Value.int IntKind.i64 0)), (Operand.tmp 23)], argTypes := #[3, 3, 3] }, some (20, false)⟩, []⟩,
  ⟨⟨some 25, Op.unOp UnOp.not 4 (Operand.tmp 24), some (20, false)⟩, []⟩,
  ⟨⟨some 26, Op.pick (Operand.tmp 20) (Operand.const (Value.bool true)) (Operand.tmp 25), none⟩, []⟩]) (.cond (Operand.tmp 26) (.seq (.reg [⟨⟨some 8, Op.assign (Operand.const (Value.slice none 0 0)), none⟩, []⟩,
  ⟨⟨some 9, Op.assign (Operand.const (Value.bool false)), none⟩, []⟩]) .ret) .skip)) (.seq (.reg [⟨⟨some 27, Op.makeFunc (Fn.func 69) #[] #[(Operand.tmp 7), (Operand.tmp 4), (Operand.tmp 6)], none⟩, []⟩,
  ⟨⟨some 10, Op.assign (Operand.tmp 27), none⟩, []⟩]) (.seq (.reg [⟨⟨some 28, Op.buildSlice 22 0 #[], none⟩, []⟩,
  ⟨⟨some 11, Op.assign (Operand.tmp 28), none⟩, []⟩]) (.seq (.seq (.reg [⟨⟨some 29, Op.move (Operand.tmp 1), none⟩, []⟩,
  ⟨⟨some 30, Op.call { callee := (Callee.builtin Builtin.len), args := #[(Operand.tmp 29)], argTypes := #[22] }, none⟩, []⟩,
  ⟨⟨some 31, Op.move (Operand.const (Value.int IntKind.i64 0)), none⟩, []⟩]) (.block 0 (.loop (.seq (.reg [⟨⟨some 32, Op.binOp BinOp.lss 3 (Operand.tmp 31) (Operand.tmp 30) 3, none⟩, []⟩]) (.seq (.cond (Operand.tmp 32) .skip (.exit 0)) (.seq (.block 1 (.seq (.reg [⟨⟨some 33, Op.indexAddr 22 (Operand.tmp 29) (Operand.tmp 31), none⟩, []⟩,
  ⟨⟨some 34, Op.load 3 (Operand.tmp 33), none⟩, []⟩,
  ⟨⟨some 13, Op.assign (Operand.tmp 34), none⟩, []⟩]) (.seq (.reg [⟨⟨some 35, Op.move (Operand.tmp 10), none⟩, []⟩,
  ⟨⟨some 36, Op.move (Operand.tmp 13), none⟩, []⟩,
  ⟨⟨some 37, Op.binOp BinOp.quo 3 (Operand.tmp 36) (Operand.const (Value.int IntKind.i64 10)) 3, none⟩, []⟩,
  ⟨⟨some 38, Op.call { callee := (Callee.value (Operand.tmp 35)), args := #[(Operand.tmp 37)], argTypes := #[3] }, none⟩, []⟩,
  ⟨⟨some 39, Op.move (Operand.tmp 10), none⟩, []⟩,
  ⟨⟨some 40, Op.move (Operand.tmp 13), none⟩, []⟩,
  ⟨⟨some 41, Op.binOp BinOp.rem 3 (Operand.tmp 40) (Operand.const (Value.int IntKind.i64 10)) 3, none⟩, []⟩,
  ⟨⟨some 42, Op.call { callee := (Callee.value (Operand.tmp 39)), args := #[(Operand.tmp 41)], argTypes := #[3] }, none⟩, []⟩,
  ⟨⟨some 43, Op.call { callee := (Callee.value (Operand.func 70)), args := #[(Operand.tmp 38), (Operand.tmp 42)], argTypes := #[3, 3] }, none⟩, []⟩,
  ⟨⟨some 14, Op.alloc 70, none⟩, []⟩,
  ⟨⟨none, Op.store 70 (Operand.tmp 14) (Operand.tmp 43), none⟩, []⟩]) (.reg [⟨⟨some 44, Op.move (Operand.tmp 11), none⟩, []⟩,
  ⟨⟨some 45, Op.indexAddr 70 (Operand.tmp 14) (Operand.const (Value.int IntKind.i64 0)), none⟩, []⟩,
  ⟨⟨some 46, Op.load 3 (Operand.tmp 45), none⟩, []⟩,
  ⟨⟨some 47, Op.binOp BinOp.mul 3 (Operand.const (Value.int IntKind.i64 10)) (Operand.tmp 46) 3, none⟩, []⟩,
  ⟨⟨some 48, Op.indexAddr 70 (Operand.tmp 14) (Operand.const (Value.int IntKind.i64 1)), none⟩, []⟩,
  ⟨⟨some 49, Op.load 3 (Operand.tmp 48), none⟩, []⟩,
  ⟨⟨some 50, Op.binOp BinOp.add 3 (Operand.tmp 47) (Operand.tmp 49) 3, none⟩, []⟩,
  ⟨⟨some 51, Op.buildSlice 22 1 #[(0, (Operand.tmp 50))], none⟩, []⟩,
  ⟨⟨some 52, Op.call { callee := (Callee.builtin Builtin.append), args := #[(Operand.tmp 44), (Operand.tmp 51)], argTypes := #[22, 22] }, none⟩, []⟩,
  ⟨⟨some 11, Op.assign (Operand.tmp 52), none⟩, []⟩])))) (.reg [⟨⟨some 53, Op.binOp BinOp.add 3 (Operand.tmp 31) (Operand.const (Value.int IntKind.i64 1)) 3, none⟩, []⟩,
  ⟨⟨some 31, Op.move (Operand.tmp 53), none⟩, []⟩]))))))) (.seq (.reg [⟨⟨some 54, Op.move (Operand.tmp 11), none⟩, []⟩,
  ⟨⟨some 55, Op.call { callee := (Callee.value (Operand.func 71)), args := #[(Operand.tmp 54)], argTypes := #[22] }, none⟩, []⟩]) (.seq (.reg [⟨⟨some 56, Op.move (Operand.tmp 11), none⟩, []⟩,
  ⟨⟨some 8, Op.assign (Operand.tmp 56), none⟩, []⟩,
  ⟨⟨some 9, Op.assign (Operand.const (Value.bool true)), none⟩, []⟩]) .ret)))))))
theorem sl37 : slim Try.f37.ntmps ords37 (Try.f37.body.getD .skip) = some cd37 := by kernel_rfl
theorem in37 {args : List Value} {H : AH} {R : Value → AH → Prop} (hl : args.length = 4) (h : ∀ (Q : Exit → Sl → AH → Prop), (∀ e s H, endA Try.prog [ResultVar.tmp 8, ResultVar.tmp 9] R e s H → Q e s H) → wpC Try.prog cd37 Q (enterA args) H) : ACalls Try.prog 37 args H R :=
  ACalls.intro (by kernel_rfl) Try.func37 rfl (by kernel_rfl) sl37 hl (of_decide_eq_true (by kernel_rfl)) (by kernel_rfl) h
end Go.Proofs.Ytnoihoeaconllaa.Ai
