/- Slim code of this translation. By the kernel. -/
import Derived.Test.YtahakecifgjcnaaProg
import Derived.Test.YtahakecifgjcnaaAiM2
import Derived.KernelRfl
namespace Go.Proofs.Ytahakecifgjcnaa.Ai
open Go

/- loop.example/g01128/spec.l8Cross -/
def ords118 : List (Nat × List (Nat × Bool)) := []
def cd118 : Cd := (.seq (.reg [⟨⟨some 4, Op.assign (Operand.const (Value.bool false)), none⟩, []⟩]) (.seq (.reg [⟨⟨some 9, Op.move (Operand.tmp 0), none⟩, []⟩,
  ⟨⟨some 10, Op.binOp BinOp.quo 3 (Operand.tmp 9) (Operand.const (Value.int IntKind.i64 10)) 3, none⟩, []⟩,
  ⟨⟨some 11, Op.move (Operand.tmp 0), none⟩, []⟩,
  ⟨⟨some 12, Op.binOp BinOp.rem 3 (Operand.tmp 11) (Operand.const (Value.int IntKind.i64 10)) 3, none⟩, []⟩,
  ⟨⟨some 13, Op.move (Operand.tmp 1), none⟩, []⟩,
  ⟨⟨some 14, Op.binOp BinOp.quo 3 (Operand.tmp 13) (Operand.const (Value.int IntKind.i64 10)) 3, none⟩, []⟩,
  ⟨⟨some 15, Op.move (Operand.tmp 1), none⟩, []⟩,
  ⟨⟨some 16, Op.binOp BinOp.rem 3 (Operand.tmp 15) (Operand.const (Value.int IntKind.i64 10)) 3, none⟩, []⟩,
  ⟨⟨some 5, Op.assign (Operand.tmp 10), none⟩, []⟩,
  ⟨⟨some 6, Op.assign (Operand.tmp 12), none⟩, []⟩,
  ⟨⟨some 7, Op.assign (Operand.tmp 14), none⟩, []⟩,
  ⟨⟨some 8, Op.assign (Operand.tmp 16), none⟩, []⟩]) (.seq (.reg [⟨⟨some 17, Op.move (Operand.tmp 5), none⟩, []⟩,
  ⟨⟨some 18, Op.move (Operand.tmp 7), none⟩, []⟩,
  ⟨⟨some 19, Op.binOp BinOp.lss 3 (Operand.tmp 17) (Operand.tmp 18) 3, none⟩, []⟩,
  ⟨⟨some 20, Op.move (Operand.tmp 19), none⟩, []⟩,
  ⟨⟨some 21, Op.move (Operand.tmp 7), some (20, true)⟩, []⟩,
  ⟨⟨some 22, Op.move (Operand.tmp 6), some (20, true)⟩, []⟩,
  ⟨⟨some 23, Op.binOp BinOp.lss 3 (Operand.tmp 21) (Operand.tmp 22) 3, some (20, true)⟩, []⟩,
  ⟨⟨some 24, Op.pick (Operand.tmp 20) (Operand.tmp 23) (Operand.const (Value.bool false)), none⟩, []⟩,
  ⟨⟨some 25, Op.move (Operand.tmp 24), none⟩, []⟩,
  ⟨⟨some 26, Op.move (Operand.tmp 6), some (25, true)⟩, []⟩,
  ⟨⟨some 27, Op.move (Operand.tmp 8), some (25, true)⟩, []⟩,
  ⟨⟨some 28, Op.binOp BinOp.lss 3 (Operand.tmp 26) (Operand.tmp 27) 3, some (25, true)⟩, []⟩,
  ⟨⟨some 29, Op.pick (Operand.tmp 25) (Operand.tmp 28) (Operand.const (Value.bool false)), none⟩, []⟩,
  ⟨⟨some 30, Op.move (Operand.tmp 29), none⟩, []⟩,
  ⟨⟨some 31, Op.move (Operand.tmp 7), some (30, false)⟩, []⟩,
  ⟨⟨some 32, Op.move (Operand.tmp 5), some (30, false)⟩, []⟩,
  ⟨⟨some 33, Op.binOp BinOp.lss 3 (Operand.tmp 31) (Operand.tmp 32) 3, some (30, false)⟩, []⟩,
  ⟨⟨some 34, Op.move (Operand.tmp 33), some (30, false)⟩, []⟩,
  ⟨⟨some 35, Op.move (Operand.tmp 5), some (34, true)⟩, []⟩,
  ⟨⟨some 36, Op.move (Operand.tmp 8), some (34, true)⟩, []⟩,
  ⟨⟨some 37, Op.binOp BinOp.lss 3 (Operand.tmp 35) (Operand.tmp 36) 3, some (34, true)⟩, []⟩,
  ⟨⟨some 38, Op.pick (Operand.tmp 34) (Operand.tmp 37) (Operand.const (Value.bool false)), some (30, false)⟩, []⟩,
  ⟨⟨some 39, Op.move (Operand.tmp 38), some (30, false)⟩, []⟩,
  ⟨⟨some 40, Op.move (Operand.tmp 8), some (39, true)⟩, []⟩,
  ⟨⟨some 41, Op.move (Operand.tmp 6), some (39, true)⟩, []⟩,
  ⟨⟨some 42, Op.binOp BinOp.lss 3 (Operand.tmp 40) (Operand.tmp 41) 3, some (39, true)⟩, []⟩,
  ⟨⟨some 43, Op.pick (Operand.tmp 39) (Operand.tmp 42) (Operand.const (Value.bool false)), some (30, false)⟩, []⟩,
  ⟨⟨some 44, Op.pick (Operand.tmp 30) (Operand.const (Value.bool true)) (Operand.tmp 43), none⟩, []⟩,
  ⟨⟨some 4, Op.assign (Operand.tmp 44), none⟩, []⟩]) .ret)))
theorem sl118 : slim Try.f118.ntmps ords118 (Try.f118.body.getD .skip) = some cd118 := by kernel_rfl
theorem in118 {args : List Value} {H : AH} {R : Value → AH → Prop} (hl : args.length = 2) (h : ∀ (Q : Exit → Sl → AH → Prop), (∀ e s H, endA Try.prog [ResultVar.tmp 4] R e s H → Q e s H) → wpC Try.prog cd118 Q (enterA args) H) : ACalls Try.prog 118 args H R :=
  ACalls.intro (by kernel_rfl) Try.func118 rfl (by kernel_rfl) sl118 hl (of_decide_eq_true (by kernel_rfl)) (by kernel_rfl) h

/- loop.example/g01128/impl.cross -/
def ords127 : List (Nat × List (Nat × Bool)) := []
def cd127 : Cd := (.seq (.reg [⟨⟨some 4, Op.assign (Operand.const (Value.bool false)), none⟩, []⟩]) (.seq (.reg [⟨⟨some 9, Op.move (Operand.tmp 0), none⟩, []⟩,
  ⟨⟨some 10, Op.binOp BinOp.quo 3 (Operand.tmp 9) (Operand.const (Value.int IntKind.i64 10)) 3, none⟩, []⟩,
  ⟨⟨some 11, Op.move (Operand.tmp 0), none⟩, []⟩,
  ⟨⟨some 12, Op.binOp BinOp.rem 3 (Operand.tmp 11) (Operand.const (Value.int IntKind.i64 10)) 3, none⟩, []⟩,
  ⟨⟨some 13, Op.move (Operand.tmp 1), none⟩, []⟩,
  ⟨⟨some 14, Op.binOp BinOp.quo 3 (Operand.tmp 13) (Operand.const (Value.int IntKind.i64 10)) 3, none⟩, []⟩,
  ⟨⟨some 15, Op.move (Operand.tmp 1), none⟩, []⟩,
  ⟨⟨some 16, Op.binOp BinOp.rem 3 (Operand.tmp 15) (Operand.const (Value.int IntKind.i64 10)) 3, none⟩, []⟩,
  ⟨⟨some 5, Op.assign (Operand.tmp 10), none⟩, []⟩,
  ⟨⟨some 6, Op.assign (Operand.tmp 12), none⟩, []⟩,
  ⟨⟨some 7, Op.assign (Operand.tmp 14), none⟩, []⟩,
  ⟨⟨some 8, Op.assign (Operand.tmp 16), none⟩, []⟩]) (.seq (.reg [⟨⟨some 17, Op.move (Operand.tmp 5), none⟩, []⟩,
  ⟨⟨some 18, Op.move (Operand.tmp 7), none⟩, []⟩,
  ⟨⟨some 19, Op.binOp BinOp.lss 3 (Operand.tmp 17) (Operand.tmp 18) 3, none⟩, []⟩,
  ⟨⟨some 20, Op.move (Operand.tmp 19), none⟩, []⟩,
  ⟨⟨some 21, Op.move (Operand.tmp 7), some (20, true)⟩, []⟩,
  ⟨⟨some 22, Op.move (Operand.tmp 6), some (20, true)⟩, []⟩,
  ⟨⟨some 23, Op.binOp BinOp.lss 3 (Operand.tmp 21) (Operand.tmp 22) 3, some (20, true)⟩, []⟩,
  ⟨⟨some 24, Op.pick (Operand.tmp 20) (Operand.tmp 23) (Operand.const (Value.bool false)), none⟩, []⟩,
  ⟨⟨some 25, Op.move (Operand.tmp 24), none⟩, []⟩,
  ⟨⟨some 26, Op.move (Operand.tmp 6), some (25, true)⟩, []⟩,
  ⟨⟨some 27, Op.move (Operand.tmp 8), some (25, true)⟩, []⟩,
  ⟨⟨some 28, Op.binOp BinOp.lss 3 (Operand.tmp 26) (Operand.tmp 27) 3, some (25, true)⟩, []⟩,
  ⟨⟨some 29, Op.pick (Operand.tmp 25) (Operand.tmp 28) (Operand.const (Value.bool false)), none⟩, []⟩,
  ⟨⟨some 30, Op.move (Operand.tmp 29), none⟩, []⟩,
  ⟨⟨some 31, Op.move (Operand.tmp 7), some (30, false)⟩, []⟩,
  ⟨⟨some 32, Op.move (Operand.tmp 5), some (30, false)⟩, []⟩,
  ⟨⟨some 33, Op.binOp BinOp.lss 3 (Operand.tmp 31) (Operand.tmp 32) 3, some (30, false)⟩, []⟩,
  ⟨⟨some 34, Op.move (Operand.tmp 33), some (30, false)⟩, []⟩,
  ⟨⟨some 35, Op.move (Operand.tmp 5), some (34, true)⟩, []⟩,
  ⟨⟨some 36, Op.move (Operand.tmp 8), some (34, true)⟩, []⟩,
  ⟨⟨some 37, Op.binOp BinOp.lss 3 (Operand.tmp 35) (Operand.tmp 36) 3, some (34, true)⟩, []⟩,
  ⟨⟨some 38, Op.pick (Operand.tmp 34) (Operand.tmp 37) (Operand.const (Value.bool false)), some (30, false)⟩, []⟩,
  ⟨⟨some 39, Op.move (Operand.tmp 38), some (30, false)⟩, []⟩,
  ⟨⟨some 40, Op.move (Operand.tmp 8), some (39, true)⟩, []⟩,
  ⟨⟨some 41, Op.move (Operand.tmp 6), some (39, true)⟩, []⟩,
  ⟨⟨some 42, Op.binOp BinOp.lss 3 (Operand.tmp 40) (Operand.tmp 41) 3, some (39, true)⟩, []⟩,
  ⟨⟨some 43, Op.pick (Operand.tmp 39) (Operand.tmp 42) (Operand.const (Value.bool false)), some (30, false)⟩, []⟩,
  ⟨⟨some 44, Op.pick (Operand.tmp 30) (Operand.const (Value.bool true)) (Operand.tmp 43), none⟩, []⟩,
  ⟨⟨some 4, Op.assign (Operand.tmp 44), none⟩, []⟩]) .ret)))
theorem sl127 : slim Try.f127.ntmps ords127 (Try.f127.body.getD .skip) = some cd127 := by kernel_rfl
theorem in127 {args : List Value} {H : AH} {R : Value → AH → Prop} (hl : args.length = 2) (h : ∀ (Q : Exit → Sl → AH → Prop), (∀ e s H, endA Try.prog [ResultVar.tmp 4] R e s H → Q e s H) → wpC Try.prog cd127 Q (enterA args) H) : ACalls Try.prog 127 args H R :=
  ACalls.intro (by kernel_rfl) Try.func127 rfl (by kernel_rfl) sl127 hl (of_decide_eq_true (by kernel_rfl)) (by kernel_rfl) h

/- slices.IndexFunc[[]int,int] -/
def ords162 : List (Nat × List (Nat × Bool)) := []
def cd162 : Cd := (.seq (.reg [⟨⟨some 4, Op.assign (Operand.const (Value.int IntKind.i64 0)), none⟩, []⟩]) (.seq (.seq (.reg [⟨⟨some 6, Op.move (Operand.tmp 0), none⟩, []⟩,
  ⟨⟨some 7, Op.call { callee := (Callee.builtin Builtin.len), args := #[(Operand.tmp 6)], argTypes := #[22] }, none⟩, []⟩,
  ⟨⟨some 8, Op.move (Operand.const (Value.int IntKind.i64 0)), none⟩, []⟩]) (.block 0 (.loop (.seq (.reg [⟨⟨some 9, Op.binOp BinOp.lss 3 (Operand.tmp 8) (Operand.tmp 7) 3, none⟩, []⟩]) (.seq (.cond (Operand.tmp 9) .skip (.exit 0)) (.seq (.block 1 (.seq (.reg [⟨⟨some 10, Op.move (Operand.tmp 8), none⟩, []⟩,
  ⟨⟨some 5, Op.assign (Operand.tmp 10), none⟩, []⟩]) (.seq (.reg [⟨⟨some 11, Op.move (Operand.tmp 1), none⟩, []⟩,
  ⟨⟨some 12, Op.move (Operand.tmp 0), none⟩, []⟩,
  ⟨⟨some 13, Op.move (Operand.tmp 5), none⟩, []⟩,
  ⟨⟨some 14, Op.indexAddr 22 (Operand.tmp 12) (Operand.tmp 13), none⟩, []⟩,
  ⟨⟨some 15, Op.load 3 (Operand.tmp 14), none⟩, []⟩,
  ⟨⟨some 16, Op.call { callee := (Callee.value (Operand.tmp 11)), args := #[(Operand.tmp 15)], argTypes := #[3] }, none⟩, []⟩]) (.cond (Operand.tmp 16) (.seq (.reg [⟨⟨some 17, Op.move (Operand.tmp 5), none⟩, []⟩,
  ⟨⟨some 4, Op.assign (Operand.tmp 17), none⟩, []⟩]) .ret) .skip)))) (.reg [⟨⟨some 18, Op.binOp BinOp.add 3 (Operand.tmp 8) (Operand.const (Value.int IntKind.i64 1)) 3, none⟩, []⟩,
  ⟨⟨some 8, Op.move (Operand.tmp 18), none⟩, []⟩]))))))) (.seq (.reg [⟨⟨some 4, Op.assign (Operand.const (Value.int IntKind.i64 (-1))), none⟩, []⟩]) .ret)))
theorem sl162 : slim Try.f162.ntmps ords162 (Try.f162.body.getD .skip) = some cd162 := by kernel_rfl
theorem in162 {args : List Value} {H : AH} {R : Value → AH → Prop} (hl : args.length = 2) (h : ∀ (Q : Exit → Sl → AH → Prop), (∀ e s H, endA Try.prog [ResultVar.tmp 4] R e s H → Q e s H) → wpC Try.prog cd162 Q (enterA args) H) : ACalls Try.prog 162 args H R :=
  ACalls.intro (by kernel_rfl) Try.func162 rfl (by kernel_rfl) sl162 hl (of_decide_eq_true (by kernel_rfl)) (by kernel_rfl) h

/- slices.ContainsFunc[[]int,int] -/
def ords125 : List (Nat × List (Nat × Bool)) := []
def cd125 : Cd := (.seq (.reg [⟨⟨some 4, Op.assign (Operand.const (Value.bool false)), none⟩, []⟩]) (.seq (.reg [⟨⟨some 5, Op.move (Operand.tmp 0), none⟩, []⟩,
  ⟨⟨some 6, Op.move (Operand.tmp 1), none⟩, []⟩,
  ⟨⟨some 7, Op.call { callee := (Callee.value (Operand.func 162)), args := #[(Operand.tmp 5), (Operand.tmp 6)], argTypes := #[22, 54] }, none⟩, []⟩,
  ⟨⟨some 8, Op.binOp BinOp.geq 3 (Operand.tmp 7) (Operand.const (Value.int IntKind.i64 0)) 3, none⟩, []⟩,
  ⟨⟨some 4, Op.assign (Operand.tmp 8), none⟩, []⟩]) .ret))
theorem sl125 : slim Try.f125.ntmps ords125 (Try.f125.body.getD .skip) = some cd125 := by kernel_rfl
theorem in125 {args : List Value} {H : AH} {R : Value → AH → Prop} (hl : args.length = 2) (h : ∀ (Q : Exit → Sl → AH → Prop), (∀ e s H, endA Try.prog [ResultVar.tmp 4] R e s H → Q e s H) → wpC Try.prog cd125 Q (enterA args) H) : ACalls Try.prog 125 args H R :=
  ACalls.intro (by kernel_rfl) Try.func125 rfl (by kernel_rfl) sl125 hl (of_decide_eq_true (by kernel_rfl)) (by kernel_rfl) h

/- loop.example/g01128/spec.l8Apart -/
def ords69 : List (Nat × List (Nat × Bool)) := []
def cd69 : Cd := (.seq (.reg [⟨⟨some 4, Op.assign (Operand.const (Value.bool false)), none⟩, []⟩]) (.seq (.seq (.reg [⟨⟨some 5, Op.assign (Operand.const (Value.int IntKind.i64 0)), none⟩, []⟩]) (.block 0 (.loop (.seq (.seq (.reg [⟨⟨some 6, Op.move (Operand.tmp 5), none⟩, []⟩,
  ⟨⟨some 7, Op.move (Operand.tmp 0), none⟩, []⟩,
  ⟨⟨some 8, Op.call { callee := (Callee.builtin Builtin.len), args := #[(Operand.tmp 7)], argTypes := #[22] }, none⟩, []⟩,
  ⟨⟨some 9, Op.binOp BinOp.lss 3 (Operand.tmp 6) (Operand.tmp 8) 3, none⟩, []⟩]) (.cond (Operand.tmp 9) .skip (.exit 0))) (.seq (.block 1 (.seq (.reg [⟨⟨some 12, Op.move (Operand.tmp 0), none⟩, []⟩,
  ⟨⟨some 13, Op.move (Operand.tmp 5), none⟩, []⟩,
  ⟨⟨some 14, Op.indexAddr 22 (Operand.tmp 12) (Operand.tmp 13), none⟩, []⟩,
  ⟨⟨some 15, Op.load 3 (Operand.tmp 14), none⟩, []⟩,
  ⟨⟨some 16, Op.move (Operand.tmp 1), none⟩, []⟩,
  ⟨⟨some 17, Op.call { callee := (Callee.value (Operand.func 118)), args := #[(Operand.tmp 15), (Operand.tmp 16)], argTypes := #[3, 3] }, none⟩, []⟩]) (.cond (Operand.tmp 17) (.seq (.reg [⟨⟨some 4, Op.assign (Operand.const (Value.bool false)), none⟩, []⟩]) .ret) .skip))) (.reg [⟨⟨some 10, Op.move (Operand.tmp 5), none⟩, []⟩,
  ⟨⟨some 11, Op.binOp BinOp.add 3 (Operand.tmp 10) (Operand.const (Value.int IntKind.i64 1)) 3, none⟩, []⟩,
  ⟨⟨some 5, Op.assign (Operand.tmp 11), none⟩, []⟩])))))) (.seq (.reg [⟨⟨some 4, Op.assign (Operand.const (Value.bool true)), none⟩, []⟩]) .ret)))
theorem sl69 : slim Try.f69.ntmps ords69 (Try.f69.body.getD .skip) = some cd69 := by kernel_rfl
theorem in69 {args : List Value} {H : AH} {R : Value → AH → Prop} (hl : args.length = 2) (h : ∀ (Q : Exit → Sl → AH → Prop), (∀ e s H, endA Try.prog [ResultVar.tmp 4] R e s H → Q e s H) → wpC Try.prog cd69 Q (enterA args) H) : ACalls Try.prog 69 args H R :=
  ACalls.intro (by kernel_rfl) Try.func69 rfl (by kernel_rfl) sl69 hl (of_decide_eq_true (by kernel_rfl)) (by kernel_rfl) h

/- loop.example/g01128/impl.isDiagonal -/
def ords121 : List (Nat × List (Nat × Bool)) := []
def cd121 : Cd := (.seq (.reg [⟨⟨some 4, Op.assign (Operand.const (Value.bool false)), none⟩, []⟩]) (.seq (.reg [⟨⟨some 7, Op.move (Operand.tmp 1), none⟩, []⟩,
  ⟨⟨some 8, Op.binOp BinOp.quo 3 (Operand.tmp 7) (Operand.const (Value.int IntKind.i64 10)) 3, none⟩, []⟩,
  ⟨⟨some 9, Op.move (Operand.tmp 1), none⟩, []⟩,
  ⟨⟨some 10, Op.binOp BinOp.rem 3 (Operand.tmp 9) (Operand.const (Value.int IntKind.i64 10)) 3, none⟩, []⟩,
  ⟨⟨some 5, Op.assign (Operand.tmp 8), none⟩, []⟩,
  ⟨⟨some 6, Op.assign (Operand.tmp 10), none⟩, []⟩]) (.seq (.reg [⟨⟨some 11, Op.move (Operand.tmp 1), none⟩, []⟩,
  ⟨⟨some 12, Op.binOp BinOp.geq 3 (Operand.tmp 11) (Operand.const (Value.int IntKind.i64 0)) 3, none⟩, []⟩,
  ⟨⟨some 13, Op.move (Operand.tmp 12), none⟩, []⟩,
  ⟨⟨some 14, Op.move (Operand.tmp 6), some (13, true)⟩, []⟩,
  ⟨⟨some 15, Op.move (Operand.tmp 0), some (13, true)⟩, []⟩,
  ⟨⟨some 16, Op.binOp BinOp.lss 3 (Operand.tmp 14) (Operand.tmp 15) 3, some (13, true)⟩, []⟩,
  ⟨⟨some 17, Op.pick (Operand.tmp 13) (Operand.tmp 16) (Operand.const (Value.bool false)), none⟩, []⟩,
  ⟨⟨some 18, Op.move (Operand.tmp 17), none⟩, []⟩,
  ⟨⟨some 19, Op.move (Operand.tmp 6), some (18, true)⟩, []⟩,
  ⟨⟨some 20, Op.move (Operand.tmp 5), some (18, true)⟩, []⟩,
  ⟨⟨some 21, Op.binOp BinOp.sub 3 (Operand.tmp 19) (Operand.tmp 20) 3, some (18, true)⟩, []⟩,
  ⟨⟨some 22, Op.binOp BinOp.gtr 3 (Operand.tmp 21) (Operand.const (Value.int IntKind.i64 1)) 3, some (18, true)⟩, []⟩,
  ⟨⟨some 23, Op.pick (Operand.tmp 18) (Operand.tmp 22) (Operand.const (Value.bool false)), none⟩, []⟩,
  ⟨⟨some 24, Op.move (Operand.tmp 23), none⟩, []⟩,
  ⟨⟨some 25, Op.move (Operand.tmp 5), some (24, true)⟩, []⟩,
  ⟨⟨some 26, Op.binOp BinOp.eql 3 (Operand.tmp 25) (Operand.const (Value.int IntKind.i64 0)) 3, some (24, true)⟩, []⟩,
  ⟨⟨some 27, Op.move (Operand.tmp 26), some (24, true)⟩, []⟩,
  ⟨⟨some 28, Op.move (Operand.tmp 6), some (27, true)⟩, []⟩,
  ⟨⟨some 29, Op.move (Operand.tmp 0), some (27, true)⟩, []⟩,
  ⟨⟨some 30, Op.binOp BinOp.sub 3 (Operand.tmp 29) (Operand.const (Value.int IntKind.i64 1)) 3, some (27, true)⟩, []⟩,
  ⟨⟨some 31, Op.binOp BinOp.eql 3 (Operand.tmp 28) (Operand.tmp 30) 3, some (27, true)⟩, []⟩,
  ⟨⟨some 32, Op.pick (Operand.tmp 27) (Operand.tmp 31) (Operand.const (Value.bool false)), some (24, true)⟩, []⟩,
  ⟨⟨some 33, Op.unOp UnOp.not 4 (Operand.tmp 32), some (24, true)⟩, []⟩,
  ⟨⟨some 34, Op.pick (Operand.tmp 24) (Operand.tmp 33) (Operand.const (Value.bool false)), none⟩, []⟩,
  ⟨⟨some 4, Op.assign (Operand.tmp 34), none⟩, []⟩]) .ret)))
theorem sl121 : slim Try.f121.ntmps ords121 (Try.f121.body.getD .skip) = some cd121 := by kernel_rfl
theorem in121 {args : List Value} {H : AH} {R : Value → AH → Prop} (hl : args.length = 2) (h : ∀ (Q : Exit → Sl → AH → Prop), (∀ e s H, endA Try.prog [ResultVar.tmp 4] R e s H → Q e s H) → wpC Try.prog cd121 Q (enterA args) H) : ACalls Try.prog 121 args H R :=
  ACalls.intro (by kernel_rfl) Try.func121 rfl (by kernel_rfl) sl121 hl (of_decide_eq_true (by kernel_rfl)) (by kernel_rfl) h
end Go.Proofs.Ytahakecifgjcnaa.Ai
