/- Slim code of this translation. By the kernel. -/
import Derived.Test.YtahakecifgjcnaaProg
import Derived.Test.YtahakecifgjcnaaAiM2
import Derived.KernelRfl
namespace Go.Proofs.Ytahakecifgjcnaa.Ai
open Go

/- cmp.isNaN[int] -/
def ords192 : List (Nat × List (Nat × Bool)) := []
def cd192 : Cd := (.seq (.reg [⟨⟨some 2, Op.assign (Operand.const (Value.bool false)), none⟩, []⟩]) (.seq (.reg [⟨⟨some 3, Op.move (Operand.tmp 0), none⟩, []⟩,
  ⟨⟨some 4, Op.move (Operand.tmp 0), none⟩, []⟩,
  ⟨⟨some 5, Op.binOp BinOp.neq 3 (Operand.tmp 3) (Operand.tmp 4) 3, none⟩, []⟩,
  ⟨⟨some 2, Op.assign (Operand.tmp 5), none⟩, []⟩]) .ret))
theorem sl192 : slim Try.f192.ntmps ords192 (Try.f192.body.getD .skip) = some cd192 := by kernel_rfl
theorem in192 {args : List Value} {H : AH} {R : Value → AH → Prop} (hl : args.length = 1) (h : ∀ (Q : Exit → Sl → AH → Prop), (∀ e s H, endA Try.prog [ResultVar.tmp 2] R e s H → Q e s H) → wpC Try.prog cd192 Q (enterA args) H) : ACalls Try.prog 192 args H R :=
  ACalls.intro (by kernel_rfl) Try.func192 rfl (by kernel_rfl) sl192 hl (of_decide_eq_true (by kernel_rfl)) (by kernel_rfl) h

/- cmp.Less[int] -/
def ords178 : List (Nat × List (Nat × Bool)) := []
def cd178 : Cd := (.seq (.reg [⟨⟨some 4, Op.assign (Operand.const (Value.bool false)), none⟩, []⟩]) (.seq (.reg [⟨⟨some 5, Op.move (Operand.tmp 0), none⟩, []⟩,
  ⟨⟨some 6, Op.call { callee := (Callee.value (Operand.func 192)), args := #[(Operand.tmp 5)], argTypes := #[3] }, none⟩, []⟩,
  ⟨⟨some 7, Op.move (Operand.tmp 6), none⟩, []⟩,
  ⟨⟨some 8, Op.move (Operand.tmp 1), some (7, true)⟩, []⟩,
  ⟨⟨some 9, Op.call { callee := (Callee.value (Operand.func 192)), args := #[(Operand.tmp 8)], argTypes := #[3] }, some (7, true)⟩, []⟩,
  ⟨⟨some 10, Op.unOp UnOp.not 4 (Operand.tmp 9), some (7, true)⟩, []⟩,
  ⟨⟨some 11, Op.pick (Operand.tmp 7) (Operand.tmp 10) (Operand.const (Value.bool false)), none⟩, []⟩,
  ⟨⟨some 12, Op.move (Operand.tmp 11), none⟩, []⟩,
  ⟨⟨some 13, Op.move (Operand.tmp 0), some (12, false)⟩, []⟩,
  ⟨⟨some 14, Op.move (Operand.tmp 1), some (12, false)⟩, []⟩,
  ⟨⟨some 15, Op.binOp BinOp.lss 3 (Operand.tmp 13) (Operand.tmp 14) 3, some (12, false)⟩, []⟩,
  ⟨⟨some 16, Op.pick (Operand.tmp 12) (Operand.const (Value.bool true)) (Operand.tmp 15), none⟩, []⟩,
  ⟨⟨some 4, Op.assign (Operand.tmp 16), none⟩, []⟩]) .ret))
theorem sl178 : slim Try.f178.ntmps ords178 (Try.f178.body.getD .skip) = some cd178 := by kernel_rfl
theorem in178 {args : List Value} {H : AH} {R : Value → AH → Prop} (hl : args.length = 2) (h : ∀ (Q : Exit → Sl → AH → Prop), (∀ e s H, endA Try.prog [ResultVar.tmp 4] R e s H → Q e s H) → wpC Try.prog cd178 Q (enterA args) H) : ACalls Try.prog 178 args H R :=
  ACalls.intro (by kernel_rfl) Try.func178 rfl (by kernel_rfl) sl178 hl (of_decide_eq_true (by kernel_rfl)) (by kernel_rfl) h

/- slices.insertionSortOrdered[int] -/
def ords172 : List (Nat × List (Nat × Bool)) := [(4, [(0, false), (1, false), (2, false), (3, false), (4, false), (5, false), (6, false), (7, false), (8, false), (9, false), (10, false), (11, false), (12, false), (13, true), (14, false)]), (6, [(0, false), (1, false), (2, false), (3, false), (4, false), (5, false), (6, false), (7, false), (8, false), (9, false), (10, false), (11, false), (12, false), (13, false), (14, false), (15, true), (16, false), (17, true)])]
def cd172 : Cd := (.seq (.reg [⟨⟨some 8, Op.move (Operand.tmp 1), none⟩, []⟩,
  ⟨⟨some 9, Op.binOp BinOp.add 3 (Operand.tmp 8) (Operand.const (Value.int IntKind.i64 1)) 3, none⟩, []⟩,
  ⟨⟨some 6, Op.assign (Operand.tmp 9), none⟩, []⟩]) (.block 0 (.loop (.seq (.seq (.reg [⟨⟨some 10, Op.move (Operand.tmp 6), none⟩, []⟩,
  ⟨⟨some 11, Op.move (Operand.tmp 2), none⟩, []⟩,
  ⟨⟨some 12, Op.binOp BinOp.lss 3 (Operand.tmp 10) (Operand.tmp 11) 3, none⟩, []⟩]) (.cond (Operand.tmp 12) .skip (.exit 0))) (.seq (.block 1 (.seq (.reg [⟨⟨some 15, Op.move (Operand.tmp 6), none⟩, []⟩,
  ⟨⟨some 7, Op.assign (Operand.tmp 15), none⟩, []⟩]) (.block 2 (.loop (.seq (.seq (.reg [⟨⟨some 16, Op.move (Operand.tmp 7), none⟩, []⟩,
  ⟨⟨some 17, Op.move (Operand.tmp 1), none⟩, []⟩,
  ⟨⟨some 18, Op.binOp BinOp.gtr 3 (Operand.tmp 16) (Operand.tmp 17) 3, none⟩, []⟩,
  ⟨⟨some 19, Op.move (Operand.tmp 18), none⟩, []⟩,
  ⟨⟨some 20, Op.move (Operand.tmp 0), some (19, true)⟩, []⟩,
  ⟨⟨some 21, Op.move (Operand.tmp 7), some (19, true)⟩, []⟩,
  ⟨⟨some 22, Op.indexAddr 22 (Operand.tmp 20) (Operand.tmp 21), some (19, true)⟩, []⟩,
  ⟨⟨some 23, Op.load 3 (Operand.tmp 22), some (19, true)⟩, []⟩,
  ⟨⟨some 24, Op.move (Operand.tmp 0), some (19, true)⟩, []⟩,
  ⟨⟨some 25, Op.move (Operand.tmp 7), some (19, true)⟩, []⟩,
  ⟨⟨some 26, Op.binOp BinOp.sub 3 (Operand.tmp 25) (Operand.const (Value.int IntKind.i64 1)) 3, some (19, true)⟩, []⟩,
  ⟨⟨some 27, Op.indexAddr 22 (Operand.tmp 24) (Operand.tmp 26), some (19, true)⟩, []⟩,
  ⟨⟨some 28, Op.load 3 (Operand.tmp 27), some (19, true)⟩, []⟩,
  ⟨⟨some 29, Op.call { callee := (Callee.value (Operand.func 178)), args := #[(Operand.tmp 23), (Operand.tmp 28)], argTypes := #[3, 3] }, some (19, true)⟩, []⟩,
  ⟨⟨some 30, Op.pick (Operand.tmp 19) (Operand.tmp 29) (Operand.const (Value.bool false)), none⟩, []⟩]) (.cond (Operand.tmp 30) .skip (.exit 2))) (.seq (.block 3 (.reg [⟨⟨some 33, Op.move (Operand.tmp 0), none⟩, []⟩,
  ⟨⟨some 34, Op.move (Operand.tmp 7), none⟩, []⟩,
  ⟨⟨some 35, Op.move (Operand.tmp 0), none⟩, []⟩,
  ⟨⟨some 36, Op.move (Operand.tmp 7), none⟩, []⟩,
  ⟨⟨some 37, Op.binOp BinOp.sub 3 (Operand.tmp 36) (Operand.const (Value.int IntKind.i64 1)) 3, none⟩, []⟩,
  ⟨⟨some 38, Op.move (Operand.tmp 0), none⟩, []⟩,
  ⟨⟨some 39, Op.move (Operand.tmp 7), none⟩, []⟩,
  ⟨⟨some 40, Op.binOp BinOp.sub 3 (Operand.tmp 39) (Operand.const (Value.int IntKind.i64 1)) 3, none⟩, []⟩,
  ⟨⟨some 41, Op.indexAddr 22 (Operand.tmp 38) (Operand.tmp 40), none⟩, []⟩,
  ⟨⟨some 42, Op.load 3 (Operand.tmp 41), none⟩, []⟩,
  ⟨⟨some 43, Op.move (Operand.tmp 0), none⟩, []⟩,
  ⟨⟨some 44, Op.move (Operand.tmp 7), none⟩, []⟩,
  ⟨⟨some 45, Op.indexAddr 22 (Operand.tmp 43) (Operand.tmp 44), none⟩, []⟩,
  ⟨⟨some 46, Op.load 3 (Operand.tmp 45), none⟩, []⟩,
  ⟨⟨some 47, Op.indexAddr 22 (Operand.tmp 33) (Operand.tmp 34), none⟩, []⟩,
  ⟨⟨none, Op.store 3 (Operand.tmp 47) (Operand.tmp 42), none⟩, []⟩,
  ⟨⟨some 48, Op.indexAddr 22 (Operand.tmp 35) (Operand.tmp 37), none⟩, []⟩,
  ⟨⟨none, Op.store 3 (Operand.tmp 48) (Operand.tmp 46), none⟩, []⟩])) (.reg [⟨⟨some 31, Op.move (Operand.tmp 7), none⟩, []⟩,
  ⟨⟨some 32, Op.binOp BinOp.sub 3 (Operand.tmp 31) (Operand.const (Value.int IntKind.i64 1)) 3, none⟩, []⟩,
  ⟨⟨some 7, Op.assign (Operand.tmp 32), none⟩, []⟩]))))))) (.reg [⟨⟨some 13, Op.move (Operand.tmp 6), none⟩, []⟩,
  ⟨⟨some 14, Op.binOp BinOp.add 3 (Operand.tmp 13) (Operand.const (Value.int IntKind.i64 1)) 3, none⟩, []⟩,
  ⟨⟨some 6, Op.assign (Operand.tmp 14), none⟩, []⟩]))))))
theorem sl172 : slim Try.f172.ntmps ords172 (Try.f172.body.getD .skip) = some cd172 := by kernel_rfl
theorem in172 {args : List Value} {H : AH} {R : Value → AH → Prop} (hl : args.length = 3) (h : ∀ (Q : Exit → Sl → AH → Prop), (∀ e s H, endA Try.prog [] R e s H → Q e s H) → wpC Try.prog cd172 Q (enterA args) H) : ACalls Try.prog 172 args H R :=
  ACalls.intro (by kernel_rfl) Try.func172 rfl (by kernel_rfl) sl172 hl (of_decide_eq_true (by kernel_rfl)) (by kernel_rfl) h

/- math/bits.Len64 -/
def ords182 : List (Nat × List (Nat × Bool)) := []
def cd182 : Cd := (.seq (.reg [⟨⟨some 2, Op.assign (Operand.const (Value.int IntKind.i64 0)), none⟩, []⟩]) (.seq (.seq (.reg [⟨⟨some 3, Op.move (Operand.tmp 0), none⟩, []⟩,
  ⟨⟨some 4, Op.binOp BinOp.geq 149 (Operand.tmp 3) (Operand.const (Value.int IntKind.u64 4294967296)) 149, none⟩, []⟩]) (.cond (Operand.tmp 4) (.seq (.reg [⟨⟨some 5, Op.move (Operand.tmp 0), none⟩, []⟩,
  ⟨⟨some 6, Op.binOp BinOp.shr 149 (Operand.tmp 5) (Operand.const (Value.int IntKind.u64 32)) 110, none⟩, []⟩,
  ⟨⟨some 0, Op.assign (Operand.tmp 6), none⟩, []⟩]) (.reg [⟨⟨some 2, Op.assign (Operand.const (Value.int IntKind.i64 32)), none⟩, []⟩])) .skip)) (.seq (.seq (.reg [⟨⟨some 7, Op.move (Operand.tmp 0), none⟩, []⟩,
  ⟨⟨some 8, Op.binOp BinOp.geq 149 (Operand.tmp 7) (Operand.const (Value.int IntKind.u64 65536)) 149, none⟩, []⟩]) (.cond (Operand.tmp 8) (.seq (.reg [⟨⟨some 9, Op.move (Operand.tmp 0), none⟩, []⟩,
  ⟨⟨some 10, Op.binOp BinOp.shr 149 (Operand.tmp 9) (Operand.const (Value.int IntKind.u64 16)) 110, none⟩, []⟩,
  ⟨⟨some 0, Op.assign (Operand.tmp 10), none⟩, []⟩]) (.reg [⟨⟨some 11, Op.move (Operand.tmp 2), none⟩, []⟩,
  ⟨⟨some 12, Op.binOp BinOp.add 3 (Operand.tmp 11) (Operand.const (Value.int IntKind.i64 16)) 3, none⟩, []⟩,
  ⟨⟨some 2, Op.assign (Operand.tmp 12), none⟩, []⟩])) .skip)) (.seq (.seq (.reg [⟨⟨some 13, Op.move (Operand.tmp 0), none⟩, []⟩,
  ⟨⟨some 14, Op.binOp BinOp.geq 149 (Operand.tmp 13) (Operand.const (Value.int IntKind.u64 256)) 149, none⟩, []⟩]) (.cond (Operand.tmp 14) (.seq (.reg [⟨⟨some 15, Op.move (Operand.tmp 0), none⟩, []⟩,
  ⟨⟨some 16, Op.binOp BinOp.shr 149 (Operand.tmp 15) (Operand.const (Value.int IntKind.u64 8)) 110, none⟩, []⟩,
  ⟨⟨some 0, Op.assign (Operand.tmp 16), none⟩, []⟩]) (.reg [⟨⟨some 17, Op.move (Operand.tmp 2), none⟩, []⟩,
  ⟨⟨some 18, Op.binOp BinOp.add 3 (Operand.tmp 17) (Operand.const (Value.int IntKind.i64 8)) 3, none⟩, []⟩,
  ⟨⟨some 2, Op.assign (Operand.tmp 18), none⟩, []⟩])) .skip)) (.seq (.reg [⟨⟨some 19, Op.move (Operand.tmp 2), none⟩, []⟩,
  ⟨⟨some 20, Op.move (Operand.tmp 0), none⟩, []⟩,
  ⟨⟨some 21, Op.convert 149 5 (Operand.tmp 20), none⟩, []⟩,
  ⟨⟨some 22, Op.index 9 (Operand.const (Value.string { data := #[0, 1, 2, 2, 3, 3, 3, 3, 4, 4, 4, 4, 4, 4, 4, 4, 5, 5, 5, 5, 5, 5, 5, 5, 5, 5, 5, 5, 5, 5, 5, 5, 6, 6, 6, 6, 6, 6, 6, 6, 6, 6, 6, 6, 6, 6, 6, 6, 6, 6, 6, 6, 6, 6, 6, 6, 6, 6, 6, 6, 6, 6, 6, 6, 7, 7, 7, 7, 7, 7, 7, 7, 7, 7, 7, 7, 7, 7, 7, 7, 7, 7, 7, 7, 7, 7, 7, 7, 7, 7, 7, 7, 7, 7, 7, 7, 7, 7, 7, 7, 7, 7, 7, 7, 7, 7, 7, 7, 7, 7, 7, 7, 7, 7, 7, 7, 7, 7, 7, 7, 7, 7, 7, 7, 7, 7, 7, 7, 8, 8, 8, 8, 8, 8, 8, 8, 8, 8, 8, 8, 8, 8, 8, 8, 8, 8, 8, 8, 8, 8, 8, 8, 8, 8, 8, 8, 8, 8, 8, 8, 8, 8, 8, 8, 8, 8, 8, 8, 8, 8, 8, 8, 8, 8, 8, 8, 8, 8, 8, 8, 8, 8, 8, 8, 8, 8, 8, 8, 8, 8, 8, 8, 8, 8, 8, 8, 8, 8, 8, 8, 8, 8, 8, 8, 8, 8, 8, 8, 8, 8, 8, 8, 8, 8, 8, 8, 8, 8, 8, 8, 8, 8, 8, 8, 8, 8, 8, 8, 8, 8, 8, 8, 8, 8, 8, 8, 8, 8, 8, 8, 8, 8, 8, 8, 8, 8, 8, 8, 8, 8, 8, 8, 8, 8, 8, 8] })) (Operand.tmp 21), none⟩, []⟩,
  ⟨⟨some 23, Op.convert 5 3 (Operand.tmp 22), none⟩, []⟩,
  ⟨⟨some 24, Op.binOp BinOp.add 3 (Operand.tmp 19) (Operand.tmp 23) 3, none⟩, []⟩,
  ⟨⟨some 2, Op.assign (Operand.tmp 24), none⟩, []⟩]) .ret)))))
theorem sl182 : slim Try.f182.ntmps ords182 (Try.f182.body.getD .skip) = some cd182 := by kernel_rfl
theorem in182 {args : List Value} {H : AH} {R : Value → AH → Prop} (hl : args.length = 1) (h : ∀ (Q : Exit → Sl → AH → Prop), (∀ e s H, endA Try.prog [ResultVar.tmp 2] R e s H → Q e s H) → wpC Try.prog cd182 Q (enterA args) H) : ACalls Try.prog 182 args H R :=
  ACalls.intro (by kernel_rfl) Try.func182 rfl (by kernel_rfl) sl182 hl (of_decide_eq_true (by kernel_rfl)) (by kernel_rfl) h

/- math/bits.Len -/
def ords161 : List (Nat × List (Nat × Bool)) := []
def cd161 : Cd := (.seq (.reg [⟨⟨some 2, Op.assign (Operand.const (Value.int IntKind.i64 0)), none⟩, []⟩]) (.seq (.cond (Operand.const (Value.bool false)) (.seq (.reg [⟨⟨some 3, Op.move (Operand.tmp 0), none⟩, []⟩,
  ⟨⟨some 4, Op.convert 110 147 (Operand.tmp 3), none⟩, []⟩,
  ⟨⟨some 5, Op.call { callee := (Callee.value (Operand.func 181)), args := #[(Operand.tmp 4)], argTypes := #[147] }, none⟩, []⟩,
  ⟨⟨some 2, Op.assign (Operand.tmp 5), none⟩, []⟩]) .ret) .skip) (.seq (.reg [⟨⟨some 6, Op.move (Operand.tmp 0), none⟩, []⟩,
  ⟨⟨some 7, Op.call { callee := (Callee.value (Operand.func 182)), args := #[(Operand.tmp 6)], argTypes := #[149] }, none⟩, []⟩,
  ⟨⟨some 2, Op.assign (Operand.tmp 7), none⟩, []⟩]) .ret)))
theorem sl161 : slim Try.f161.ntmps ords161 (Try.f161.body.getD .skip) = some cd161 := by kernel_rfl
theorem in161 {args : List Value} {H : AH} {R : Value → AH → Prop} (hl : args.length = 1) (h : ∀ (Q : Exit → Sl → AH → Prop), (∀ e s H, endA Try.prog [ResultVar.tmp 2] R e s H → Q e s H) → wpC Try.prog cd161 Q (enterA args) H) : ACalls Try.prog 161 args H R :=
  ACalls.intro (by kernel_rfl) Try.func161 rfl (by kernel_rfl) sl161 hl (of_decide_eq_true (by kernel_rfl)) (by kernel_rfl) h

/- slices.pdqsortOrdered[int] -/
def ords160 : List (Nat × List (Nat × Bool)) := [(17, [(0, false), (1, false), (2, false), (3, false), (4, false), (5, false), (6, false), (7, false), (8, false), (9, false), (10, false), (11, false), (12, true), (13, false), (14, false)])]
def cd160 : Cd := (.seq (.reg [⟨⟨some 8, Op.assign (Operand.const (Value.bool true)), none⟩, []⟩]) (.seq (.reg [⟨⟨some 9, Op.assign (Operand.const (Value.bool true)), none⟩, []⟩]) (.block 0 (.loop (.block 1 (.seq (.reg [⟨⟨some 19, Op.move (Operand.tmp 2), none⟩, []⟩,
  ⟨⟨some 20, Op.move (Operand.tmp 1), none⟩, []⟩,
  ⟨⟨some 21, Op.binOp BinOp.sub 3 (Operand.tmp 19) (Operand.tmp 20) 3, none⟩, []⟩,
  ⟨⟨some 10, Op.assign (Operand.tmp 21), none⟩, []⟩]) (.seq (.seq (.reg [⟨⟨some 22, Op.move (Operand.tmp 10), none⟩, []⟩,
  ⟨⟨some 23, Op.binOp BinOp.leq 3 (Operand.tmp 22) (Operand.const (Value.int IntKind.i64 12)) 3, none⟩, []⟩]) (.cond (Operand.tmp 23) (.seq (.reg [⟨⟨some 24, Op.move (Operand.tmp 0), none⟩, []⟩,
  ⟨⟨some 25, Op.move (Operand.tmp 1), none⟩, []⟩,
  ⟨⟨some 26, Op.move (Operand.tmp 2), none⟩, []⟩,
  ⟨⟨some 27, Op.call { callee := (Callee.value (Operand.func 172)), args := #[(Operand.tmp 24), (Operand.tmp 25), (Operand.tmp 26)], argTypes := #[22, 3, 3] }, none⟩, []⟩]) .ret) .skip)) (.seq (.seq (.reg [⟨⟨some 28, Op.move (Operand.tmp 3), none⟩, []⟩,
  ⟨⟨some 29, Op.binOp BinOp.eql 3 (Operand.tmp 28) (Operand.const (Value.int IntKind.i64 0)) 3, none⟩, []⟩]) (.cond (Operand.tmp 29) (.seq (.reg [⟨⟨some 30, Op.move (Operand.tmp 0), none⟩, []⟩,
  ⟨⟨some 31, Op.move (Operand.tmp 1), none⟩, []⟩,
  ⟨⟨some 32, Op.move (Operand.tmp 2), none⟩, []⟩,
  ⟨⟨some 33, Op.call { callee := (Callee.value (Operand.func 173)), args := #[(Operand.tmp 30), (Operand.tmp 31), (Operand.tmp 32)], argTypes := #[22, 3, 3] }, none⟩, []⟩]) .ret) .skip)) (.seq (.seq (.reg [⟨⟨some 34, Op.move (Operand.tmp 8), none⟩, []⟩,
  ⟨⟨some 35, Op.unOp UnOp.not 4 (Operand.tmp 34), none⟩, []⟩]) (.cond (Operand.tmp 35) (.seq (.reg [⟨⟨some 36, Op.move (Operand.tmp 0), none⟩, []⟩,
  ⟨⟨some 37, Op.move (Operand.tmp 1), none⟩, []⟩,
  ⟨⟨some 38, Op.move (Operand.tmp 2), none⟩, []⟩,
  ⟨⟨some 39, Op.call { callee := (Callee.value (Operand.func 174)), args := #[(Operand.tmp 36), (Operand.tmp 37), (Operand.tmp 38)], argTypes := #[22, 3, 3] }, none⟩, []⟩]) (.reg [⟨⟨some 40, Op.move (Operand.tmp 3), none⟩, []⟩,
  ⟨⟨some 41, Op.binOp BinOp.sub 3 (Operand.tmp 40) (Operand.const (Value.int IntKind.i64 1)) 3, none⟩, []⟩,
  ⟨⟨some 3, Op.assign (Operand.tmp 41), none⟩, []⟩])) .skip)) (.seq (.reg [⟨⟨some 43, Op.move (Operand.tmp 0), none⟩, []⟩,
  ⟨⟨some 44, Op.move (Operand.tmp 1), none⟩, []⟩,
  ⟨⟨some 45, Op.move (Operand.tmp 2), none⟩, []⟩,
  ⟨⟨some 46, Op.call { callee := (Callee.value (Operand.func 175)), args := #[(Operand.tmp 43), (Operand.tmp 44), (Operand.tmp 45)], argTypes := #[22, 3, 3] }, none⟩, []⟩,
  ⟨⟨some 42, Op.move (Operand.tmp 46), none⟩, []⟩,
  ⟨⟨some 47, Op.extract (Operand.tmp 42) 0, none⟩, []⟩,
  ⟨⟨some 48, Op.extract (Operand.tmp 42) 1, none⟩, []⟩,
  ⟨⟨some 11, Op.assign (Operand.tmp 47), none⟩, []⟩,
  ⟨⟨some 12, Op.assign (Operand.tmp 48), none⟩, []⟩]) (.seq (.seq (.reg [⟨⟨some 49, Op.move (Operand.tmp 12), none⟩, []⟩,
  ⟨⟨some 50, Op.binOp BinOp.eql 140 (Operand.tmp 49) (Operand.const (Value.int IntKind.i64 2)) 140, none⟩, []⟩]) (.cond (Operand.tmp 50) (.seq (.reg [⟨⟨some 51, Op.move (Operand.tmp 0), none⟩, []⟩,
  ⟨⟨some 52, Op.move (Operand.tmp 1), none⟩, []⟩,
  ⟨⟨some 53, Op.move (Operand.tmp 2), none⟩, []⟩,
  ⟨⟨some 54, Op.call { callee := (Callee.value (Operand.func 176)), args := #[(Operand.tmp 51), (Operand.tmp 52), (Operand.tmp 53)], argTypes := #[22, 3, 3] }, none⟩, []⟩]) (.seq (.reg [⟨⟨some 55, Op.move (Operand.tmp 2), none⟩, []⟩,
  ⟨⟨some 56, Op.binOp BinOp.sub 3 (Operand.tmp 55) (Operand.const (Value.int IntKind.i64 1)) 3, none⟩, []⟩,
  ⟨⟨some 57, Op.move (Operand.tmp 11), none⟩, []⟩,
  ⟨⟨some 58, Op.move (Operand.tmp 1), none⟩, []⟩,
  ⟨⟨some 59, Op.binOp BinOp.sub 3 (Operand.tmp 57) (Operand.tmp 58) 3, none⟩, []⟩,
  ⟨⟨some 60, Op.binOp BinOp.sub 3 (Operand.tmp 56) (Operand.tmp 59) 3, none⟩, []⟩,
  ⟨⟨some 11, Op.assign (Operand.tmp 60), none⟩, []⟩]) (.reg [⟨⟨some 12, Op.assign (Operand.const (Value.int IntKind.i64 1)), none⟩, []⟩]))) .skip)) (.seq (.seq (.reg [⟨⟨some 61, Op.move (Operand.tmp 8), none⟩, []⟩,
  ⟨⟨some 62, Op.move (Operand.tmp 61), none⟩, []⟩,
  ⟨⟨some 63, Op.move (Operand.tmp 9), some (62, true)⟩, []⟩,
  ⟨⟨some 64, Op.pick (Operand.tmp 62) (Operand.tmp 63) (Operand.const (Value.bool false)), none⟩, []⟩,
  ⟨⟨some 65, Op.move (Operand.tmp 64), none⟩, []⟩,
  ⟨⟨some 66, Op.move (Operand.tmp 12), some (65, true)⟩, []⟩,
  ⟨⟨some 67, Op.binOp BinOp.eql 140 (Operand.tmp 66) (Operand.const (Value.int IntKind.i64 1)) 140, some (65, true)⟩, []⟩,
  ⟨⟨some 68, Op.pick (Operand.tmp 65) (Operand.tmp 67) (Operand.const (Value.bool false)), none⟩, []⟩]) (.cond (Operand.tmp 68) (.seq (.reg [⟨⟨some 69, Op.move (Operand.tmp 0), none⟩, []⟩,
  ⟨⟨some 70, Op.move (Operand.tmp 1), none⟩, []⟩,
  ⟨⟨some 71, Op.move (Operand.tmp 2), none⟩, []⟩,
  ⟨⟨some 72, Op.call { callee := (Callee.value (Operand.func 177)), args := #[(Operand.tmp 69), (Operand.tmp 70), (Operand.tmp 71)], argTypes := #[22, 3, 3] }, none⟩, []⟩]) (.cond (Operand.tmp 72) .ret .skip)) .skip)) (.seq (.seq (.reg [⟨⟨some 73, Op.move (Operand.tmp 1), none⟩, []⟩,
  ⟨⟨some 74, Op.binOp BinOp.gtr 3 (Operand.tmp 73) (Operand.const (Value.int IntKind.i64 0)) 3, none⟩, []⟩,
  ⟨⟨some 75, Op.move (Operand.tmp 74), none⟩, []⟩,
  ⟨⟨some 76, Op.move (Operand.tmp 0), some (75, true)⟩, []⟩,
  ⟨⟨some 77, Op.move (Operand.tmp 1), some (75, true)⟩, []⟩,
  ⟨⟨some 78, Op.binOp BinOp.sub 3 (Operand.tmp 77) (Operand.const (Value.int IntKind.i64 1)) 3, some (75, true)⟩, []⟩,
  ⟨⟨some 79, Op.indexAddr 22 (Operand.tmp 76) (Operand.tmp 78), some (75, true)⟩, []⟩,
  ⟨⟨some 80, Op.load 3 (Operand.tmp 79), some (75, true)⟩, []⟩,
  ⟨⟨some 81, Op.move (Operand.tmp 0), some (75, true)⟩, []⟩,
  ⟨⟨some 82, Op.move (Operand.tmp 11), some (75, true)⟩, []⟩,
  ⟨⟨some 83, Op.indexAddr 22 (Operand.tmp 81) (Operand.tmp 82), some (75, true)⟩, []⟩,
  ⟨⟨some 84, Op.load 3 (Operand.tmp 83), some (75, true)⟩, []⟩,
  ⟨⟨some 85, Op.call { callee := (Callee.value (Operand.func 178)), args := #[(Operand.tmp 80), (Operand.tmp 84)], argTypes := #[3, 3] }, some (75, true)⟩, []⟩,
  ⟨⟨some 86, Op.unOp UnOp.not 4 (Operand.tmp 85), some (75, true)⟩, []⟩,
  ⟨⟨some 87, Op.pick (Operand.tmp 75) (Operand.tmp 86) (Operand.const (Value.bool false)), none⟩, []⟩]) (.cond (Operand.tmp 87) (.seq (.reg [⟨⟨some 88, Op.move (Operand.tmp 0), none⟩, []⟩,
  ⟨⟨some 89, Op.move (Operand.tmp 1), none⟩, []⟩,
  ⟨⟨some 90, Op.move (Operand.tmp 2), none⟩, []⟩,
  ⟨⟨some 91, Op.move (Operand.tmp 11), none⟩, []⟩,
  ⟨⟨some 92, Op.call { callee := (Callee.value (Operand.func 179)), args := #[(Operand.tmp 88), (Operand.tmp 89), (Operand.tmp 90), (Operand.tmp 91)], argTypes := #[22, 3, 3, 3] }, none⟩, []⟩,
  ⟨⟨some 13, Op.assign (Operand.tmp 92), none⟩, []⟩]) (.seq (.reg [⟨⟨some 93, Op.move (Operand.tmp 13), none⟩, []⟩,
  ⟨⟨some 1, Op.assign (Operand.tmp 93), none⟩, []⟩]) (.exit 1))) .skip)) (.seq (.reg [⟨⟨some 95, Op.move (Operand.tmp 0), none⟩, []⟩,
  ⟨⟨some 96, Op.move (Operand.tmp 1), none⟩, []⟩,
  ⟨⟨some 97, Op.move (Operand.tmp 2), none⟩, []⟩,
  ⟨⟨some 98, Op.move (Operand.tmp 11), none⟩, []⟩,
  ⟨⟨some 99, Op.call { callee := (Callee.value (Operand.func 180)), args := #[(Operand.tmp 95), (Operand.tmp 96), (Operand.tmp 97), (Operand.tmp 98)], argTypes := #[22, 3, 3, 3] }, none⟩, []⟩,
  ⟨⟨some 94, Op.move (Operand.tmp 99), none⟩, []⟩,
  ⟨⟨some 100, Op.extract (Operand.tmp 94) 0, none⟩, []⟩,
  ⟨⟨some 101, Op.extract (Operand.tmp 94) 1, none⟩, []⟩,
  ⟨⟨some 14, Op.assign (Operand.tmp 100), none⟩, []⟩,
  ⟨⟨some 15, Op.assign (Operand.tmp 101), none⟩, []⟩]) (.seq (.reg [⟨⟨some 102, Op.move (Operand.tmp 15), none⟩, []⟩,
  ⟨⟨some 9, Op.assign (Operand.tmp 102), none⟩, []⟩]) (.seq (.reg [⟨⟨some 103, Op.move (Operand.tmp 14), none⟩, []⟩,
  ⟨⟨some 104, Op.move (Operand.tmp 1), none⟩, []⟩,
  ⟨⟨some 105, Op.binOp BinOp.sub 3 (Operand.tmp 103) (Operand.tmp 104) 3, none⟩, []⟩,
  ⟨⟨some 106, Op.move (Operand.tmp 2), none⟩, []⟩,
  ⟨⟨some 107, Op.move (Operand.tmp 14), none⟩, []⟩,
  ⟨⟨some 108, Op.binOp BinOp.sub 3 (Operand.tmp 106) (Operand.tmp 107) 3, none⟩, []⟩,
  ⟨⟨some 16, Op.assign (Operand.tmp 105), none⟩, []⟩,
  ⟨⟨some 17, Op.assign (Operand.tmp 108), none⟩, []⟩]) (.seq (.reg [⟨⟨some 109, Op.move (Operand.tmp 10), none⟩, []⟩,
  ⟨⟨some 110, Op.binOp BinOp.quo 3 (Operand.tmp 109) (Operand.const (Value.int IntKind.i64 8)) 3, none⟩, []⟩,
  ⟨⟨some 18, Op.assign (Operand.tmp 110), none⟩, []⟩]) (.seq (.reg [⟨⟨some 111, Op.move (Operand.tmp 16), none⟩, []⟩,
  ⟨⟨some 112, Op.move (Operand.tmp 17), none⟩, []⟩,
  ⟨⟨some 113, Op.binOp BinOp.lss 3 (Operand.tmp 111) (Operand.tmp 112) 3, none⟩, []⟩]) (.cond (Operand.tmp 113) (.seq (.reg [⟨⟨some 114, Op.move (Operand.tmp 16), none⟩, []⟩,
  ⟨⟨some 115, Op.move (Operand.tmp 18), none⟩, []⟩,
  ⟨⟨some 116, Op.binOp BinOp.geq 3 (Operand.tmp 114) (Operand.tmp 115) 3, none⟩, []⟩,
  ⟨⟨some 8, Op.assign (Operand.tmp 116), none⟩, []⟩]) (.seq (.reg [⟨⟨some 117, Op.move (Operand.tmp 0), none⟩, []⟩,
  ⟨⟨some 118, Op.move (Operand.tmp 1), none⟩, []⟩,
  ⟨⟨some 119, Op.move (Operand.tmp 14), none⟩, []⟩,
  ⟨⟨some 120, Op.move (Operand.tmp 3), none⟩, []⟩,
  ⟨⟨some 121, Op.call { callee := (Callee.value (Operand.func 160)), args := #[(Operand.tmp 117), (Operand.tmp 118), (Operand.tmp 119), (Operand.tmp 120)], argTypes := #[22, 3, 3, 3] }, none⟩, []⟩]) (.reg [⟨⟨some 122, Op.move (Operand.tmp 14), none⟩, []⟩,
  ⟨⟨some 123, Op.binOp BinOp.add 3 (Operand.tmp 122) (Operand.const (Value.int IntKind.i64 1)) 3, none⟩, []⟩,
  ⟨⟨some 1, Op.assign (Operand.tmp 123), none⟩, []⟩]))) (.seq (.reg [⟨⟨some 124, Op.move (Operand.tmp 17), none⟩, []⟩,
  ⟨⟨some 125, Op.move (Operand.tmp 18), none⟩, []⟩,
  ⟨⟨some 126, Op.binOp BinOp.geq 3 (Operand.tmp 124) (Operand.tmp 125) 3, none⟩, []⟩,
  ⟨⟨some 8, Op.assign (Operand.tmp 126), none⟩, []⟩]) (.seq (.reg [⟨⟨some 127, Op.move (Operand.tmp 0), none⟩, []⟩,
  ⟨⟨some 128, Op.move (Operand.tmp 14), none⟩, []⟩,
  ⟨⟨some 129, Op.binOp BinOp.add 3 (Operand.tmp 128) (Operand.const (Value.int IntKind.i64 1)) 3, none⟩, []⟩,
  ⟨⟨some 130, Op.move (Operand.tmp 2), none⟩, []⟩,
  ⟨⟨some 131, Op.move (Operand.tmp 3), none⟩, []⟩,
  ⟨⟨some 132, Op.call { callee := (Callee.value (Operand.func 160)), args := #[(Operand.tmp 127), (Operand.tmp 129), (Operand.tmp 130), (Operand.tmp 131)], argTypes := #[22, 3, 3, 3] }, none⟩, []⟩]) (.reg [⟨⟨some 133, Op.move (Operand.tmp 14), none⟩, []⟩,
  ⟨⟨some 2, Op.assign (Operand.tmp 133), none⟩, []⟩]))))))))))))))))))))))
theorem sl160 : slim Try.f160.ntmps ords160 (Try.f160.body.getD .skip) = some cd160 := by kernel_rfl
theorem in160 {args : List Value} {H : AH} {R : Value → AH → Prop} (hl : args.length = 4) (h : ∀ (Q : Exit → Sl → AH → Prop), (∀ e s H, endA Try.prog [] R e s H → Q e s H) → wpC Try.prog cd160 Q (enterA args) H) : ACalls Try.prog 160 args H R :=
  ACalls.intro (by kernel_rfl) Try.func160 rfl (by kernel_rfl) sl160 hl (of_decide_eq_true (by kernel_rfl)) (by kernel_rfl) h

/- slices.Sort[[]int,int] -/
def ords123 : List (Nat × List (Nat × Bool)) := []
def cd123 : Cd := (.seq (.reg [⟨⟨some 3, Op.move (Operand.tmp 0), none⟩, []⟩,
  ⟨⟨some 4, Op.call { callee := (Callee.builtin Builtin.len), args := #[(Operand.tmp 3)], argTypes := #[22] }, none⟩, []⟩,
  ⟨⟨some 2, Op.assign (Operand.tmp 4), none⟩, []⟩]) (.reg [⟨⟨some 5, Op.move (Operand.tmp 0), none⟩, []⟩,
  ⟨⟨some 6, Op.move (Operand.tmp 2), none⟩, []⟩,
  ⟨⟨some 7, Op.move (Operand.tmp 2), none⟩, []⟩,
  ⟨⟨some 8, Op.convert 3 110 (Operand.tmp 7), none⟩, []⟩,
  ⟨⟨some 9, Op.call { callee := (Callee.value (Operand.func 161)), args := #[(Operand.tmp 8)], argTypes := #[110] }, none⟩, []⟩,
  ⟨⟨some 10, Op.call { callee := (Callee.value (Operand.func 160)), args := #[(Operand.tmp 5), (Operand.const (Value.int IntKind.i64 0)), (Operand.tmp 6), (Operand.tmp 9)], argTypes := #[22, 3, 3, 3] }, none⟩, []⟩]))
theorem sl123 : slim Try.f123.ntmps ords123 (Try.f123.body.getD .skip) = some cd123 := by kernel_rfl
theorem in123 {args : List Value} {H : AH} {R : Value → AH → Prop} (hl : args.length = 1) (h : ∀ (Q : Exit → Sl → AH → Prop), (∀ e s H, endA Try.prog [] R e s H → Q e s H) → wpC Try.prog cd123 Q (enterA args) H) : ACalls Try.prog 123 args H R :=
  ACalls.intro (by kernel_rfl) Try.func123 rfl (by kernel_rfl) sl123 hl (of_decide_eq_true (by kernel_rfl)) (by kernel_rfl) h
end Go.Proofs.Ytahakecifgjcnaa.Ai
