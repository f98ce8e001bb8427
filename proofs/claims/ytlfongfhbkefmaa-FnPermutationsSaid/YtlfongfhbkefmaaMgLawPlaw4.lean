/- Texts of this claim, joined: Sort, Coll, Base, Has, Perm, Cyc, SwapC, Inv, PrmL, Index, Pair, Swaps, Place. -/
import Derived.Laws.BitsLemmas
import Derived.Laws.Bits64
import Derived.Test.YtlfongfhbkefmaaProg
import Derived.KernelRfl
import Derived.Test.YtlfongfhbkefmaaMgLawPlaw3
namespace Go.Proofs.Ytlfongfhbkefmaa.Ai
open Go
def ords256 : List (Nat × List (Nat × Bool)) := []
def cd256 : Cd := (.seq (.reg [⟨⟨some 2, Op.assign (Operand.const (Value.bool false)), none⟩, []⟩]) (.seq (.reg [⟨⟨some 3, Op.move (Operand.tmp 0), none⟩, []⟩,
  ⟨⟨some 4, Op.move (Operand.tmp 0), none⟩, []⟩,
  ⟨⟨some 5, Op.binOp BinOp.neq 3 (Operand.tmp 3) (Operand.tmp 4) 3, none⟩, []⟩,
  ⟨⟨some 2, Op.assign (Operand.tmp 5), none⟩, []⟩]) .ret))
theorem sl256 : slim Try.f256.ntmps ords256 (Try.f256.body.getD .skip) = some cd256 := by kernel_rfl
theorem in256 {args : List Value} {H : AH} {R : Value → AH → Prop} (hl : args.length = 1) (h : ∀ (Q : Exit → Sl → AH → Prop), (∀ e s H, endA Try.prog [ResultVar.tmp 2] R e s H → Q e s H) → wpC Try.prog cd256 Q (enterA args) H) : ACalls Try.prog 256 args H R :=
  ACalls.intro (by kernel_rfl) Try.func256 rfl (by kernel_rfl) sl256 hl (of_decide_eq_true (by kernel_rfl)) (by kernel_rfl) h
def ords221 : List (Nat × List (Nat × Bool)) := []
def cd221 : Cd := (.seq (.reg [⟨⟨some 4, Op.assign (Operand.const (Value.bool false)), none⟩, []⟩]) (.seq (.reg [⟨⟨some 5, Op.move (Operand.tmp 0), none⟩, []⟩,
  ⟨⟨some 6, Op.call { callee := (Callee.value (Operand.func 256)), args := #[(Operand.tmp 5)], argTypes := #[3] }, none⟩, []⟩,
  ⟨⟨some 7, Op.move (Operand.tmp 6), none⟩, []⟩,
  ⟨⟨some 8, Op.move (Operand.tmp 1), some (7, true)⟩, []⟩,
  ⟨⟨some 9, Op.call { callee := (Callee.value (Operand.func 256)), args := #[(Operand.tmp 8)], argTypes := #[3] }, some (7, true)⟩, []⟩,
  ⟨⟨some 10, Op.unOp UnOp.not 4 (Operand.tmp 9), some (7, true)⟩, []⟩,
  ⟨⟨some 11, Op.pick (Operand.tmp 7) (Operand.tmp 10) (Operand.const (Value.bool false)), none⟩, []⟩,
  ⟨⟨some 12, Op.move (Operand.tmp 11), none⟩, []⟩,
  ⟨⟨some 13, Op.move (Operand.tmp 0), some (12, false)⟩, []⟩,
  ⟨⟨some 14, Op.move (Operand.tmp 1), some (12, false)⟩, []⟩,
  ⟨⟨some 15, Op.binOp BinOp.lss 3 (Operand.tmp 13) (Operand.tmp 14) 3, some (12, false)⟩, []⟩,
  ⟨⟨some 16, Op.pick (Operand.tmp 12) (Operand.const (Value.bool true)) (Operand.tmp 15), none⟩, []⟩,
  ⟨⟨some 4, Op.assign (Operand.tmp 16), none⟩, []⟩]) .ret))
theorem sl221 : slim Try.f221.ntmps ords221 (Try.f221.body.getD .skip) = some cd221 := by kernel_rfl
theorem in221 {args : List Value} {H : AH} {R : Value → AH → Prop} (hl : args.length = 2) (h : ∀ (Q : Exit → Sl → AH → Prop), (∀ e s H, endA Try.prog [ResultVar.tmp 4] R e s H → Q e s H) → wpC Try.prog cd221 Q (enterA args) H) : ACalls Try.prog 221 args H R :=
  ACalls.intro (by kernel_rfl) Try.func221 rfl (by kernel_rfl) sl221 hl (of_decide_eq_true (by kernel_rfl)) (by kernel_rfl) h
def ords215 : List (Nat × List (Nat × Bool)) := [(4, [(0, false), (1, false), (2, false), (3, false), (4, false), (5, false), (6, false), (7, false), (8, false), (9, false), (10, false), (11, false), (12, false), (13, true), (14, false)]), (6, [(0, false), (1, false), (2, false), (3, false), (4, false), (5, false), (6, false), (7, false), (8, false), (9, false), (10, false), (11, false), (12, false), (13, false), (14, false), (15, true), (16, false), (17, true)])]
def cd215 : Cd := (.seq (.reg [⟨⟨some 8, Op.move (Operand.tmp 1), none⟩, []⟩,
  ⟨⟨some 9, Op.binOp BinOp.add 3 (Operand.tmp 8) (Operand.const (Value.int IntKind.i64 1)) 3, none⟩, []⟩,
  ⟨⟨some 6, Op.assign (Operand.tmp 9), none⟩, []⟩]) (.block 0 (.loop (.seq (.seq (.reg [⟨⟨some 10, Op.move (Operand.tmp 6), none⟩, []⟩,
  ⟨⟨some 11, Op.move (Operand.tmp 2), none⟩, []⟩,
  ⟨⟨some 12, Op.binOp BinOp.lss 3 (Operand.tmp 10) (Operand.tmp 11) 3, none⟩, []⟩]) (.cond (Operand.tmp 12) .skip (.exit 0))) (.seq (.block 1 (.seq (.reg [⟨⟨some 15, Op.move (Operand.tmp 6), none⟩, []⟩,
  ⟨⟨some 7, Op.assign (Operand.tmp 15), none⟩, []⟩]) (.block 2 (.loop (.seq (.seq (.reg [⟨⟨some 16, Op.move (Operand.tmp 7), none⟩, []⟩,
  ⟨⟨some 17, Op.move (Operand.tmp 1), none⟩, []⟩,
  ⟨⟨some 18, Op.binOp BinOp.gtr 3 (Operand.tmp 16) (Operand.tmp 17) 3, none⟩, []⟩,
  ⟨⟨some 19, Op.move (Operand.tmp 18), none⟩, []⟩,
  ⟨⟨some 20, Op.move (Operand.tmp 0), some (19, true)⟩, []⟩,
  ⟨⟨some 21, Op.move (Operand.tmp 7), some (19, true)⟩, []⟩,
  ⟨⟨some 22, Op.indexAddr 38 (Operand.tmp 20) (Operand.tmp 21), some (19, true)⟩, []⟩,
  ⟨⟨some 23, Op.load 3 (Operand.tmp 22), some (19, true)⟩, []⟩,
  ⟨⟨some 24, Op.move (Operand.tmp 0), some (19, true)⟩, []⟩,
  ⟨⟨some 25, Op.move (Operand.tmp 7), some (19, true)⟩, []⟩,
  ⟨⟨some 26, Op.binOp BinOp.sub 3 (Operand.tmp 25) (Operand.const (Value.int IntKind.i64 1)) 3, some (19, true)⟩, []⟩,
  ⟨⟨some 27, Op.indexAddr 38 (Operand.tmp 24) (Operand.tmp 26), some (19, true)⟩, []⟩,
  ⟨⟨some 28, Op.load 3 (Operand.tmp 27), some (19, true)⟩, []⟩,
  ⟨⟨some 29, Op.call { callee := (Callee.value (Operand.func 221)), args := #[(Operand.tmp 23), (Operand.tmp 28)], argTypes := #[3, 3] }, some (19, true)⟩, []⟩,
  ⟨⟨some 30, Op.pick (Operand.tmp 19) (Operand.tmp 29) (Operand.const (Value.bool false)), none⟩, []⟩]) (.cond (Operand.tmp 30) .skip (.exit 2))) (.seq (.block 3 (.reg [⟨⟨some 33, Op.move (Operand.tmp 0), none⟩, []⟩,
  ⟨⟨some 34, Op.move (Operand.tmp 7), none⟩, []⟩,
  ⟨⟨some 35, Op.move (Operand.tmp 0), none⟩, []⟩,
  ⟨⟨some 36, Op.move (Operand.tmp 7), none⟩, []⟩,
  ⟨⟨some 37, Op.binOp BinOp.sub 3 (Operand.tmp 36) (Operand.const (Value.int IntKind.i64 1)) 3, none⟩, []⟩,
  ⟨⟨some 38, Op.move (Operand.tmp 0), none⟩, []⟩,
  ⟨⟨some 39, Op.move (Operand.tmp 7), none⟩, []⟩,
  ⟨⟨some 40, Op.binOp BinOp.sub 3 (Operand.tmp 39) (Operand.const (Value.int IntKind.i64 1)) 3, none⟩, []⟩,
  ⟨⟨some 41, Op.indexAddr 38 (Operand.tmp 38) (Operand.tmp 40), none⟩, []⟩,
  ⟨⟨some 42, Op.load 3 (Operand.tmp 41), none⟩, []⟩,
  ⟨⟨some 43, Op.move (Operand.tmp 0), none⟩, []⟩,
  ⟨⟨some 44, Op.move (Operand.tmp 7), none⟩, []⟩,
  ⟨⟨some 45, Op.indexAddr 38 (Operand.tmp 43) (Operand.tmp 44), none⟩, []⟩,
  ⟨⟨some 46, Op.load 3 (Operand.tmp 45), none⟩, []⟩,
  ⟨⟨some 47, Op.indexAddr 38 (Operand.tmp 33) (Operand.tmp 34), none⟩, []⟩,
  ⟨⟨none, Op.store 3 (Operand.tmp 47) (Operand.tmp 42), none⟩, []⟩,
  ⟨⟨some 48, Op.indexAddr 38 (Operand.tmp 35) (Operand.tmp 37), none⟩, []⟩,
  ⟨⟨none, Op.store 3 (Operand.tmp 48) (Operand.tmp 46), none⟩, []⟩])) (.reg [⟨⟨some 31, Op.move (Operand.tmp 7), none⟩, []⟩,
  ⟨⟨some 32, Op.binOp BinOp.sub 3 (Operand.tmp 31) (Operand.const (Value.int IntKind.i64 1)) 3, none⟩, []⟩,
  ⟨⟨some 7, Op.assign (Operand.tmp 32), none⟩, []⟩]))))))) (.reg [⟨⟨some 13, Op.move (Operand.tmp 6), none⟩, []⟩,
  ⟨⟨some 14, Op.binOp BinOp.add 3 (Operand.tmp 13) (Operand.const (Value.int IntKind.i64 1)) 3, none⟩, []⟩,
  ⟨⟨some 6, Op.assign (Operand.tmp 14), none⟩, []⟩]))))))
theorem sl215 : slim Try.f215.ntmps ords215 (Try.f215.body.getD .skip) = some cd215 := by kernel_rfl
theorem in215 {args : List Value} {H : AH} {R : Value → AH → Prop} (hl : args.length = 3) (h : ∀ (Q : Exit → Sl → AH → Prop), (∀ e s H, endA Try.prog [] R e s H → Q e s H) → wpC Try.prog cd215 Q (enterA args) H) : ACalls Try.prog 215 args H R :=
  ACalls.intro (by kernel_rfl) Try.func215 rfl (by kernel_rfl) sl215 hl (of_decide_eq_true (by kernel_rfl)) (by kernel_rfl) h
def ords225 : List (Nat × List (Nat × Bool)) := []
def cd225 : Cd := (.seq (.reg [⟨⟨some 2, Op.assign (Operand.const (Value.int IntKind.i64 0)), none⟩, []⟩]) (.seq (.seq (.reg [⟨⟨some 3, Op.move (Operand.tmp 0), none⟩, []⟩,
  ⟨⟨some 4, Op.binOp BinOp.geq 122 (Operand.tmp 3) (Operand.const (Value.int IntKind.u64 4294967296)) 122, none⟩, []⟩]) (.cond (Operand.tmp 4) (.seq (.reg [⟨⟨some 5, Op.move (Operand.tmp 0), none⟩, []⟩,
  ⟨⟨some 6, Op.binOp BinOp.shr 122 (Operand.tmp 5) (Operand.const (Value.int IntKind.u64 32)) 97, none⟩, []⟩,
  ⟨⟨some 0, Op.assign (Operand.tmp 6), none⟩, []⟩]) (.reg [⟨⟨some 2, Op.assign (Operand.const (Value.int IntKind.i64 32)), none⟩, []⟩])) .skip)) (.seq (.seq (.reg [⟨⟨some 7, Op.move (Operand.tmp 0), none⟩, []⟩,
  ⟨⟨some 8, Op.binOp BinOp.geq 122 (Operand.tmp 7) (Operand.const (Value.int IntKind.u64 65536)) 122, none⟩, []⟩]) (.cond (Operand.tmp 8) (.seq (.reg [⟨⟨some 9, Op.move (Operand.tmp 0), none⟩, []⟩,
  ⟨⟨some 10, Op.binOp BinOp.shr 122 (Operand.tmp 9) (Operand.const (Value.int IntKind.u64 16)) 97, none⟩, []⟩,
  ⟨⟨some 0, Op.assign (Operand.tmp 10), none⟩, []⟩]) (.reg [⟨⟨some 11, Op.move (Operand.tmp 2), none⟩, []⟩,
  ⟨⟨some 12, Op.binOp BinOp.add 3 (Operand.tmp 11) (Operand.const (Value.int IntKind.i64 16)) 3, none⟩, []⟩,
  ⟨⟨some 2, Op.assign (Operand.tmp 12), none⟩, []⟩])) .skip)) (.seq (.seq (.reg [⟨⟨some 13, Op.move (Operand.tmp 0), none⟩, []⟩,
  ⟨⟨some 14, Op.binOp BinOp.geq 122 (Operand.tmp 13) (Operand.const (Value.int IntKind.u64 256)) 122, none⟩, []⟩]) (.cond (Operand.tmp 14) (.seq (.reg [⟨⟨some 15, Op.move (Operand.tmp 0), none⟩, []⟩,
  ⟨⟨some 16, Op.binOp BinOp.shr 122 (Operand.tmp 15) (Operand.const (Value.int IntKind.u64 8)) 97, none⟩, []⟩,
  ⟨⟨some 0, Op.assign (Operand.tmp 16), none⟩, []⟩]) (.reg [⟨⟨some 17, Op.move (Operand.tmp 2), none⟩, []⟩,
  ⟨⟨some 18, Op.binOp BinOp.add 3 (Operand.tmp 17) (Operand.const (Value.int IntKind.i64 8)) 3, none⟩, []⟩,
  ⟨⟨some 2, Op.assign (Operand.tmp 18), none⟩, []⟩])) .skip)) (.seq (.reg [⟨⟨some 19, Op.move (Operand.tmp 2), none⟩, []⟩,
  ⟨⟨some 20, Op.move (Operand.tmp 0), none⟩, []⟩,
  ⟨⟨some 21, Op.convert 122 5 (Operand.tmp 20), none⟩, []⟩,
  ⟨⟨some 22, Op.index 9 (Operand.const (Value.string { data := #[0, 1, 2, 2, 3, 3, 3, 3, 4, 4, 4, 4, 4, 4, 4, 4, 5, 5, 5, 5, 5, 5, 5, 5, 5, 5, 5, 5, 5, 5, 5, 5, 6, 6, 6, 6, 6, 6, 6, 6, 6, 6, 6, 6, 6, 6, 6, 6, 6, 6, 6, 6, 6, 6, 6, 6, 6, 6, 6, 6, 6, 6, 6, 6, 7, 7, 7, 7, 7, 7, 7, 7, 7, 7, 7, 7, 7, 7, 7, 7, 7, 7, 7, 7, 7, 7, 7, 7, 7, 7, 7, 7, 7, 7, 7, 7, 7, 7, 7, 7, 7, 7, 7, 7, 7, 7, 7, 7, 7, 7, 7, 7, 7, 7, 7, 7, 7, 7, 7, 7, 7, 7, 7, 7, 7, 7, 7, 7, 8, 8, 8, 8, 8, 8, 8, 8, 8, 8, 8, 8, 8, 8, 8, 8, 8, 8, 8, 8, 8, 8, 8, 8, 8, 8, 8, 8, 8, 8, 8, 8, 8, 8, 8, 8, 8, 8, 8, 8, 8, 8, 8, 8, 8, 8, 8, 8, 8, 8, 8, 8, 8, 8, 8, 8, 8, 8, 8, 8, 8, 8, 8, 8, 8, 8, 8, 8, 8, 8, 8, 8, 8, 8, 8, 8, 8, 8, 8, 8, 8, 8, 8, 8, 8, 8, 8, 8, 8, 8, 8, 8, 8, 8, 8, 8, 8, 8, 8, 8, 8, 8, 8, 8, 8, 8, 8, 8, 8, 8, 8, 8, 8, 8, 8, 8, 8, 8, 8, 8, 8, 8, 8, 8, 8, 8, 8, 8] })) (Operand.tmp 21), none⟩, []⟩,
  ⟨⟨some 23, Op.convert 5 3 (Operand.tmp 22), none⟩, []⟩,
  ⟨⟨some 24, Op.binOp BinOp.add 3 (Operand.tmp 19) (Operand.tmp 23) 3, none⟩, []⟩,
  ⟨⟨some 2, Op.assign (Operand.tmp 24), none⟩, []⟩]) .ret)))))
theorem sl225 : slim Try.f225.ntmps ords225 (Try.f225.body.getD .skip) = some cd225 := by kernel_rfl
theorem in225 {args : List Value} {H : AH} {R : Value → AH → Prop} (hl : args.length = 1) (h : ∀ (Q : Exit → Sl → AH → Prop), (∀ e s H, endA Try.prog [ResultVar.tmp 2] R e s H → Q e s H) → wpC Try.prog cd225 Q (enterA args) H) : ACalls Try.prog 225 args H R :=
  ACalls.intro (by kernel_rfl) Try.func225 rfl (by kernel_rfl) sl225 hl (of_decide_eq_true (by kernel_rfl)) (by kernel_rfl) h
def ords166 : List (Nat × List (Nat × Bool)) := []
def cd166 : Cd := (.seq (.reg [⟨⟨some 2, Op.assign (Operand.const (Value.int IntKind.i64 0)), none⟩, []⟩]) (.seq (.cond (Operand.const (Value.bool false)) (.seq (.reg [⟨⟨some 3, Op.move (Operand.tmp 0), none⟩, []⟩,
  ⟨⟨some 4, Op.convert 97 182 (Operand.tmp 3), none⟩, []⟩,
  ⟨⟨some 5, Op.call { callee := (Callee.value (Operand.func 224)), args := #[(Operand.tmp 4)], argTypes := #[182] }, none⟩, []⟩,
  ⟨⟨some 2, Op.assign (Operand.tmp 5), none⟩, []⟩]) .ret) .skip) (.seq (.reg [⟨⟨some 6, Op.move (Operand.tmp 0), none⟩, []⟩,
  ⟨⟨some 7, Op.call { callee := (Callee.value (Operand.func 225)), args := #[(Operand.tmp 6)], argTypes := #[122] }, none⟩, []⟩,
  ⟨⟨some 2, Op.assign (Operand.tmp 7), none⟩, []⟩]) .ret)))
theorem sl166 : slim Try.f166.ntmps ords166 (Try.f166.body.getD .skip) = some cd166 := by kernel_rfl
theorem in166 {args : List Value} {H : AH} {R : Value → AH → Prop} (hl : args.length = 1) (h : ∀ (Q : Exit → Sl → AH → Prop), (∀ e s H, endA Try.prog [ResultVar.tmp 2] R e s H → Q e s H) → wpC Try.prog cd166 Q (enterA args) H) : ACalls Try.prog 166 args H R :=
  ACalls.intro (by kernel_rfl) Try.func166 rfl (by kernel_rfl) sl166 hl (of_decide_eq_true (by kernel_rfl)) (by kernel_rfl) h
def ords165 : List (Nat × List (Nat × Bool)) := [(17, [(0, false), (1, false), (2, false), (3, false), (4, false), (5, false), (6, false), (7, false), (8, false), (9, false), (10, false), (11, false), (12, true), (13, false), (14, false)])]
def cd165 : Cd := (.seq (.reg [⟨⟨some 8, Op.assign (Operand.const (Value.bool true)), none⟩, []⟩]) (.seq (.reg [⟨⟨some 9, Op.assign (Operand.const (Value.bool true)), none⟩, []⟩]) (.block 0 (.loop (.block 1 (.seq (.reg [⟨⟨some 19, Op.move (Operand.tmp 2), none⟩, []⟩,
  ⟨⟨some 20, Op.move (Operand.tmp 1), none⟩, []⟩,
  ⟨⟨some 21, Op.binOp BinOp.sub 3 (Operand.tmp 19) (Operand.tmp 20) 3, none⟩, []⟩,
  ⟨⟨some 10, Op.assign (Operand.tmp 21), none⟩, []⟩]) (.seq (.seq (.reg [⟨⟨some 22, Op.move (Operand.tmp 10), none⟩, []⟩,
  ⟨⟨some 23, Op.binOp BinOp.leq 3 (Operand.tmp 22) (Operand.const (Value.int IntKind.i64 12)) 3, none⟩, []⟩]) (.cond (Operand.tmp 23) (.seq (.reg [⟨⟨some 24, Op.move (Operand.tmp 0), none⟩, []⟩,
  ⟨⟨some 25, Op.move (Operand.tmp 1), none⟩, []⟩,
  ⟨⟨some 26, Op.move (Operand.tmp 2), none⟩, []⟩,
  ⟨⟨some 27, Op.call { callee := (Callee.value (Operand.func 215)), args := #[(Operand.tmp 24), (Operand.tmp 25), (Operand.tmp 26)], argTypes := #[38, 3, 3] }, none⟩, []⟩]) .ret) .skip)) (.seq (.seq (.reg [⟨⟨some 28, Op.move (Operand.tmp 3), none⟩, []⟩,
  ⟨⟨some 29, Op.binOp BinOp.eql 3 (Operand.tmp 28) (Operand.const (Value.int IntKind.i64 0)) 3, none⟩, []⟩]) (.cond (Operand.tmp 29) (.seq (.reg [⟨⟨some 30, Op.move (Operand.tmp 0), none⟩, []⟩,
  ⟨⟨some 31, Op.move (Operand.tmp 1), none⟩, []⟩,
  ⟨⟨some 32, Op.move (Operand.tmp 2), none⟩, []⟩,
  ⟨⟨some 33, Op.call { callee := (Callee.value (Operand.func 216)), args := #[(Operand.tmp 30), (Operand.tmp 31), (Operand.tmp 32)], argTypes := #[38, 3, 3] }, none⟩, []⟩]) .ret) .skip)) (.seq (.seq (.reg [⟨⟨some 34, Op.move (Operand.tmp 8), none⟩, []⟩,
  ⟨⟨some 35, Op.unOp UnOp.not 4 (Operand.tmp 34), none⟩, []⟩]) (.cond (Operand.tmp 35) (.seq (.reg [⟨⟨some 36, Op.move (Operand.tmp 0), none⟩, []⟩,
  ⟨⟨some 37, Op.move (Operand.tmp 1), none⟩, []⟩,
  ⟨⟨some 38, Op.move (Operand.tmp 2), none⟩, []⟩,
  ⟨⟨some 39, Op.call { callee := (Callee.value (Operand.func 217)), args := #[(Operand.tmp 36), (Operand.tmp 37), (Operand.tmp 38)], argTypes := #[38, 3, 3] }, none⟩, []⟩]) (.reg [⟨⟨some 40, Op.move (Operand.tmp 3), none⟩, []⟩,
  ⟨⟨some 41, Op.binOp BinOp.sub 3 (Operand.tmp 40) (Operand.const (Value.int IntKind.i64 1)) 3, none⟩, []⟩,
  ⟨⟨some 3, Op.assign (Operand.tmp 41), none⟩, []⟩])) .skip)) (.seq (.reg [⟨⟨some 43, Op.move (Operand.tmp 0), none⟩, []⟩,
  ⟨⟨some 44, Op.move (Operand.tmp 1), none⟩, []⟩,
  ⟨⟨some 45, Op.move (Operand.tmp 2), none⟩, []⟩,
  ⟨⟨some 46, Op.call { callee := (Callee.value (Operand.func 218)), args := #[(Operand.tmp 43), (Operand.tmp 44), (Operand.tmp 45)], argTypes := #[38, 3, 3] }, none⟩, []⟩,
  ⟨⟨some 42, Op.move (Operand.tmp 46), none⟩, []⟩,
  ⟨⟨some 47, Op.extract (Operand.tmp 42) 0, none⟩, []⟩,
  ⟨⟨some 48, Op.extract (Operand.tmp 42) 1, none⟩, []⟩,
  ⟨⟨some 11, Op.assign (Operand.tmp 47), none⟩, []⟩,
  ⟨⟨some 12, Op.assign (Operand.tmp 48), none⟩, []⟩]) (.seq (.seq (.reg [⟨⟨some 49, Op.move (Operand.tmp 12), none⟩, []⟩,
  ⟨⟨some 50, Op.binOp BinOp.eql 175 (Operand.tmp 49) (Operand.const (Value.int IntKind.i64 2)) 175, none⟩, []⟩]) (.cond (Operand.tmp 50) (.seq (.reg [⟨⟨some 51, Op.move (Operand.tmp 0), none⟩, []⟩,
  ⟨⟨some 52, Op.move (Operand.tmp 1), none⟩, []⟩,
  ⟨⟨some 53, Op.move (Operand.tmp 2), none⟩, []⟩,
  ⟨⟨some 54, Op.call { callee := (Callee.value (Operand.func 219)), args := #[(Operand.tmp 51), (Operand.tmp 52), (Operand.tmp 53)], argTypes := #[38, 3, 3] }, none⟩, []⟩]) (.seq (.reg [⟨⟨some 55, Op.move (Operand.tmp 2), none⟩, []⟩,
  ⟨⟨some 56, Op.binOp BinOp.sub 3 (Operand.tmp 55) (Operand.const (Value.int IntKind.i64 1)) 3, none⟩, []⟩,
  ⟨⟨some 57, Op.move (Operand.tmp 11), none⟩, []⟩,
  ⟨⟨some 58, Op.move (Operand.tmp 1), none⟩, []⟩,
  ⟨⟨some 59, Op.binOp BinOp.sub 3 (Operand.tmp 57) (Operand.tmp 58) 3, none⟩, []⟩,
  ⟨⟨some 60, Op.binOp BinOp.sub 3 (Operand.tmp 56) (Operand.tmp 59) 3, none⟩, []⟩,
  ⟨⟨some 11, Op.assign (Operand.tmp 60), none⟩, []⟩]) (.reg [⟨⟨some 12, Op.assign (Operand.const (Value.int IntKind.i64 1)), none⟩, []⟩]))) .skip)) (.seq (.seq (.reg [⟨⟨some 61, Op.move (Operand.tmp 8), none⟩, []⟩,
  ⟨⟨some 62, Op.move (Operand.tmp 61), none⟩, []⟩,
  ⟨⟨some 63, Op.move (Operand.tmp 9), some (62, true)⟩, []⟩,
  ⟨⟨some 64, Op.pick (Operand.tmp 62) (Operand.tmp 63) (Operand.const (Value.bool false)), none⟩, []⟩,
  ⟨⟨some 65, Op.move (Operand.tmp 64), none⟩, []⟩,
  ⟨⟨some 66, Op.move (Operand.tmp 12), some (65, true)⟩, []⟩,
  ⟨⟨some 67, Op.binOp BinOp.eql 175 (Operand.tmp 66) (Operand.const (Value.int IntKind.i64 1)) 175, some (65, true)⟩, []⟩,
  ⟨⟨some 68, Op.pick (Operand.tmp 65) (Operand.tmp 67) (Operand.const (Value.bool false)), none⟩, []⟩]) (.cond (Operand.tmp 68) (.seq (.reg [⟨⟨some 69, Op.move (Operand.tmp 0), none⟩, []⟩,
  ⟨⟨some 70, Op.move (Operand.tmp 1), none⟩, []⟩,
  ⟨⟨some 71, Op.move (Operand.tmp 2), none⟩, []⟩,
  ⟨⟨some 72, Op.call { callee := (Callee.value (Operand.func 220)), args := #[(Operand.tmp 69), (Operand.tmp 70), (Operand.tmp 71)], argTypes := #[38, 3, 3] }, none⟩, []⟩]) (.cond (Operand.tmp 72) .ret .skip)) .skip)) (.seq (.seq (.reg [⟨⟨some 73, Op.move (Operand.tmp 1), none⟩, []⟩,
  ⟨⟨some 74, Op.binOp BinOp.gtr 3 (Operand.tmp 73) (Operand.const (Value.int IntKind.i64 0)) 3, none⟩, []⟩,
  ⟨⟨some 75, Op.move (Operand.tmp 74), none⟩, []⟩,
  ⟨⟨some 76, Op.move (Operand.tmp 0), some (75, true)⟩, []⟩,
  ⟨⟨some 77, Op.move (Operand.tmp 1), some (75, true)⟩, []⟩,
  ⟨⟨some 78, Op.binOp BinOp.sub 3 (Operand.tmp 77) (Operand.const (Value.int IntKind.i64 1)) 3, some (75, true)⟩, []⟩,
  ⟨⟨some 79, Op.indexAddr 38 (Operand.tmp 76) (Operand.tmp 78), some (75, true)⟩, []⟩,
  ⟨⟨some 80, Op.load 3 (Operand.tmp 79), some (75, true)⟩, []⟩,
  ⟨⟨some 81, Op.move (Operand.tmp 0), some (75, true)⟩, []⟩,
  ⟨⟨some 82, Op.move (Operand.tmp 11), some (75, true)⟩, []⟩,
  ⟨⟨some 83, Op.indexAddr 38 (Operand.tmp 81) (Operand.tmp 82), some (75, true)⟩, []⟩,
  ⟨⟨some 84, Op.load 3 (Operand.tmp 83), some (75, true)⟩, []⟩,
  ⟨⟨some 85, Op.call { callee := (Callee.value (Operand.func 221)), args := #[(Operand.tmp 80), (Operand.tmp 84)], argTypes := #[3, 3] }, some (75, true)⟩, []⟩,
  ⟨⟨some 86, Op.unOp UnOp.not 4 (Operand.tmp 85), some (75, true)⟩, []⟩,
  ⟨⟨some 87, Op.pick (Operand.tmp 75) (Operand.tmp 86) (Operand.const (Value.bool false)), none⟩, []⟩]) (.cond (Operand.tmp 87) (.seq (.reg [⟨⟨some 88, Op.move (Operand.tmp 0), none⟩, []⟩,
  ⟨⟨some 89, Op.move (Operand.tmp 1), none⟩, []⟩,
  ⟨⟨some 90, Op.move (Operand.tmp 2), none⟩, []⟩,
  ⟨⟨some 91, Op.move (Operand.tmp 11), none⟩, []⟩,
  ⟨⟨some 92, Op.call { callee := (Callee.value (Operand.func 222)), args := #[(Operand.tmp 88), (Operand.tmp 89), (Operand.tmp 90), (Operand.tmp 91)], argTypes := #[38, 3, 3, 3] }, none⟩, []⟩,
  ⟨⟨some 13, Op.assign (Operand.tmp 92), none⟩, []⟩]) (.seq (.reg [⟨⟨some 93, Op.move (Operand.tmp 13), none⟩, []⟩,
  ⟨⟨some 1, Op.assign (Operand.tmp 93), none⟩, []⟩]) (.exit 1))) .skip)) (.seq (.reg [⟨⟨some 95, Op.move (Operand.tmp 0), none⟩, []⟩,
  ⟨⟨some 96, Op.move (Operand.tmp 1), none⟩, []⟩,
  ⟨⟨some 97, Op.move (Operand.tmp 2), none⟩, []⟩,
  ⟨⟨some 98, Op.move (Operand.tmp 11), none⟩, []⟩,
  ⟨⟨some 99, Op.call { callee := (Callee.value (Operand.func 223)), args := #[(Operand.tmp 95), (Operand.tmp 96), (Operand.tmp 97), (Operand.tmp 98)], argTypes := #[38, 3, 3, 3] }, none⟩, []⟩,
  ⟨⟨some 94, Op.move (Operand.tmp 99), none⟩, []⟩,
  ⟨⟨some 100, Op.extract (Operand.tmp 94) 0, none⟩, []⟩,
  ⟨⟨some 101, Op.extract (Operand.tmp 94) 1, none⟩, []⟩,
  ⟨⟨some 14, Op.assign (Operand.tmp 100), none⟩, []⟩,
  ⟨⟨some 15, Op.assign (Operand.tmp 101), none⟩, []⟩]) (.seq (.reg [⟨⟨some 102, Op.move (Operand.tmp 15), none⟩, []⟩,
  ⟨⟨some 9, Op.assign (Operand.tmp 102), none⟩, []⟩]) (.seq (.reg [⟨⟨some 103, Op.move (Operand.tmp 14), none⟩, []⟩,
  ⟨⟨some 104, Op.move (Operand.tmp 1), none⟩, []⟩,
  ⟨⟨some 105, Op.binOp BinOp.sub 3 (Operand.tmp 103) (Operand.tmp 104) 3, none⟩, []⟩,
  ⟨⟨some 106, Op.move (Operand.tmp 2), none⟩, []⟩,
  ⟨⟨some 107, Op.move (Operand.tmp 14), none⟩, []⟩,
  ⟨⟨some 108, Op.binOp BinOp.sub 3 (Operand.tmp 106) (Operand.tmp 107) 3, none⟩, []⟩,
  ⟨⟨some 16, Op.assign (Operand.tmp 105), none⟩, []⟩,
  ⟨⟨some 17, Op.assign (Operand.tmp 108), none⟩, []⟩]) (.seq (.reg [⟨⟨some 109, Op.move (Operand.tmp 10), none⟩, []⟩,
  ⟨⟨some 110, Op.binOp BinOp.quo 3 (Operand.tmp 109) (Operand.const (Value.int IntKind.i64 8)) 3, none⟩, []⟩,
  ⟨⟨some 18, Op.assign (Operand.tmp 110), none⟩, []⟩]) (.seq (.reg [⟨⟨some 111, Op.move (Operand.tmp 16), none⟩, []⟩,
  ⟨⟨some 112, Op.move (Operand.tmp 17), none⟩, []⟩,
  ⟨⟨some 113, Op.binOp BinOp.lss 3 (Operand.tmp 111) (Operand.tmp 112) 3, none⟩, []⟩]) (.cond (Operand.tmp 113) (.seq (.reg [⟨⟨some 114, Op.move (Operand.tmp 16), none⟩, []⟩,
  ⟨⟨some 115, Op.move (Operand.tmp 18), none⟩, []⟩,
  ⟨⟨some 116, Op.binOp BinOp.geq 3 (Operand.tmp 114) (Operand.tmp 115) 3, none⟩, []⟩,
  ⟨⟨some 8, Op.assign (Operand.tmp 116), none⟩, []⟩]) (.seq (.reg [⟨⟨some 117, Op.move (Operand.tmp 0), none⟩, []⟩,
  ⟨⟨some 118, Op.move (Operand.tmp 1), none⟩, []⟩,
  ⟨⟨some 119, Op.move (Operand.tmp 14), none⟩, []⟩,
  ⟨⟨some 120, Op.move (Operand.tmp 3), none⟩, []⟩,
  ⟨⟨some 121, Op.call { callee := (Callee.value (Operand.func 165)), args := #[(Operand.tmp 117), (Operand.tmp 118), (Operand.tmp 119), (Operand.tmp 120)], argTypes := #[38, 3, 3, 3] }, none⟩, []⟩]) (.reg [⟨⟨some 122, Op.move (Operand.tmp 14), none⟩, []⟩,
  ⟨⟨some 123, Op.binOp BinOp.add 3 (Operand.tmp 122) (Operand.const (Value.int IntKind.i64 1)) 3, none⟩, []⟩,
  ⟨⟨some 1, Op.assign (Operand.tmp 123), none⟩, []⟩]))) (.seq (.reg [⟨⟨some 124, Op.move (Operand.tmp 17), none⟩, []⟩,
  ⟨⟨some 125, Op.move (Operand.tmp 18), none⟩, []⟩,
  ⟨⟨some 126, Op.binOp BinOp.geq 3 (Operand.tmp 124) (Operand.tmp 125) 3, none⟩, []⟩,
  ⟨⟨some 8, Op.assign (Operand.tmp 126), none⟩, []⟩]) (.seq (.reg [⟨⟨some 127, Op.move (Operand.tmp 0), none⟩, []⟩,
  ⟨⟨some 128, Op.move (Operand.tmp 14), none⟩, []⟩,
  ⟨⟨some 129, Op.binOp BinOp.add 3 (Operand.tmp 128) (Operand.const (Value.int IntKind.i64 1)) 3, none⟩, []⟩,
  ⟨⟨some 130, Op.move (Operand.tmp 2), none⟩, []⟩,
  ⟨⟨some 131, Op.move (Operand.tmp 3), none⟩, []⟩,
  ⟨⟨some 132, Op.call { callee := (Callee.value (Operand.func 165)), args := #[(Operand.tmp 127), (Operand.tmp 129), (Operand.tmp 130), (Operand.tmp 131)], argTypes := #[38, 3, 3, 3] }, none⟩, []⟩]) (.reg [⟨⟨some 133, Op.move (Operand.tmp 14), none⟩, []⟩,
  ⟨⟨some 2, Op.assign (Operand.tmp 133), none⟩, []⟩]))))))))))))))))))))))
theorem sl165 : slim Try.f165.ntmps ords165 (Try.f165.body.getD .skip) = some cd165 := by kernel_rfl
theorem in165 {args : List Value} {H : AH} {R : Value → AH → Prop} (hl : args.length = 4) (h : ∀ (Q : Exit → Sl → AH → Prop), (∀ e s H, endA Try.prog [] R e s H → Q e s H) → wpC Try.prog cd165 Q (enterA args) H) : ACalls Try.prog 165 args H R :=
  ACalls.intro (by kernel_rfl) Try.func165 rfl (by kernel_rfl) sl165 hl (of_decide_eq_true (by kernel_rfl)) (by kernel_rfl) h
def ords92 : List (Nat × List (Nat × Bool)) := []
def cd92 : Cd := (.seq (.reg [⟨⟨some 3, Op.move (Operand.tmp 0), none⟩, []⟩,
  ⟨⟨some 4, Op.call { callee := (Callee.builtin Builtin.len), args := #[(Operand.tmp 3)], argTypes := #[38] }, none⟩, []⟩,
  ⟨⟨some 2, Op.assign (Operand.tmp 4), none⟩, []⟩]) (.reg [⟨⟨some 5, Op.move (Operand.tmp 0), none⟩, []⟩,
  ⟨⟨some 6, Op.move (Operand.tmp 2), none⟩, []⟩,
  ⟨⟨some 7, Op.move (Operand.tmp 2), none⟩, []⟩,
  ⟨⟨some 8, Op.convert 3 97 (Operand.tmp 7), none⟩, []⟩,
  ⟨⟨some 9, Op.call { callee := (Callee.value (Operand.func 166)), args := #[(Operand.tmp 8)], argTypes := #[97] }, none⟩, []⟩,
  ⟨⟨some 10, Op.call { callee := (Callee.value (Operand.func 165)), args := #[(Operand.tmp 5), (Operand.const (Value.int IntKind.i64 0)), (Operand.tmp 6), (Operand.tmp 9)], argTypes := #[38, 3, 3, 3] }, none⟩, []⟩]))
theorem sl92 : slim Try.f92.ntmps ords92 (Try.f92.body.getD .skip) = some cd92 := by kernel_rfl
theorem in92 {args : List Value} {H : AH} {R : Value → AH → Prop} (hl : args.length = 1) (h : ∀ (Q : Exit → Sl → AH → Prop), (∀ e s H, endA Try.prog [] R e s H → Q e s H) → wpC Try.prog cd92 Q (enterA args) H) : ACalls Try.prog 92 args H R :=
  ACalls.intro (by kernel_rfl) Try.func92 rfl (by kernel_rfl) sl92 hl (of_decide_eq_true (by kernel_rfl)) (by kernel_rfl) h
end Go.Proofs.Ytlfongfhbkefmaa.Ai
namespace Go.Proofs.Ytlfongfhbkefmaa.Ai
open Go Go.RowKit
set_option linter.unusedVariables false
set_option linter.unusedSimpArgs false
theorem Own.else_pre {e : TypeId} {H0 H H' : AH} {v : Value} {xs : List Int} (h : Own e H0 H v xs) (hp : H0 <+: H) (he : Else v H H') : H0 <+: H' := by
  rcases h with h | ⟨o, h1, h2, h3⟩
  · exact hp.trans (else_pre_nil h.1 he)
  · exact Ai.else_pre hp (by rw [h1]; exact h2) he
theorem isNaN_c (x : Int) (H : AH) : ACalls Try.prog 256 [.int .i64 x] H fun r H' => r = .bool false ∧ H = H' := by
  refine in256 rfl ?_
  intro Q hQ
  simp (maxSteps := 1000000) (disch := omega) only [cd256, S, S1, S2, S3, S4, S5, ST, eq_self, reduceIte, reduceCtorEq, Nat.reduceEqDiff, Nat.reduceAdd]
  refine hQ _ _ _ ?_
  simp (maxSteps := 1000000) (disch := omega) only [S, S1, S2, S3, S4, S5, ST, eq_self, reduceIte, reduceCtorEq, Nat.reduceEqDiff, Nat.reduceAdd]
theorem Less_c (x y : Int) (H : AH) : ACalls Try.prog 221 [.int .i64 x, .int .i64 y] H fun r H' => r = .bool (decide (x < y)) ∧ H = H' := by
  refine in221 rfl ?_
  intro Q hQ
  simp (maxSteps := 1000000) (disch := omega) only [cd221, S, S1, S2, S3, S4, S5, ST, eq_self, reduceIte, reduceCtorEq, Nat.reduceEqDiff, Nat.reduceAdd]
  refine CallH.by (isNaN_c ..) ?_
  rintro _ _ ⟨rfl, rfl⟩
  simp (maxSteps := 1000000) (disch := omega) only [S, S1, S2, S3, S4, S5, ST, eq_self, reduceIte, reduceCtorEq, Nat.reduceEqDiff, Nat.reduceAdd]
  refine hQ _ _ _ ?_
  simp (maxSteps := 1000000) (disch := omega) only [S, S1, S2, S3, S4, S5, ST, eq_self, reduceIte, reduceCtorEq, Nat.reduceEqDiff, Nat.reduceAdd]
theorem getD_set (xs : List Int) (i k : Nat) (x : Int) (hi : i < xs.length) : (xs.set i x).getD k 0 = if k = i then x else xs.getD k 0 := by
  rw [List.getD_eq_getElem?_getD, List.getElem?_set]
  by_cases h : i = k
  · subst h; rw [if_pos rfl, if_pos rfl, if_pos hi]; rfl
  · rw [if_neg h, if_neg (fun e => h e.symm), ← List.getD_eq_getElem?_getD]
/-- two places exchanged -/
theorem swap_perm (xs : List Int) (i j : Nat) (hi : i < xs.length) (hj : j < xs.length) : ((xs.set i (xs.getD j 0)).set j (xs.getD i 0)).Perm xs := by
  have h := @List.set_set_perm _ xs i j hi hj
  have e1 : xs.getD j 0 = xs[j] := by simp [hj]
  have e2 : xs.getD i 0 = xs[i] := by simp [hi]
  rw [e1, e2]; exact h
theorem swap_at (zs : List Int) (j k p : Nat) (a b : Int) (hj : j < zs.length) (hk : k < zs.length) : ((zs.set j a).set k b).getD p 0 = if p = k then b else if p = j then a else zs.getD p 0 := by
  rw [getD_set (zs.set j a) k p b (by simpa using hk), getD_set zs j p a hj]
set_option maxHeartbeats 2000000 in
theorem insSort_c (o : Nat) (xs : List Int) (H : AH) (ho : H[o]? = some (.cells (ints xs) 3 false)) (hlen : xs.length ≤ 1099511627776) :
    ACalls Try.prog 215 [.slice (some ⟨o, 0, none⟩) xs.length xs.length, .int .i64 0, .int .i64 (xs.length : Int)] H fun r H' => ∃ ys, H' = H.set o (.cells (ints ys) 3 false) ∧ ys.Perm xs ∧ Asc ys := by
  refine in215 rfl ?_
  intro Q hQ
  generalize hn : xs.length = n at *
  simp (maxSteps := 1000000) (disch := omega) only [cd215, wrap64, S, S1, S2, S3, S4, S5, ST, eq_self, reduceIte, reduceCtorEq, Nat.reduceEqDiff, Nat.reduceAdd]
  refine LoopH.by (fun m s H' => ∃ i ys, m + i = n + 1 ∧ 1 ≤ i ∧ s 0 = .slice (some ⟨o, 0, none⟩) n n ∧ s 1 = .int .i64 0 ∧ s 2 = .int .i64 (n : Int) ∧ s 6 = .int .i64 ((i : Nat) : Int) ∧ H' = H.set o (.cells (ints ys) 3 false) ∧ ys.Perm xs ∧ ∀ p q, p < q → q < i → q < n → ys.getD p 0 ≤ ys.getD q 0) n ?_ ?_
  · refine ⟨1, xs, by omega, by omega, rfl, rfl, rfl, rfl, ?_, List.Perm.refl _, by omega⟩
    apply List.ext_getElem?
    intro j
    rw [List.getElem?_set]
    by_cases hj : o = j
    · subst hj; rw [if_pos rfl, if_pos (at_lt ho), ho]
    · rw [if_neg hj]
  · rintro m s H' ⟨i, ys, hm, hi1, h0, h1, h2, h6, rfl, hp, hs⟩
    have hyl : ys.length = n := by rw [hp.length_eq, hn]
    simp (maxSteps := 1000000) (disch := omega) only [h0, h1, h2, h6, S, S1, S2, S3, S4, S5, ST, eq_self, reduceIte, reduceCtorEq, Nat.reduceEqDiff, Nat.reduceAdd]
    refine brD.intro (fun g => ?_) (fun g => ?_) <;> simp (maxSteps := 1000000) (disch := omega) only [h0, h1, h2, h6, S, S1, S2, S3, S4, S5, ST, eq_self, reduceIte, reduceCtorEq, Nat.reduceEqDiff, Nat.reduceAdd]
    · have hi : i < n := by omega
      refine LoopH.by (fun m' s' H'' => ∃ zs, m' ≤ i ∧ s' 0 = .slice (some ⟨o, 0, none⟩) n n ∧ s' 1 = .int .i64 0 ∧ s' 2 = .int .i64 (n : Int) ∧ s' 6 = .int .i64 ((i : Nat) : Int) ∧ s' 7 = .int .i64 ((m' : Nat) : Int) ∧ H'' = H.set o (.cells (ints zs) 3 false) ∧ zs.Perm xs ∧ ∀ p q, p < q → q ≤ i → q ≠ m' → zs.getD p 0 ≤ zs.getD q 0) i ?_ ?_
      · refine ⟨ys, Nat.le_refl _, ?_⟩
        have f1 : ∀ p q, p < q → q ≤ i → q ≠ i → ys.getD p 0 ≤ ys.getD q 0 := fun p q h1 h2 h3 => hs p q h1 (by omega) (by omega)
        simp only [S, S1, S2, S3, S4, S5, ST, eq_self, reduceIte, reduceCtorEq, Nat.reduceEqDiff, Nat.reduceAdd, h0, h1, h2, h6]
        exact ⟨hp, f1⟩
      · rintro j s' H'' ⟨zs, hj, g0, g1, g2, g6, g7, rfl, hq, hz⟩
        have hzl : zs.length = n := by rw [hq.length_eq, hn]
        have hc : (H.set o (.cells (ints zs) 3 false))[o]? = some (.cells (ints zs) 3 false) := at_set ho
        have out : (j = 0 ∨ zs.getD (j - 1) 0 ≤ zs.getD j 0) → ∀ p q, p < q → q < i + 1 → q < n → zs.getD p 0 ≤ zs.getD q 0 := by
          intro h p q h1 h2 h3
          by_cases e : q = j
          · subst e
            rcases h with h | h
            · omega
            · by_cases e2 : p = q - 1
              · subst e2; exact h
              · have := hz p (q - 1) (by omega) (by omega) (by omega)
                omega
          · exact hz p q h1 (by omega) e
        simp (maxSteps := 1000000) (disch := omega) only [g0, g1, g2, g6, g7, S, S1, S2, S3, S4, S5, ST, eq_self, reduceIte, reduceCtorEq, Nat.reduceEqDiff, Nat.reduceAdd]
        refine brD.intro (fun q => ?_) (fun q => ?_)
        · have hj0 : 0 < j := by omega
          have e1 : ((j : Int) - 1).toNat = j - 1 := by omega
          have e3 : ((j : Int) - 1) = ((j - 1 : Nat) : Int) := by omega
          have c1 : cellA (H.set o (.cells (ints zs) 3 false)) o j = some (.int .i64 (zs.getD j 0)) := cell_ints hc (by omega)
          have c2 : cellA (H.set o (.cells (ints zs) 3 false)) o (j - 1) = some (.int .i64 (zs.getD (j - 1) 0)) := cell_ints hc (by omega)
          simp (maxSteps := 1000000) (disch := omega) only [q, g0, g1, g2, g6, g7, Int.toNat_natCast, Nat.zero_add, e1, c1, c2, wrap64, S, S1, S2, S3, S4, S5, ST, eq_self, reduceIte, reduceCtorEq, Nat.reduceEqDiff, Nat.reduceAdd]
          refine CallH.by (Less_c ..) ?_
          rintro _ _ ⟨rfl, rfl⟩
          simp (maxSteps := 1000000) (disch := omega) only [q, S, S1, S2, S3, S4, S5, ST, eq_self, reduceIte, reduceCtorEq, Nat.reduceEqDiff, Nat.reduceAdd]
          refine brD.intro (fun lt => ?_) (fun lt => ?_)
          · have st1 : ∀ x, storeA Try.prog 3 (.pointer (some ⟨o, j, none⟩)) (.int .i64 x) (H.set o (.cells (ints zs) 3 false)) = some (H.set o (.cells (ints (zs.set j x)) 3 false)) := by
              intro x; rw [st_ints cs3 hc (by omega), List.set_set]
            have st2 : ∀ x y, storeA Try.prog 3 (.pointer (some ⟨o, j - 1, none⟩)) (.int .i64 x) (H.set o (.cells (ints (zs.set j y)) 3 false)) = some (H.set o (.cells (ints ((zs.set j y).set (j - 1) x)) 3 false)) := by
              intro x y
              have : (H.set o (.cells (ints (zs.set j y)) 3 false))[o]? = some (.cells (ints (zs.set j y)) 3 false) := at_set ho
              rw [st_ints cs3 this (by simp; omega), List.set_set]
            simp (maxSteps := 1000000) (disch := omega) only [g0, g1, g2, g6, g7, Int.toNat_natCast, Nat.zero_add, e1, c1, c2, st1, st2, wrap64, S, S1, S2, S3, S4, S5, ST, eq_self, reduceIte, reduceCtorEq, Nat.reduceEqDiff, Nat.reduceAdd]
            have f1 := swap_perm zs j (j - 1) (by omega) (by omega)
            have f2 : ∀ p q, p < q → q ≤ i → q ≠ j - 1 → ((zs.set j (zs.getD (j - 1) 0)).set (j - 1) (zs.getD j 0)).getD p 0 ≤ ((zs.set j (zs.getD (j - 1) 0)).set (j - 1) (zs.getD j 0)).getD q 0 := by
              intro p q h1 h2 h3
              rw [swap_at zs j (j - 1) p _ _ (by omega) (by omega), swap_at zs j (j - 1) q _ _ (by omega) (by omega), if_neg h3]
              by_cases ep : p = j - 1
              · rw [if_pos ep]
                by_cases eq : q = j
                · rw [if_pos eq]; omega
                · rw [if_neg eq]; exact hz j q (by omega) h2 eq
              · rw [if_neg ep]
                by_cases ep2 : p = j
                · rw [if_pos ep2, if_neg (by omega)]; exact hz (j - 1) q (by omega) h2 (by omega)
                · rw [if_neg ep2]
                  by_cases eq : q = j
                  · rw [if_pos eq]; exact hz p (j - 1) (by omega) (by omega) (by omega)
                  · rw [if_neg eq]; exact hz p q h1 h2 eq
            refine ⟨j - 1, by omega, (zs.set j (zs.getD (j - 1) 0)).set (j - 1) (zs.getD j 0), ?_⟩
            (repeat' apply And.intro) <;> first | exact f1.trans hq | exact f2 | (simp only [Value.int.injEq, true_and]; omega) | omega | rfl | assumption | (simp; done) | (simp; omega)
          · simp (maxSteps := 1000000) (disch := omega) only [g0, g1, g2, g6, g7, wrap64, S, S1, S2, S3, S4, S5, ST, eq_self, reduceIte, reduceCtorEq, Nat.reduceEqDiff, Nat.reduceAdd]
            have f1 := out (.inr (by omega))
            refine ⟨m - 1, by omega, i + 1, zs, ?_⟩
            (repeat' apply And.intro) <;> first | exact hq | exact f1 | (simp only [Value.int.injEq, true_and]; omega) | omega | rfl | assumption | (simp; done) | (simp; omega)
        · simp (maxSteps := 1000000) (disch := omega) only [q, g0, g1, g2, g6, g7, wrap64, S, S1, S2, S3, S4, S5, ST, eq_self, reduceIte, reduceCtorEq, Nat.reduceEqDiff, Nat.reduceAdd]
          have f1 := out (.inl (by omega))
          refine ⟨m - 1, by omega, i + 1, zs, ?_⟩
          (repeat' apply And.intro) <;> first | exact hq | exact f1 | (simp only [Value.int.injEq, true_and]; omega) | omega | rfl | assumption | (simp; done) | (simp; omega)
    · refine hQ _ _ _ ?_
      simp (maxSteps := 1000000) (disch := omega) only [S, S1, S2, S3, S4, S5, ST, eq_self, reduceIte, reduceCtorEq, Nat.reduceEqDiff, Nat.reduceAdd]
      refine ⟨ys, rfl, hp, ?_⟩
      intro p q h1 h2
      exact hs p q h1 (by omega) (by omega)
theorem insNil_c (H : AH) : ACalls Try.prog 215 [.slice none 0 0, .int .i64 0, .int .i64 0] H fun r H' => H = H' := by
  refine in215 rfl ?_
  intro Q hQ
  simp (maxSteps := 1000000) (disch := omega) only [cd215, wrap64, S, S1, S2, S3, S4, S5, ST, eq_self, reduceIte, reduceCtorEq, Nat.reduceEqDiff, Nat.reduceAdd]
  refine LoopH.by (fun m s H' => s 2 = .int .i64 0 ∧ s 6 = .int .i64 1 ∧ H = H') 0 ?_ ?_
  · exact ⟨rfl, rfl, rfl⟩
  · rintro m s H' ⟨h2, h6, rfl⟩
    simp (maxSteps := 1000000) (disch := omega) only [h2, h6, S, S1, S2, S3, S4, S5, ST, eq_self, reduceIte, reduceCtorEq, Nat.reduceEqDiff, Nat.reduceAdd]
    refine brD.intro (fun h => absurd h (by decide)) (fun _ => ?_)
    simp (maxSteps := 1000000) (disch := omega) only [S, S1, S2, S3, S4, S5, ST, eq_self, reduceIte, reduceCtorEq, Nat.reduceEqDiff, Nat.reduceAdd]
    refine hQ _ _ _ ?_
    simp (maxSteps := 1000000) (disch := omega) only [S, S1, S2, S3, S4, S5, ST, eq_self, reduceIte, reduceCtorEq, Nat.reduceEqDiff, Nat.reduceAdd]
theorem wrapU64 {n : Int} (h1 : 0 ≤ n) (h2 : n < 18446744073709551616) : IntKind.u64.wrap n = n := by rw [IntKind.wrap_u64]; omega
theorem wrapU8 {n : Int} (h1 : 0 ≤ n) (h2 : n < 256) : IntKind.u8.wrap n = n := by rw [IntKind.wrap_u8]; omega
theorem str_ix {P : Program} {t : TypeId} (hu : P.underlying t = some .string) (s : ByteArray) (k : IntKind) (i : Int) (h0 : 0 ≤ i) (h1 : i.toNat < s.size) : ∃ b : UInt8, indexA P t (.string s) (.int k i) = some (.int .u8 b.toNat) := by
  have : s[i.toNat]? = some s[i.toNat] := by simp [h1]
  exact ⟨s[i.toNat], by simp only [indexA, hu, if_pos h0, this]⟩
set_option maxRecDepth 20000 in
theorem Len64_c (n : Int) (H : AH) (hn : 0 ≤ n ∧ n < 256) : ACalls Try.prog 225 [.int .u64 n] H fun r H' => (∃ k : Int, r = .int .i64 k) ∧ H = H' := by
  refine in225 rfl ?_
  intro Q hQ
  simp (maxSteps := 1000000) (disch := omega) only [cd225, S, S1, S2, S3, S4, S5, ST, eq_self, reduceIte, reduceCtorEq, Nat.reduceEqDiff, Nat.reduceAdd]
  refine brD.intro (fun h => absurd h (by omega)) (fun _ => ?_)
  simp (maxSteps := 1000000) (disch := omega) only [S, S1, S2, S3, S4, S5, ST, eq_self, reduceIte, reduceCtorEq, Nat.reduceEqDiff, Nat.reduceAdd]
  refine brD.intro (fun h => absurd h (by omega)) (fun _ => ?_)
  simp (maxSteps := 1000000) (disch := omega) only [S, S1, S2, S3, S4, S5, ST, eq_self, reduceIte, reduceCtorEq, Nat.reduceEqDiff, Nat.reduceAdd]
  refine brD.intro (fun h => absurd h (by omega)) (fun _ => ?_)
  simp (maxSteps := 1000000) (disch := omega) only [wrapU8, S, S1, S2, S3, S4, S5, ST, eq_self, reduceIte, reduceCtorEq, Nat.reduceEqDiff, Nat.reduceAdd]
  generalize hs : (ByteArray.mk _) = s
  have hz : s.size = 256 := by rw [← hs]; rfl
  obtain ⟨b, hb⟩ := str_ix (P := Try.prog) Try.underlying9 s .u8 n hn.1 (by omega)
  simp (maxSteps := 1000000) (disch := omega) only [hb, S, S1, S2, S3, S4, S5, ST, eq_self, reduceIte, reduceCtorEq, Nat.reduceEqDiff, Nat.reduceAdd]
  refine hQ _ _ _ ?_
  simp (maxSteps := 1000000) (disch := omega) only [S, S1, S2, S3, S4, S5, ST, eq_self, reduceIte, reduceCtorEq, Nat.reduceEqDiff, Nat.reduceAdd]
  exact ⟨_, rfl⟩
theorem Len_c (n : Int) (H : AH) (hn : 0 ≤ n ∧ n < 256) : ACalls Try.prog 166 [.int .u64 n] H fun r H' => (∃ k : Int, r = .int .i64 k) ∧ H = H' := by
  refine in166 rfl ?_
  intro Q hQ
  simp (maxSteps := 1000000) (disch := omega) only [cd166, S, S1, S2, S3, S4, S5, ST, eq_self, reduceIte, reduceCtorEq, Nat.reduceEqDiff, Nat.reduceAdd]
  refine CallH.by (Len64_c n H hn) ?_
  rintro _ _ ⟨⟨k, rfl⟩, rfl⟩
  simp (maxSteps := 1000000) (disch := omega) only [S, S1, S2, S3, S4, S5, ST, eq_self, reduceIte, reduceCtorEq, Nat.reduceEqDiff, Nat.reduceAdd]
  refine hQ _ _ _ ?_
  simp (maxSteps := 1000000) (disch := omega) only [S, S1, S2, S3, S4, S5, ST, eq_self, reduceIte, reduceCtorEq, Nat.reduceEqDiff, Nat.reduceAdd]
  exact ⟨_, rfl⟩
theorem pdq_c (o : Nat) (xs : List Int) (l : Int) (H : AH) (ho : H[o]? = some (.cells (ints xs) 3 false)) (hlen : xs.length ≤ 12) :
    ACalls Try.prog 165 [.slice (some ⟨o, 0, none⟩) xs.length xs.length, .int .i64 0, .int .i64 (xs.length : Int), .int .i64 l] H fun r H' => ∃ ys, H' = H.set o (.cells (ints ys) 3 false) ∧ ys.Perm xs ∧ Asc ys := by
  refine in165 rfl ?_
  intro Q hQ
  simp (maxSteps := 1000000) (disch := omega) only [cd165, S, S1, S2, S3, S4, S5, ST, eq_self, reduceIte, reduceCtorEq, Nat.reduceEqDiff, Nat.reduceAdd]
  refine LoopH.by (fun m s H' => s 0 = .slice (some ⟨o, 0, none⟩) xs.length xs.length ∧ s 1 = .int .i64 0 ∧ s 2 = .int .i64 (xs.length : Int) ∧ H = H') 0 ?_ ?_
  · exact ⟨rfl, rfl, rfl, rfl⟩
  · rintro m s H' ⟨h0, h1, h2, rfl⟩
    simp (maxSteps := 1000000) (disch := omega) only [h0, h1, h2, wrap64, S, S1, S2, S3, S4, S5, ST, eq_self, reduceIte, reduceCtorEq, Nat.reduceEqDiff, Nat.reduceAdd]
    refine brD.intro (fun _ => ?_) (fun h => absurd h (by omega))
    simp (maxSteps := 1000000) (disch := omega) only [h0, h1, h2, S, S1, S2, S3, S4, S5, ST, eq_self, reduceIte, reduceCtorEq, Nat.reduceEqDiff, Nat.reduceAdd]
    refine CallH.by (insSort_c o xs H ho (by omega)) ?_
    rintro r H1 hr
    simp (maxSteps := 1000000) (disch := omega) only [S, S1, S2, S3, S4, S5, ST, eq_self, reduceIte, reduceCtorEq, Nat.reduceEqDiff, Nat.reduceAdd]
    refine hQ _ _ _ ?_
    simp (maxSteps := 1000000) (disch := omega) only [S, S1, S2, S3, S4, S5, ST, eq_self, reduceIte, reduceCtorEq, Nat.reduceEqDiff, Nat.reduceAdd]
    exact hr
theorem pdqNil_c (l : Int) (H : AH) : ACalls Try.prog 165 [.slice none 0 0, .int .i64 0, .int .i64 0, .int .i64 l] H fun r H' => H = H' := by
  refine in165 rfl ?_
  intro Q hQ
  simp (maxSteps := 1000000) (disch := omega) only [cd165, S, S1, S2, S3, S4, S5, ST, eq_self, reduceIte, reduceCtorEq, Nat.reduceEqDiff, Nat.reduceAdd]
  refine LoopH.by (fun m s H' => s 0 = .slice none 0 0 ∧ s 1 = .int .i64 0 ∧ s 2 = .int .i64 0 ∧ H = H') 0 ?_ ?_
  · exact ⟨rfl, rfl, rfl, rfl⟩
  · rintro m s H' ⟨h0, h1, h2, rfl⟩
    simp (maxSteps := 1000000) (disch := omega) only [h0, h1, h2, wrap64, S, S1, S2, S3, S4, S5, ST, eq_self, reduceIte, reduceCtorEq, Nat.reduceEqDiff, Nat.reduceAdd]
    refine brD.intro (fun _ => ?_) (fun h => absurd h (by decide))
    simp (maxSteps := 1000000) (disch := omega) only [h0, h1, h2, S, S1, S2, S3, S4, S5, ST, eq_self, reduceIte, reduceCtorEq, Nat.reduceEqDiff, Nat.reduceAdd]
    refine CallH.by (insNil_c ..) ?_
    rintro _ _ rfl
    simp (maxSteps := 1000000) (disch := omega) only [S, S1, S2, S3, S4, S5, ST, eq_self, reduceIte, reduceCtorEq, Nat.reduceEqDiff, Nat.reduceAdd]
    refine hQ _ _ _ ?_
    simp (maxSteps := 1000000) (disch := omega) only [S, S1, S2, S3, S4, S5, ST, eq_self, reduceIte, reduceCtorEq, Nat.reduceEqDiff, Nat.reduceAdd]
theorem Sort_c (v : Value) (xs : List Int) (H0 H : AH) (ho : Own 3 H0 H v xs) (hlen : xs.length ≤ 12) :
    ACalls Try.prog 92 [v] H fun r H' => ∃ ys, Own 3 H0 H' v ys ∧ ys.Perm xs ∧ Asc ys ∧ Else v H H' := by
  refine in92 rfl ?_
  intro Q hQ
  obtain ⟨p, e⟩ := ho.row.shape
  rcases ho with ⟨rfl, rfl⟩ | ⟨o, rfl, hoo, hc⟩
  · simp (maxSteps := 1000000) (disch := omega) only [cd92, wrapU64, List.length_nil, Int.natCast_zero, S, S1, S2, S3, S4, S5, ST, eq_self, reduceIte, reduceCtorEq, Nat.reduceEqDiff, Nat.reduceAdd]
    refine CallH.by (Len_c _ _ (by decide)) ?_
    rintro _ _ ⟨⟨k, rfl⟩, rfl⟩
    simp (maxSteps := 1000000) (disch := omega) only [List.length_nil, Int.natCast_zero, S, S1, S2, S3, S4, S5, ST, eq_self, reduceIte, reduceCtorEq, Nat.reduceEqDiff, Nat.reduceAdd]
    refine CallH.by (pdqNil_c k H) ?_
    rintro _ _ rfl
    simp (maxSteps := 1000000) (disch := omega) only [S, S1, S2, S3, S4, S5, ST, eq_self, reduceIte, reduceCtorEq, Nat.reduceEqDiff, Nat.reduceAdd]
    refine hQ _ _ _ ?_
    simp (maxSteps := 1000000) (disch := omega) only [S, S1, S2, S3, S4, S5, ST, eq_self, reduceIte, reduceCtorEq, Nat.reduceEqDiff, Nat.reduceAdd]
    exact ⟨[], .inl ⟨rfl, rfl⟩, List.Perm.refl _, fun i j _ h => by simp at h, Else.refl _ _⟩
  · simp (maxSteps := 1000000) (disch := omega) only [cd92, wrapU64, S, S1, S2, S3, S4, S5, ST, eq_self, reduceIte, reduceCtorEq, Nat.reduceEqDiff, Nat.reduceAdd]
    refine CallH.by (Len_c _ _ (by omega)) ?_
    rintro _ _ ⟨⟨k, rfl⟩, rfl⟩
    simp (maxSteps := 1000000) (disch := omega) only [S, S1, S2, S3, S4, S5, ST, eq_self, reduceIte, reduceCtorEq, Nat.reduceEqDiff, Nat.reduceAdd]
    refine CallH.by (pdq_c o xs k H hc hlen) ?_
    rintro _ H1 ⟨ys, rfl, hp, ha⟩
    simp (maxSteps := 1000000) (disch := omega) only [S, S1, S2, S3, S4, S5, ST, eq_self, reduceIte, reduceCtorEq, Nat.reduceEqDiff, Nat.reduceAdd]
    refine hQ _ _ _ ?_
    simp (maxSteps := 1000000) (disch := omega) only [S, S1, S2, S3, S4, S5, ST, eq_self, reduceIte, reduceCtorEq, Nat.reduceEqDiff, Nat.reduceAdd]
    exact ⟨ys, .inr ⟨o, by rw [hp.length_eq], hoo, at_set hc⟩, hp, ha, Else.set _ _⟩
end Go.Proofs.Ytlfongfhbkefmaa.Ai
namespace Go.Proofs.Ytlfongfhbkefmaa.Ai
open Go
def ords244 : List (Nat × List (Nat × Bool)) := []
def cd244 : Cd := (.seq (.reg [⟨⟨some 2, Op.assign (Operand.const (Value.slice none 0 0)), none⟩, []⟩]) (.seq (.reg [⟨⟨some 3, Op.move (Operand.tmp 0), none⟩, []⟩,
  ⟨⟨some 4, Op.call { callee := (Callee.value (Operand.func 266)), args := #[(Operand.const (Value.slice none 0 0)), (Operand.tmp 3)], argTypes := #[38, 168] }, none⟩, []⟩,
  ⟨⟨some 2, Op.assign (Operand.tmp 4), none⟩, []⟩]) .ret))
theorem sl244 : slim Try.f244.ntmps ords244 (Try.f244.body.getD .skip) = some cd244 := by kernel_rfl
theorem in244 {args : List Value} {H : AH} {R : Value → AH → Prop} (hl : args.length = 1) (h : ∀ (Q : Exit → Sl → AH → Prop), (∀ e s H, endA Try.prog [ResultVar.tmp 2] R e s H → Q e s H) → wpC Try.prog cd244 Q (enterA args) H) : ACalls Try.prog 244 args H R :=
  ACalls.intro (by kernel_rfl) Try.func244 rfl (by kernel_rfl) sl244 hl (of_decide_eq_true (by kernel_rfl)) (by kernel_rfl) h
def ords203 : List (Nat × List (Nat × Bool)) := []
def cd203 : Cd := (.seq (.reg [⟨⟨some 1, Op.box 38 (Operand.tmp 0), none⟩, []⟩,
  ⟨⟨some 2, Op.assign (Operand.const Value.nilFunc), none⟩, []⟩]) (.seq (.reg [⟨⟨some 3, Op.makeFunc (Fn.func 245) #[] #[(Operand.tmp 1)], none⟩, []⟩,
  ⟨⟨some 2, Op.assign (Operand.tmp 3), none⟩, []⟩]) .ret))
theorem sl203 : slim Try.f203.ntmps ords203 (Try.f203.body.getD .skip) = some cd203 := by kernel_rfl
theorem in203 {args : List Value} {H : AH} {R : Value → AH → Prop} (hl : args.length = 1) (h : ∀ (Q : Exit → Sl → AH → Prop), (∀ e s H, endA Try.prog [ResultVar.tmp 2] R e s H → Q e s H) → wpC Try.prog cd203 Q (enterA args) H) : ACalls Try.prog 203 args H R :=
  ACalls.intro (by kernel_rfl) Try.func203 rfl (by kernel_rfl) sl203 hl (of_decide_eq_true (by kernel_rfl)) (by kernel_rfl) h
def ords202 : List (Nat × List (Nat × Bool)) := []
def cd202 : Cd := (.seq (.reg [⟨⟨some 2, Op.assign (Operand.const (Value.slice none 0 0)), none⟩, []⟩]) (.seq (.reg [⟨⟨some 4, Op.move (Operand.tmp 0), none⟩, []⟩,
  ⟨⟨some 5, Op.call { callee := (Callee.value (Operand.func 244)), args := #[(Operand.tmp 4)], argTypes := #[168] }, none⟩, []⟩,
  ⟨⟨some 3, Op.assign (Operand.tmp 5), none⟩, []⟩]) (.seq (.reg [⟨⟨some 6, Op.move (Operand.tmp 3), none⟩, []⟩,
  ⟨⟨some 7, Op.call { callee := (Callee.value (Operand.func 92)), args := #[(Operand.tmp 6)], argTypes := #[38] }, none⟩, []⟩]) (.seq (.reg [⟨⟨some 8, Op.move (Operand.tmp 3), none⟩, []⟩,
  ⟨⟨some 2, Op.assign (Operand.tmp 8), none⟩, []⟩]) .ret))))
theorem sl202 : slim Try.f202.ntmps ords202 (Try.f202.body.getD .skip) = some cd202 := by kernel_rfl
theorem in202 {args : List Value} {H : AH} {R : Value → AH → Prop} (hl : args.length = 1) (h : ∀ (Q : Exit → Sl → AH → Prop), (∀ e s H, endA Try.prog [ResultVar.tmp 2] R e s H → Q e s H) → wpC Try.prog cd202 Q (enterA args) H) : ACalls Try.prog 202 args H R :=
  ACalls.intro (by kernel_rfl) Try.func202 rfl (by kernel_rfl) sl202 hl (of_decide_eq_true (by kernel_rfl)) (by kernel_rfl) h
end Go.Proofs.Ytlfongfhbkefmaa.Ai
namespace Go.Proofs.Ytlfongfhbkefmaa.Ai
open Go Go.RowKit
set_option linter.unusedVariables false
set_option linter.unusedSimpArgs false
theorem AppendSeq_c (o k : Nat) (v : Value) (xs : List Int) (H : AH) (ho : cellA H o k = some v) (hr : Row 3 H v xs) (hlen : xs.length ≤ 1099511627776) :
    ACalls Try.prog 266 [.slice none 0 0, .func (.func 245) #[] (List.toArray [.pointer (some ⟨o, k, none⟩)])] H fun r H' => Own 3 H H' r xs ∧ H <+: H' := by
  refine ⟨⟨_, Try.func266, rfl, by kernel_rfl⟩, ?_⟩
  intro μ w cargs hH hall
  -- what the arguments are in memory
  obtain ⟨c0, c1, e0⟩ : ∃ c0 c1, cargs = #[c0, c1] := by
    match hcs : cargs.toList, hall with
    | [c0, c1], _ => exact ⟨c0, c1, by rw [← Array.toArray_toList (xs := cargs), hcs]⟩
  subst e0
  obtain ⟨h0, h1, _⟩ := hall
  obtain ⟨_, _, e0⟩ := h0
  subst e0
  obtain ⟨es0, ds, e1, hes0, hds⟩ := h1
  have ees : es0 = #[] := by
    match hcs : es0.toList, hes0 with
    | [], _ => rw [← Array.toArray_toList (xs := es0), hcs]
  subst ees
  subst e1
  obtain ⟨d, ed⟩ : ∃ d, ds = #[d] := by
    match hcs : ds.toList, hds with
    | [d], _ => exact ⟨d, by rw [← Array.toArray_toList (xs := ds), hcs]⟩
  subst ed
  obtain ⟨⟨_, L, hL, e2⟩, _⟩ := hds
  subst e2
  -- the box and what it holds
  unfold cellA at ho
  split at ho
  case h_2 => cases ho
  rename_i vs t ro hobj
  obtain ⟨f1, f2, f3, f4, f5, f6⟩ := hH.cells_ o vs t ro L hobj hL
  obtain ⟨cv, g1, g2⟩ := f5 k v ho
  have hI : SlInts w.heap.size w cv xs := by
    rcases hr with ⟨rfl, rfl⟩ | ⟨o', k', us, ro', rfl, hu, hk, he⟩
    · obtain ⟨_, _, e⟩ := g2
      exact .inl ⟨_, _, e, rfl⟩
    · obtain ⟨_, _, a, m, e, hm, hor⟩ := g2
      by_cases hz : xs.length = 0
      · have : xs = [] := List.eq_nil_of_length_eq_zero hz
        subst this
        exact .inl ⟨_, _, e, rfl⟩
      · rcases hor with hor | ⟨L', hL', ea, hx⟩
        · omega
        · subst ea
          obtain ⟨q1, q2, q3, q4, q5, q6⟩ := hH.cells_ o' us _ ro' L' hu hL'
          refine .inr ⟨L'.blk, L'.base + k', m, e, q1, ?_⟩
          intro j hj
          have hat : us[k' + j]? = some (.int .i64 (xs.getD j 0)) := by
            have := congrArg (·[j]?) he
            simp only [List.getElem?_take, List.getElem?_drop, if_pos hj] at this
            rw [this, ints_at xs hj]
          obtain ⟨cv2, p1, p2⟩ := q5 _ _ hat
          have : cv2 = .int .i64 (xs.getD j 0) := p2
          rw [Nat.add_assoc, p1, this, List.getD_eq_getElem?_getD]
  refine (appendSeq_calls L.blk (L.base + k) cv xs hlen w f1 g1 hI).mono ?_
  rintro e w' ⟨v', rfl, hrow, hnil, hb⟩
  rcases hrow with ⟨_, ⟨hv, hz⟩ | ⟨g, cap, cur, hv, hg, hcell, hn, hcap, hsz, hcur⟩⟩
  · have : xs = [] := List.eq_nil_of_length_eq_zero hz
    subst this
    exact ⟨μ, .slice none 0 0, H, v', rfl, by rw [hv]; exact ⟨rfl, rfl, rfl⟩, hH.below hb, Evo.below' hH hb, .inl ⟨rfl, rfl⟩, List.prefix_refl _⟩
  · have hc1 : Try.prog.cellsOf 3 = 1 := cs3
    have hcs : ∀ (i : Nat) (x : Value), (ints xs)[i]? = some x → ∃ cv, cur[i]? = some cv ∧ CRel μ x cv := by
      intro i x hx
      have hi : i < xs.length := by have := (List.getElem?_eq_some_iff.1 hx).1; rwa [ints_len] at this
      have := congrArg (·[i]?) hcur
      simp only [Nat.mul_one, List.getElem?_take, if_pos hi, Array.getElem?_toList] at this
      have e : (xs.map (Value.int .i64))[i]? = (ints xs)[i]? := rfl
      rw [e, hx] at this
      refine ⟨x, this, ?_⟩
      rw [ints_at xs hi] at hx
      cases hx
      rfl
    have ad := hH.adopt hb (vs := ints xs) (ext := cap) hg hcell (by rw [hc1]; decide) (by rw [ints_len]; exact hn) (by omega) hcs
    refine ⟨_, .slice (some ⟨H.length, 0, none⟩) xs.length xs.length, _, v', rfl, ?_, ad.1, ad.2, .inr ⟨H.length, rfl, Nat.le_refl _, at_new ..⟩, List.prefix_append _ _⟩
    rw [hv]
    exact ⟨rfl, rfl, _, cap, rfl, hn, .inr ⟨_, Mu.put_same _ _ _, rfl, by rw [hc1]; simp⟩⟩
theorem Collect_c (o k : Nat) (v : Value) (xs : List Int) (H : AH) (ho : cellA H o k = some v) (hr : Row 3 H v xs) (hlen : xs.length ≤ 1099511627776) :
    ACalls Try.prog 244 [.func (.func 245) #[] (List.toArray [.pointer (some ⟨o, k, none⟩)])] H fun r H' => Own 3 H H' r xs ∧ H <+: H' := by
  refine in244 rfl ?_
  intro Q hQ
  simp (maxSteps := 1000000) (disch := omega) only [cd244, S, S1, S2, S3, S4, S5, ST, eq_self, reduceIte, reduceCtorEq, Nat.reduceEqDiff, Nat.reduceAdd]
  refine CallH.by (AppendSeq_c o k v xs H ho hr hlen) ?_
  rintro r H1 ⟨hown, hp⟩
  simp (maxSteps := 1000000) (disch := omega) only [hown.row.tup, S, S1, S2, S3, S4, S5, ST, eq_self, reduceIte, reduceCtorEq, Nat.reduceEqDiff, Nat.reduceAdd]
  refine hQ _ _ _ ?_
  simp (maxSteps := 1000000) (disch := omega) only [hown.row.tup, S, S1, S2, S3, S4, S5, ST, eq_self, reduceIte, reduceCtorEq, Nat.reduceEqDiff, Nat.reduceAdd]
  exact ⟨hown, hp⟩
theorem Values_c (v : Value) (xs : List Int) (H : AH) (hr : Row 3 H v xs) :
    ACalls Try.prog 203 [v] H fun r H' => r = .func (.func 245) #[] (List.toArray [.pointer (some ⟨H.length, 0, none⟩)]) ∧ H' = H ++ [.cells [v] 38 false] := by
  refine in203 rfl ?_
  intro Q hQ
  obtain ⟨p, e⟩ := hr.shape
  have hb : boxA Try.prog 38 v H = some (.pointer (some ⟨H.length, 0, none⟩), H ++ [.cells [v] 38 false]) := by
    subst e
    simp only [boxA, cs38]
    rfl
  have hm : ∀ p : Addr, makeFuncA (.func 245) [] [.pointer (some p)] = some (.func (.func 245) #[] (List.toArray [.pointer (some p)])) := fun _ => rfl
  have ht : ∀ f fs cs, isTup (.func f fs cs) = false := fun _ _ _ => rfl
  simp (maxSteps := 1000000) (disch := omega) only [cd203, hb, hm, ht, S, S1, S2, S3, S4, S5, ST, eq_self, reduceIte, reduceCtorEq, Nat.reduceEqDiff, Nat.reduceAdd]
  refine hQ _ _ _ ?_
  simp (maxSteps := 1000000) (disch := omega) only [ht, S, S1, S2, S3, S4, S5, ST, eq_self, reduceIte, reduceCtorEq, Nat.reduceEqDiff, Nat.reduceAdd]
/-- the sorted list of what a slice shows -/
theorem SortedV_c (o : Nat) (v : Value) (xs : List Int) (H : AH) (ho : cellA H o 0 = some v) (hr : Row 3 H v xs) (hlen : xs.length ≤ 12) :
    ACalls Try.prog 202 [.func (.func 245) #[] (List.toArray [.pointer (some ⟨o, 0, none⟩)])] H fun r H' => ∃ ys, Own 3 H H' r ys ∧ ys.Perm xs ∧ Asc ys ∧ H <+: H' := by
  refine in202 rfl ?_
  intro Q hQ
  simp (maxSteps := 1000000) (disch := omega) only [cd202, S, S1, S2, S3, S4, S5, ST, eq_self, reduceIte, reduceCtorEq, Nat.reduceEqDiff, Nat.reduceAdd]
  refine CallH.by (Collect_c o 0 v xs H ho hr (by omega)) ?_
  rintro u H1 ⟨hown, hp⟩
  simp (maxSteps := 1000000) (disch := omega) only [S, S1, S2, S3, S4, S5, ST, eq_self, reduceIte, reduceCtorEq, Nat.reduceEqDiff, Nat.reduceAdd]
  refine CallH.by (Sort_c u xs H H1 hown hlen) ?_
  rintro _ H2 ⟨ys, hown2, hperm, hasc, hel⟩
  simp (maxSteps := 1000000) (disch := omega) only [hown2.row.tup, S, S1, S2, S3, S4, S5, ST, eq_self, reduceIte, reduceCtorEq, Nat.reduceEqDiff, Nat.reduceAdd]
  refine hQ _ _ _ ?_
  simp (maxSteps := 1000000) (disch := omega) only [hown2.row.tup, S, S1, S2, S3, S4, S5, ST, eq_self, reduceIte, reduceCtorEq, Nat.reduceEqDiff, Nat.reduceAdd]
  exact ⟨ys, hown2, hperm, hasc, hown.else_pre hp hel⟩
end Go.Proofs.Ytlfongfhbkefmaa.Ai
namespace Go.Proofs.Ytlfongfhbkefmaa.Ai
open Go
def ords72 : List (Nat × List (Nat × Bool)) := []
def cd72 : Cd := (.seq (.reg [⟨⟨some 6, Op.assign (Operand.const (Value.bool false)), none⟩, []⟩]) (.seq (.reg [⟨⟨some 7, Op.move (Operand.tmp 0), none⟩, []⟩,
  ⟨⟨some 8, Op.move (Operand.tmp 1), none⟩, []⟩,
  ⟨⟨some 9, Op.binOp BinOp.geq 3 (Operand.tmp 7) (Operand.tmp 8) 3, none⟩, []⟩,
  ⟨⟨some 10, Op.move (Operand.tmp 9), none⟩, []⟩,
  ⟨⟨some 11, Op.move (Operand.tmp 0), some (10, true)⟩, []⟩,
  ⟨⟨some 12, Op.move (Operand.tmp 2), some (10, true)⟩, []⟩,
  ⟨⟨some 13, Op.binOp BinOp.leq 3 (Operand.tmp 11) (Operand.tmp 12) 3, some (10, true)⟩, []⟩,
  ⟨⟨some 14, Op.pick (Operand.tmp 10) (Operand.tmp 13) (Operand.const (Value.bool false)), none⟩, []⟩,
  ⟨⟨some 6, Op.assign (Operand.tmp 14), none⟩, []⟩]) .ret))
theorem sl72 : slim Try.f72.ntmps ords72 (Try.f72.body.getD .skip) = some cd72 := by kernel_rfl
theorem in72 {args : List Value} {H : AH} {R : Value → AH → Prop} (hl : args.length = 3) (h : ∀ (Q : Exit → Sl → AH → Prop), (∀ e s H, endA Try.prog [ResultVar.tmp 6] R e s H → Q e s H) → wpC Try.prog cd72 Q (enterA args) H) : ACalls Try.prog 72 args H R :=
  ACalls.intro (by kernel_rfl) Try.func72 rfl (by kernel_rfl) sl72 hl (of_decide_eq_true (by kernel_rfl)) (by kernel_rfl) h
end Go.Proofs.Ytlfongfhbkefmaa.Ai
namespace Go.Proofs.Ytlfongfhbkefmaa.Ai
open Go Go.RowKit
set_option linter.unusedVariables false
set_option linter.unusedSimpArgs false
theorem between_c (a b c : Int) (H : AH) : ACalls Try.prog 72 [.int .i64 a, .int .i64 b, .int .i64 c] H fun r H' => r = .bool (decide (b ≤ a ∧ a ≤ c)) ∧ H = H' := by
  refine in72 rfl ?_
  intro Q hQ
  simp (maxSteps := 1000000) (disch := omega) only [cd72, S, S1, S2, S3, S4, S5, ST, eq_self, reduceIte, reduceCtorEq, Nat.reduceEqDiff, Nat.reduceAdd]
  refine brD.intro (fun h => ?_) (fun h => ?_) <;> simp (maxSteps := 1000000) (disch := omega) only [h, S, S1, S2, S3, S4, S5, ST, eq_self, reduceIte, reduceCtorEq, Nat.reduceEqDiff, Nat.reduceAdd] <;> refine hQ _ _ _ ?_ <;> simp (maxSteps := 1000000) (disch := omega) only [h, S, S1, S2, S3, S4, S5, ST, eq_self, reduceIte, reduceCtorEq, Nat.reduceEqDiff, Nat.reduceAdd] <;> simp [h]
end Go.Proofs.Ytlfongfhbkefmaa.Ai
namespace Go.Proofs.Ytlfongfhbkefmaa.Ai
open Go
def ords144 : List (Nat × List (Nat × Bool)) := []
def cd144 : Cd := (.seq (.reg [⟨⟨some 4, Op.assign (Operand.const (Value.bool false)), none⟩, []⟩]) (.seq (.seq (.reg [⟨⟨some 5, Op.assign (Operand.const (Value.int IntKind.i64 0)), none⟩, []⟩]) (.block 0 (.loop (.seq (.seq (.reg [⟨⟨some 6, Op.move (Operand.tmp 5), none⟩, []⟩,
  ⟨⟨some 7, Op.move (Operand.tmp 0), none⟩, []⟩,
  ⟨⟨some 8, Op.call { callee := (Callee.builtin Builtin.len), args := #[(Operand.tmp 7)], argTypes := #[38] }, none⟩, []⟩,
  ⟨⟨some 9, Op.binOp BinOp.lss 3 (Operand.tmp 6) (Operand.tmp 8) 3, none⟩, []⟩]) (.cond (Operand.tmp 9) .skip (.exit 0))) (.seq (.block 1 (.seq (.reg [⟨⟨some 12, Op.move (Operand.tmp 0), none⟩, []⟩,
  ⟨⟨some 13, Op.move (Operand.tmp 5), none⟩, []⟩,
  ⟨⟨some 14, Op.indexAddr 38 (Operand.tmp 12) (Operand.tmp 13), none⟩, []⟩,
  ⟨⟨some 15, Op.load 3 (Operand.tmp 14), none⟩, []⟩,
  ⟨⟨some 16, Op.move (Operand.tmp 1), none⟩, []⟩,
  ⟨⟨some 17, Op.binOp BinOp.eql 3 (Operand.tmp 15) (Operand.tmp 16) 3, none⟩, []⟩]) (.cond (Operand.tmp 17) (.seq (.reg [⟨⟨some 4, Op.assign (Operand.const (Value.bool true)), none⟩, []⟩]) .ret) .skip))) (.reg [⟨⟨some 10, Op.move (Operand.tmp 5), none⟩, []⟩,
  ⟨⟨some 11, Op.binOp BinOp.add 3 (Operand.tmp 10) (Operand.const (Value.int IntKind.i64 1)) 3, none⟩, []⟩,
  ⟨⟨some 5, Op.assign (Operand.tmp 11), none⟩, []⟩])))))) (.seq (.reg [⟨⟨some 4, Op.assign (Operand.const (Value.bool false)), none⟩, []⟩]) .ret)))
theorem sl144 : slim Try.f144.ntmps ords144 (Try.f144.body.getD .skip) = some cd144 := by kernel_rfl
theorem in144 {args : List Value} {H : AH} {R : Value → AH → Prop} (hl : args.length = 2) (h : ∀ (Q : Exit → Sl → AH → Prop), (∀ e s H, endA Try.prog [ResultVar.tmp 4] R e s H → Q e s H) → wpC Try.prog cd144 Q (enterA args) H) : ACalls Try.prog 144 args H R :=
  ACalls.intro (by kernel_rfl) Try.func144 rfl (by kernel_rfl) sl144 hl (of_decide_eq_true (by kernel_rfl)) (by kernel_rfl) h
end Go.Proofs.Ytlfongfhbkefmaa.Ai
namespace Go.Proofs.Ytlfongfhbkefmaa.Ai
open Go Go.RowKit
set_option linter.unusedVariables false
set_option linter.unusedSimpArgs false
theorem l1Has_c (v : Value) (xs : List Int) (x : Int) (H : AH) (hr : Row 3 H v xs) (hlen : xs.length ≤ 1099511627776) : ACalls Try.prog 144 [v, .int .i64 x] H fun r H' => r = .bool (decide (x ∈ xs)) ∧ H = H' := by
  refine in144 rfl ?_
  intro Q hQ
  simp (maxSteps := 1000000) (disch := omega) only [cd144, S, S1, S2, S3, S4, S5, ST, eq_self, reduceIte, reduceCtorEq, Nat.reduceEqDiff, Nat.reduceAdd]
  refine LoopH.by (fun m s H' => ∃ i, m + i = xs.length ∧ s 0 = v ∧ s 1 = .int .i64 x ∧ s 5 = .int .i64 ((i : Nat) : Int) ∧ H = H' ∧ x ∉ xs.take i) xs.length ?_ ?_
  · exact ⟨0, by simp, rfl, rfl, rfl, rfl, by simp⟩
  · rintro m s H' ⟨i, hm, h0, h1, h5, rfl, hn⟩
    simp (maxSteps := 1000000) (disch := omega) only [h0, h1, h5, hr.len Try.underlying38, S, S1, S2, S3, S4, S5, ST, eq_self, reduceIte, reduceCtorEq, Nat.reduceEqDiff, Nat.reduceAdd]
    refine brD.intro (fun g => ?_) (fun g => ?_) <;> simp (maxSteps := 1000000) (disch := omega) only [h0, h1, h5, hr.ix Try.underlying38 cs3, hr.cell, Int.toNat_natCast, S, S1, S2, S3, S4, S5, ST, eq_self, reduceIte, reduceCtorEq, Nat.reduceEqDiff, Nat.reduceAdd]
    · have hi : i < xs.length := by omega
      have hg : xs.getD i 0 = xs[i] := by simp [hi]
      refine brD.intro (fun e => ?_) (fun e => ?_) <;> simp (maxSteps := 1000000) (disch := omega) only [h0, h1, h5, wrap64, S, S1, S2, S3, S4, S5, ST, eq_self, reduceIte, reduceCtorEq, Nat.reduceEqDiff, Nat.reduceAdd]
      · refine hQ _ _ _ ?_
        simp (maxSteps := 1000000) (disch := omega) only [S, S1, S2, S3, S4, S5, ST, eq_self, reduceIte, reduceCtorEq, Nat.reduceEqDiff, Nat.reduceAdd]
        rw [hg] at e
        have : x ∈ xs := e ▸ List.getElem_mem hi
        simp [this]
      · refine ⟨m - 1, by omega, i + 1, by omega, by simp, ?_⟩
        rw [List.take_add_one, List.getElem?_eq_getElem hi]
        rw [hg] at e
        simp only [Option.toList_some, List.mem_append, List.mem_singleton, not_or]
        exact ⟨hn, fun e' => e e'.symm⟩
    · refine hQ _ _ _ ?_
      simp (maxSteps := 1000000) (disch := omega) only [S, S1, S2, S3, S4, S5, ST, eq_self, reduceIte, reduceCtorEq, Nat.reduceEqDiff, Nat.reduceAdd]
      rw [List.take_of_length_le (by omega)] at hn
      simp [hn]
end Go.Proofs.Ytlfongfhbkefmaa.Ai
namespace Go.Proofs.Ytlfongfhbkefmaa.Ai
open Go
def ords201 : List (Nat × List (Nat × Bool)) := []
def cd201 : Cd := (.seq (.reg [⟨⟨some 4, Op.assign (Operand.const (Value.bool false)), none⟩, []⟩]) (.seq (.seq (.reg [⟨⟨some 7, Op.move (Operand.tmp 0), none⟩, []⟩,
  ⟨⟨some 8, Op.call { callee := (Callee.builtin Builtin.len), args := #[(Operand.tmp 7)], argTypes := #[38] }, none⟩, []⟩,
  ⟨⟨some 9, Op.move (Operand.const (Value.int IntKind.i64 0)), none⟩, []⟩]) (.block 0 (.loop (.seq (.reg [⟨⟨some 10, Op.binOp BinOp.lss 3 (Operand.tmp 9) (Operand.tmp 8) 3, none⟩, []⟩]) (.seq (.cond (Operand.tmp 10) .skip (.exit 0)) (.seq (.block 1 (.seq (.reg [⟨⟨some 11, Op.move (Operand.tmp 9), none⟩, []⟩,
  ⟨⟨some 12, Op.indexAddr 38 (Operand.tmp 7) (Operand.tmp 9), none⟩, []⟩,
  ⟨⟨some 13, Op.load 3 (Operand.tmp 12), none⟩, []⟩,
  ⟨⟨some 5, Op.assign (Operand.tmp 11), none⟩, []⟩,
  ⟨⟨some 6, Op.assign (Operand.tmp 13), none⟩, []⟩]) (.seq (.reg [⟨⟨some 14, Op.move (Operand.tmp 6), none⟩, []⟩,
  ⟨⟨some 15, Op.move (Operand.tmp 1), none⟩, []⟩,
  ⟨⟨some 16, Op.binOp BinOp.sub 3 (Operand.tmp 15) (Operand.const (Value.int IntKind.i64 1)) 3, none⟩, []⟩,
  ⟨⟨some 17, Op.call { callee := (Callee.value (Operand.func 72)), args := #[(Operand.tmp 14), (Operand.const (Value.int IntKind.i64 0)), (Operand.tmp 16)], argTypes := #[3, 3, 3] }, none⟩, []⟩,
  ⟨⟨some 18, Op.unOp UnOp.not 4 (Operand.tmp 17), none⟩, []⟩,
  ⟨⟨some 19, Op.move (Operand.tmp 18), none⟩, []⟩,
  ⟨⟨some 20, Op.move (Operand.tmp 5), some (19, false)⟩, []⟩,
  ⟨⟨some 21, Op.binOp BinOp.gtr 3 (Operand.tmp 20) (Operand.const (Value.int IntKind.i64 0)) 3, some (19, false)⟩, []⟩,
  ⟨⟨some 22, Op.move (Operand.tmp 21), some (19, false)⟩, []⟩,
  ⟨⟨some 23, Op.move (Operand.tmp 6), some (22, true)⟩, []⟩,
  ⟨⟨some 24, Op.move (Operand.tmp 0), some (22, true)⟩, []⟩,
  ⟨⟨some 25, Op.move (Operand.tmp 5), some (22, true)⟩, []⟩,
  ⟨⟨some 26, Op.binOp BinOp.sub 3 (Operand.tmp 25) (Operand.const (Value.int IntKind.i64 1)) 3, some (22, true)⟩, []⟩,
  ⟨⟨some 27, Op.indexAddr 38 (Operand.tmp 24) (Operand.tmp 26), some (22, true)⟩, []⟩,
  ⟨⟨some 28, Op.load 3 (Operand.tmp 27), some (22, true)⟩, []⟩,
  ⟨⟨some 29, Op.binOp BinOp.leq 3 (Operand.tmp 23) (Operand.tmp 28) 3, some (22, true)⟩, []⟩,
  ⟨⟨some 30, Op.pick (Operand.tmp 22) (Operand.tmp 29) (Operand.const (Value.bool false)), some (19, false)⟩, []⟩,
  ⟨⟨some 31, Op.pick (Operand.tmp 19) (Operand.const (Value.bool true)) (Operand.tmp 30), none⟩, []⟩]) (.cond (Operand.tmp 31) (.seq (.reg [⟨⟨some 4, Op.assign (Operand.const (Value.bool false)), none⟩, []⟩]) .ret) .skip)))) (.reg [⟨⟨some 32, Op.binOp BinOp.add 3 (Operand.tmp 9) (Operand.const (Value.int IntKind.i64 1)) 3, none⟩, []⟩,
  ⟨⟨some 9, Op.move (Operand.tmp 32), none⟩, []⟩]))))))) (.seq (.reg [⟨⟨some 4, Op.assign (Operand.const (Value.bool true)), none⟩, []⟩]) .ret)))
theorem sl201 : slim Try.f201.ntmps ords201 (Try.f201.body.getD .skip) = some cd201 := by kernel_rfl
theorem in201 {args : List Value} {H : AH} {R : Value → AH → Prop} (hl : args.length = 2) (h : ∀ (Q : Exit → Sl → AH → Prop), (∀ e s H, endA Try.prog [ResultVar.tmp 4] R e s H → Q e s H) → wpC Try.prog cd201 Q (enterA args) H) : ACalls Try.prog 201 args H R :=
  ACalls.intro (by kernel_rfl) Try.func201 rfl (by kernel_rfl) sl201 hl (of_decide_eq_true (by kernel_rfl)) (by kernel_rfl) h
def ords138 : List (Nat × List (Nat × Bool)) := []
def cd138 : Cd := (.seq (.reg [⟨⟨some 4, Op.assign (Operand.const (Value.bool false)), none⟩, []⟩]) (.seq (.reg [⟨⟨some 5, Op.move (Operand.tmp 0), none⟩, []⟩,
  ⟨⟨some 6, Op.call { callee := (Callee.builtin Builtin.len), args := #[(Operand.tmp 5)], argTypes := #[38] }, none⟩, []⟩,
  ⟨⟨some 7, Op.move (Operand.tmp 1), none⟩, []⟩,
  ⟨⟨some 8, Op.binOp BinOp.eql 3 (Operand.tmp 6) (Operand.tmp 7) 3, none⟩, []⟩,
  ⟨⟨some 9, Op.move (Operand.tmp 8), none⟩, []⟩,
  ⟨⟨some 10, Op.move (Operand.tmp 0), some (9, true)⟩, []⟩,
  ⟨⟨some 11, Op.call { callee := (Callee.value (Operand.func 203)), args := #[(Operand.tmp 10)], argTypes := #[38] }, some (9, true)⟩, []⟩,
  ⟨⟨some 12, Op.call { callee := (Callee.value (Operand.func 202)), args := #[(Operand.tmp 11)], argTypes := #[168] }, some (9, true)⟩, []⟩,
  ⟨⟨some 13, Op.move (Operand.tmp 1), some (9, true)⟩, []⟩,
  ⟨⟨some 14, Op.call { callee := (Callee.value (Operand.func 201)), args := #[(Operand.tmp 12), (Operand.tmp 13)], argTypes := #[38, 3] }, some (9, true)⟩, []⟩,
  ⟨⟨some 15, Op.pick (Operand.tmp 9) (Operand.tmp 14) (Operand.const (Value.bool false)), none⟩, []⟩,
  ⟨⟨some 4, Op.assign (Operand.tmp 15), none⟩, []⟩]) .ret))
theorem sl138 : slim Try.f138.ntmps ords138 (Try.f138.body.getD .skip) = some cd138 := by kernel_rfl
theorem in138 {args : List Value} {H : AH} {R : Value → AH → Prop} (hl : args.length = 2) (h : ∀ (Q : Exit → Sl → AH → Prop), (∀ e s H, endA Try.prog [ResultVar.tmp 4] R e s H → Q e s H) → wpC Try.prog cd138 Q (enterA args) H) : ACalls Try.prog 138 args H R :=
  ACalls.intro (by kernel_rfl) Try.func138 rfl (by kernel_rfl) sl138 hl (of_decide_eq_true (by kernel_rfl)) (by kernel_rfl) h
def ords56 : List (Nat × List (Nat × Bool)) := []
def cd56 : Cd := (.seq (.reg [⟨⟨some 2, Op.assign (Operand.const (Value.bool false)), none⟩, []⟩]) (.seq (.reg [⟨⟨some 3, Op.move (Operand.tmp 0), none⟩, []⟩,
  ⟨⟨some 4, Op.call { callee := (Callee.builtin Builtin.len), args := #[(Operand.tmp 3)], argTypes := #[38] }, none⟩, []⟩,
  ⟨⟨some 5, Op.binOp BinOp.leq 3 (Operand.tmp 4) (Operand.const (Value.int IntKind.i64 8)) 3, none⟩, []⟩,
  ⟨⟨some 6, Op.move (Operand.tmp 5), none⟩, []⟩,
  ⟨⟨some 7, Op.move (Operand.tmp 0), some (6, true)⟩, []⟩,
  ⟨⟨some 8, Op.move (Operand.tmp 0), some (6, true)⟩, []⟩,
  ⟨⟨some 9, Op.call { callee := (Callee.builtin Builtin.len), args := #[(Operand.tmp 8)], argTypes := #[38] }, some (6, true)⟩, []⟩,
  ⟨⟨some 10, Op.call { callee := (Callee.value (Operand.func 138)), args := #[(Operand.tmp 7), (Operand.tmp 9)], argTypes := #[38, 3] }, some (6, true)⟩, []⟩,
  ⟨⟨some 11, Op.pick (Operand.tmp 6) (Operand.tmp 10) (Operand.const (Value.bool false)), none⟩, []⟩,
  ⟨⟨some 2, Op.assign (Operand.tmp 11), none⟩, []⟩]) .ret))
theorem sl56 : slim Try.f56.ntmps ords56 (Try.f56.body.getD .skip) = some cd56 := by kernel_rfl
theorem in56 {args : List Value} {H : AH} {R : Value → AH → Prop} (hl : args.length = 1) (h : ∀ (Q : Exit → Sl → AH → Prop), (∀ e s H, endA Try.prog [ResultVar.tmp 2] R e s H → Q e s H) → wpC Try.prog cd56 Q (enterA args) H) : ACalls Try.prog 56 args H R :=
  ACalls.intro (by kernel_rfl) Try.func56 rfl (by kernel_rfl) sl56 hl (of_decide_eq_true (by kernel_rfl)) (by kernel_rfl) h
def ords127 : List (Nat × List (Nat × Bool)) := []
def cd127 : Cd := (.seq (.reg [⟨⟨some 2, Op.assign (Operand.const (Value.bool false)), none⟩, []⟩]) (.seq (.seq (.reg [⟨⟨some 3, Op.assign (Operand.const (Value.int IntKind.i64 0)), none⟩, []⟩]) (.block 0 (.loop (.seq (.seq (.reg [⟨⟨some 4, Op.move (Operand.tmp 3), none⟩, []⟩,
  ⟨⟨some 5, Op.move (Operand.tmp 0), none⟩, []⟩,
  ⟨⟨some 6, Op.call { callee := (Callee.builtin Builtin.len), args := #[(Operand.tmp 5)], argTypes := #[38] }, none⟩, []⟩,
  ⟨⟨some 7, Op.binOp BinOp.lss 3 (Operand.tmp 4) (Operand.tmp 6) 3, none⟩, []⟩,
  ⟨⟨some 8, Op.move (Operand.tmp 7), none⟩, []⟩,
  ⟨⟨some 9, Op.move (Operand.tmp 0), some (8, true)⟩, []⟩,
  ⟨⟨some 10, Op.call { callee := (Callee.builtin Builtin.len), args := #[(Operand.tmp 9)], argTypes := #[38] }, some (8, true)⟩, []⟩,
  ⟨⟨some 11, Op.binOp BinOp.leq 3 (Operand.tmp 10) (Operand.const (Value.int IntKind.i64 8)) 3, some (8, true)⟩, []⟩,
  ⟨⟨some 12, Op.pick (Operand.tmp 8) (Operand.tmp 11) (Operand.const (Value.bool false)), none⟩, []⟩]) (.cond (Operand.tmp 12) .skip (.exit 0))) (.seq (.block 1 (.seq (.reg [⟨⟨some 15, Op.move (Operand.tmp 0), none⟩, []⟩,
  ⟨⟨some 16, Op.move (Operand.tmp 3), none⟩, []⟩,
  ⟨⟨some 17, Op.call { callee := (Callee.value (Operand.func 144)), args := #[(Operand.tmp 15), (Operand.tmp 16)], argTypes := #[38, 3] }, none⟩, []⟩,
  ⟨⟨some 18, Op.unOp UnOp.not 4 (Operand.tmp 17), none⟩, []⟩]) (.cond (Operand.tmp 18) (.seq (.reg [⟨⟨some 2, Op.assign (Operand.const (Value.bool false)), none⟩, []⟩]) .ret) .skip))) (.reg [⟨⟨some 13, Op.move (Operand.tmp 3), none⟩, []⟩,
  ⟨⟨some 14, Op.binOp BinOp.add 3 (Operand.tmp 13) (Operand.const (Value.int IntKind.i64 1)) 3, none⟩, []⟩,
  ⟨⟨some 3, Op.assign (Operand.tmp 14), none⟩, []⟩])))))) (.seq (.reg [⟨⟨some 19, Op.move (Operand.tmp 0), none⟩, []⟩,
  ⟨⟨some 20, Op.call { callee := (Callee.builtin Builtin.len), args := #[(Operand.tmp 19)], argTypes := #[38] }, none⟩, []⟩,
  ⟨⟨some 21, Op.binOp BinOp.leq 3 (Operand.tmp 20) (Operand.const (Value.int IntKind.i64 8)) 3, none⟩, []⟩,
  ⟨⟨some 2, Op.assign (Operand.tmp 21), none⟩, []⟩]) .ret)))
theorem sl127 : slim Try.f127.ntmps ords127 (Try.f127.body.getD .skip) = some cd127 := by kernel_rfl
theorem in127 {args : List Value} {H : AH} {R : Value → AH → Prop} (hl : args.length = 1) (h : ∀ (Q : Exit → Sl → AH → Prop), (∀ e s H, endA Try.prog [ResultVar.tmp 2] R e s H → Q e s H) → wpC Try.prog cd127 Q (enterA args) H) : ACalls Try.prog 127 args H R :=
  ACalls.intro (by kernel_rfl) Try.func127 rfl (by kernel_rfl) sl127 hl (of_decide_eq_true (by kernel_rfl)) (by kernel_rfl) h
def ords57 : List (Nat × List (Nat × Bool)) := []
def cd57 : Cd := (.seq (.reg [⟨⟨some 2, Op.assign (Operand.const (Value.bool false)), none⟩, []⟩]) (.seq (.reg [⟨⟨some 3, Op.move (Operand.tmp 0), none⟩, []⟩,
  ⟨⟨some 4, Op.call { callee := (Callee.value (Operand.func 127)), args := #[(Operand.tmp 3)], argTypes := #[38] }, none⟩, []⟩,
  ⟨⟨some 2, Op.assign (Operand.tmp 4), none⟩, []⟩]) .ret))
theorem sl57 : slim Try.f57.ntmps ords57 (Try.f57.body.getD .skip) = some cd57 := by kernel_rfl
theorem in57 {args : List Value} {H : AH} {R : Value → AH → Prop} (hl : args.length = 1) (h : ∀ (Q : Exit → Sl → AH → Prop), (∀ e s H, endA Try.prog [ResultVar.tmp 2] R e s H → Q e s H) → wpC Try.prog cd57 Q (enterA args) H) : ACalls Try.prog 57 args H R :=
  ACalls.intro (by kernel_rfl) Try.func57 rfl (by kernel_rfl) sl57 hl (of_decide_eq_true (by kernel_rfl)) (by kernel_rfl) h
end Go.Proofs.Ytlfongfhbkefmaa.Ai
namespace Go.Proofs.Ytlfongfhbkefmaa.Ai
open Go Go.RowKit
set_option linter.unusedVariables false
set_option linter.unusedSimpArgs false
instance (n : Int) (ys : List Int) : Decidable (Rsg n ys) := by unfold Rsg; infer_instance
theorem isRising_c (v : Value) (ys : List Int) (n : Int) (H : AH) (hn : 0 ≤ n ∧ n ≤ 1099511627776) (hr : Row 3 H v ys) (hlen : ys.length ≤ 1099511627776) :
    ACalls Try.prog 201 [v, .int .i64 n] H fun r H' => r = .bool (decide (Rsg n ys)) ∧ H = H' := by
  refine in201 rfl ?_
  intro Q hQ
  simp (maxSteps := 1000000) (disch := omega) only [cd201, hr.len Try.underlying38, S, S1, S2, S3, S4, S5, ST, eq_self, reduceIte, reduceCtorEq, Nat.reduceEqDiff, Nat.reduceAdd]
  refine LoopH.by (fun m s H' => ∃ i, m + i = ys.length ∧ s 0 = v ∧ s 1 = .int .i64 n ∧ s 7 = v ∧ s 8 = .int .i64 (ys.length : Int) ∧ s 9 = .int .i64 ((i : Nat) : Int) ∧ H = H' ∧ ∀ j, j < i → (0 ≤ ys.getD j 0 ∧ ys.getD j 0 ≤ n - 1) ∧ (0 < j → ys.getD (j - 1) 0 < ys.getD j 0)) ys.length ?_ ?_
  · exact ⟨0, by simp, rfl, rfl, rfl, rfl, rfl, rfl, by omega⟩
  · rintro m s H' ⟨i, hm, h0, h1, h7, h8, h9, rfl, hj⟩
    simp (maxSteps := 1000000) (disch := omega) only [h0, h1, h7, h8, h9, S, S1, S2, S3, S4, S5, ST, eq_self, reduceIte, reduceCtorEq, Nat.reduceEqDiff, Nat.reduceAdd]
    refine brD.intro (fun g => ?_) (fun g => ?_)
    · have hi : i < ys.length := by omega
      have hp : ((i : Int) - 1).toNat = i - 1 := by omega
      have bad : ¬ ((0 ≤ ys.getD i 0 ∧ ys.getD i 0 ≤ n - 1) ∧ (0 < i → ys.getD (i - 1) 0 < ys.getD i 0)) → decide (Rsg n ys) = false := fun h => decide_eq_false fun hh => h (hh i hi)
      have nxt : ((0 ≤ ys.getD i 0 ∧ ys.getD i 0 ≤ n - 1) ∧ (0 < i → ys.getD (i - 1) 0 < ys.getD i 0)) → ∀ j, j < i + 1 → (0 ≤ ys.getD j 0 ∧ ys.getD j 0 ≤ n - 1) ∧ (0 < j → ys.getD (j - 1) 0 < ys.getD j 0) := by
        intro h j hjj
        by_cases e : j = i
        · subst e; exact h
        · exact hj j (by omega)
      simp (maxSteps := 1000000) (disch := omega) only [h0, h1, h7, h8, h9, hr.ix Try.underlying38 cs3, hr.cell, Int.toNat_natCast, wrap64, S, S1, S2, S3, S4, S5, ST, eq_self, reduceIte, reduceCtorEq, Nat.reduceEqDiff, Nat.reduceAdd]
      refine CallH.by (between_c ..) ?_
      rintro _ _ ⟨rfl, rfl⟩
      simp (maxSteps := 1000000) (disch := omega) only [S, S1, S2, S3, S4, S5, ST, eq_self, reduceIte, reduceCtorEq, Nat.reduceEqDiff, Nat.reduceAdd]
      refine brD.intro (fun e => ?_) (fun e => ?_) <;> simp (maxSteps := 1000000) (disch := omega) only [e, h0, h1, h7, h8, h9, wrap64, S, S1, S2, S3, S4, S5, ST, eq_self, reduceIte, reduceCtorEq, Nat.reduceEqDiff, Nat.reduceAdd]
      · refine brD.intro (fun q => ?_) (fun q => ?_) <;> simp (maxSteps := 1000000) (disch := omega) only [e, q, h0, h1, h7, h8, h9, hr.ix Try.underlying38 cs3, hr.cell, hp, wrap64, S, S1, S2, S3, S4, S5, ST, eq_self, reduceIte, reduceCtorEq, Nat.reduceEqDiff, Nat.reduceAdd]
        · refine brD.intro (fun z => ?_) (fun z => ?_) <;> simp (maxSteps := 1000000) (disch := omega) only [e, q, z, h0, h1, h7, h8, h9, wrap64, S, S1, S2, S3, S4, S5, ST, eq_self, reduceIte, reduceCtorEq, Nat.reduceEqDiff, Nat.reduceAdd]
          · refine hQ _ _ _ ?_
            simp (maxSteps := 1000000) (disch := omega) only [S, S1, S2, S3, S4, S5, ST, eq_self, reduceIte, reduceCtorEq, Nat.reduceEqDiff, Nat.reduceAdd]
            rw [bad (fun h => by have := h.2 (by omega); omega)]
          · have fx := nxt ⟨e, fun _ => by omega⟩
            refine ⟨m - 1, by omega, i + 1, ?_⟩
            (repeat' apply And.intro) <;> first | exact fx | (simp only [Value.int.injEq, true_and]; omega) | omega | rfl | assumption | (simp; done) | (simp; omega)
        · have fx := nxt ⟨e, fun _ => by omega⟩
          refine ⟨m - 1, by omega, i + 1, ?_⟩
          (repeat' apply And.intro) <;> first | exact fx | (simp only [Value.int.injEq, true_and]; omega) | omega | rfl | assumption | (simp; done) | (simp; omega)
      · refine hQ _ _ _ ?_
        simp (maxSteps := 1000000) (disch := omega) only [S, S1, S2, S3, S4, S5, ST, eq_self, reduceIte, reduceCtorEq, Nat.reduceEqDiff, Nat.reduceAdd]
        rw [bad (fun h => e h.1)]
    · simp (maxSteps := 1000000) (disch := omega) only [h0, h1, h7, h8, h9, S, S1, S2, S3, S4, S5, ST, eq_self, reduceIte, reduceCtorEq, Nat.reduceEqDiff, Nat.reduceAdd]
      refine hQ _ _ _ ?_
      simp (maxSteps := 1000000) (disch := omega) only [S, S1, S2, S3, S4, S5, ST, eq_self, reduceIte, reduceCtorEq, Nat.reduceEqDiff, Nat.reduceAdd]
      have : Rsg n ys := fun j hjj => hj j (by omega)
      simp [this]
theorem isOrder_c (v : Value) (xs : List Int) (H : AH) (hr : Row 3 H v xs) (hlen : xs.length ≤ 12) :
    ACalls Try.prog 138 [v, .int .i64 (xs.length : Int)] H fun r H' => r = .bool (decide (∀ x, x < xs.length → (x : Int) ∈ xs)) ∧ H <+: H' := by
  refine in138 rfl ?_
  intro Q hQ
  simp (maxSteps := 1000000) (disch := omega) only [cd138, hr.len Try.underlying38, S, S1, S2, S3, S4, S5, ST, eq_self, reduceIte, reduceCtorEq, Nat.reduceEqDiff, Nat.reduceAdd]
  refine CallH.by (Values_c v xs H hr) ?_
  rintro _ _ ⟨rfl, rfl⟩
  have hp := List.prefix_append H [AObj.cells [v] 38 false]
  simp (maxSteps := 1000000) (disch := omega) only [S, S1, S2, S3, S4, S5, ST, eq_self, reduceIte, reduceCtorEq, Nat.reduceEqDiff, Nat.reduceAdd]
  have hc : cellA (H ++ [AObj.cells [v] 38 false]) H.length 0 = some v := by rw [cell_of (at_new ..)]; rfl
  refine CallH.by (SortedV_c H.length v xs _ hc (hr.pre hp) hlen) ?_
  rintro u H1 ⟨ys, hown, hperm, hasc, hp1⟩
  simp (maxSteps := 1000000) (disch := omega) only [S, S1, S2, S3, S4, S5, ST, eq_self, reduceIte, reduceCtorEq, Nat.reduceEqDiff, Nat.reduceAdd]
  have hl := hperm.length_eq
  refine CallH.by (isRising_c u ys _ H1 (by omega) hown.row (by omega)) ?_
  rintro _ _ ⟨rfl, rfl⟩
  simp (maxSteps := 1000000) (disch := omega) only [S, S1, S2, S3, S4, S5, ST, eq_self, reduceIte, reduceCtorEq, Nat.reduceEqDiff, Nat.reduceAdd]
  refine hQ _ _ _ ?_
  simp (maxSteps := 1000000) (disch := omega) only [S, S1, S2, S3, S4, S5, ST, eq_self, reduceIte, reduceCtorEq, Nat.reduceEqDiff, Nat.reduceAdd]
  refine ⟨?_, hp.trans hp1⟩
  have := rsg_iff hperm hasc
  simp only [this]
theorem PermI_c (v : Value) (xs : List Int) (H : AH) (hr : Row 3 H v xs) (hlen : xs.length ≤ 1099511627776) (hxs : ∀ y ∈ xs, I64 y) :
    ACalls Try.prog 56 [v] H fun r H' => r = .bool (decide (Prm xs)) ∧ H <+: H' := by
  refine in56 rfl ?_
  intro Q hQ
  simp (maxSteps := 1000000) (disch := omega) only [cd56, hr.len Try.underlying38, S, S1, S2, S3, S4, S5, ST, eq_self, reduceIte, reduceCtorEq, Nat.reduceEqDiff, Nat.reduceAdd]
  refine brD.intro (fun h => ?_) (fun h => ?_) <;> simp (maxSteps := 1000000) (disch := omega) only [h, hr.len Try.underlying38, S, S1, S2, S3, S4, S5, ST, eq_self, reduceIte, reduceCtorEq, Nat.reduceEqDiff, Nat.reduceAdd]
  · refine CallH.by (isOrder_c v xs H hr (by omega)) ?_
    rintro _ H1 ⟨rfl, hp⟩
    simp (maxSteps := 1000000) (disch := omega) only [h, S, S1, S2, S3, S4, S5, ST, eq_self, reduceIte, reduceCtorEq, Nat.reduceEqDiff, Nat.reduceAdd]
    refine hQ _ _ _ ?_
    simp (maxSteps := 1000000) (disch := omega) only [S, S1, S2, S3, S4, S5, ST, eq_self, reduceIte, reduceCtorEq, Nat.reduceEqDiff, Nat.reduceAdd]
    refine ⟨?_, hp⟩
    have h8 : xs.length ≤ 8 := by omega
    unfold Prm
    simp [h8]
  · refine hQ _ _ _ ?_
    simp (maxSteps := 1000000) (disch := omega) only [S, S1, S2, S3, S4, S5, ST, eq_self, reduceIte, reduceCtorEq, Nat.reduceEqDiff, Nat.reduceAdd]
    have h8 : ¬ xs.length ≤ 8 := by omega
    unfold Prm
    simp [h8, List.prefix_refl]
theorem l9Perm_c (v : Value) (xs : List Int) (H : AH) (hr : Row 3 H v xs) (hlen : xs.length ≤ 1099511627776) :
    ACalls Try.prog 127 [v] H fun r H' => r = .bool (decide (Prm xs)) ∧ H = H' := by
  refine in127 rfl ?_
  intro Q hQ
  simp (maxSteps := 1000000) (disch := omega) only [cd127, S, S1, S2, S3, S4, S5, ST, eq_self, reduceIte, reduceCtorEq, Nat.reduceEqDiff, Nat.reduceAdd]
  refine LoopH.by (fun m s H' => ∃ i, m + i = xs.length ∧ s 0 = v ∧ s 3 = .int .i64 ((i : Nat) : Int) ∧ H = H' ∧ ∀ j, j < i → (j : Int) ∈ xs) xs.length ?_ ?_
  · exact ⟨0, by simp, rfl, rfl, rfl, by omega⟩
  · rintro m s H' ⟨i, hm, h0, h3, rfl, hj⟩
    have fin : decide (xs.length ≤ 8) = decide (Prm xs) → True := fun _ => trivial
    simp (maxSteps := 1000000) (disch := omega) only [h0, h3, hr.len Try.underlying38, S, S1, S2, S3, S4, S5, ST, eq_self, reduceIte, reduceCtorEq, Nat.reduceEqDiff, Nat.reduceAdd]
    refine brD.intro (fun g => ?_) (fun g => ?_) <;> simp (maxSteps := 1000000) (disch := omega) only [g, h0, h3, hr.len Try.underlying38, S, S1, S2, S3, S4, S5, ST, eq_self, reduceIte, reduceCtorEq, Nat.reduceEqDiff, Nat.reduceAdd]
    · refine brD.intro (fun q => ?_) (fun q => ?_) <;> simp (maxSteps := 1000000) (disch := omega) only [g, q, h0, h3, hr.len Try.underlying38, S, S1, S2, S3, S4, S5, ST, eq_self, reduceIte, reduceCtorEq, Nat.reduceEqDiff, Nat.reduceAdd]
      · refine CallH.by (l1Has_c v xs _ H hr hlen) ?_
        rintro _ _ ⟨rfl, rfl⟩
        simp (maxSteps := 1000000) (disch := omega) only [S, S1, S2, S3, S4, S5, ST, eq_self, reduceIte, reduceCtorEq, Nat.reduceEqDiff, Nat.reduceAdd]
        refine brD.intro (fun e => ?_) (fun e => ?_) <;> simp (maxSteps := 1000000) (disch := omega) only [g, q, e, h0, h3, wrap64, S, S1, S2, S3, S4, S5, ST, eq_self, reduceIte, reduceCtorEq, Nat.reduceEqDiff, Nat.reduceAdd]
        · have fx : ∀ j, j < i + 1 → (j : Int) ∈ xs := by
            intro j hjj
            by_cases ej : j = i
            · subst ej; exact e
            · exact hj j (by omega)
          refine ⟨m - 1, by omega, i + 1, ?_⟩
          (repeat' apply And.intro) <;> first | exact fx | (simp only [Value.int.injEq, true_and]; omega) | omega | rfl | assumption | (simp; done) | (simp; omega)
        · refine hQ _ _ _ ?_
          simp (maxSteps := 1000000) (disch := omega) only [S, S1, S2, S3, S4, S5, ST, eq_self, reduceIte, reduceCtorEq, Nat.reduceEqDiff, Nat.reduceAdd]
          have : ¬ Prm xs := fun h => e (h.2 i (by omega))
          simp [this]
      · refine hQ _ _ _ ?_
        simp (maxSteps := 1000000) (disch := omega) only [S, S1, S2, S3, S4, S5, ST, eq_self, reduceIte, reduceCtorEq, Nat.reduceEqDiff, Nat.reduceAdd]
        have : ¬ Prm xs := fun h => by have := h.1; omega
        simp [this]
    · refine hQ _ _ _ ?_
      simp (maxSteps := 1000000) (disch := omega) only [S, S1, S2, S3, S4, S5, ST, eq_self, reduceIte, reduceCtorEq, Nat.reduceEqDiff, Nat.reduceAdd]
      have e : ((xs.length : Int) ≤ 8) ↔ Prm xs := ⟨fun h => ⟨by omega, fun x hx => hj x (by omega)⟩, fun h => by have := h.1; omega⟩
      simp only [e]
theorem PermS_c (v : Value) (xs : List Int) (H : AH) (hr : Row 3 H v xs) (hlen : xs.length ≤ 1099511627776) (hxs : ∀ y ∈ xs, I64 y) :
    ACalls Try.prog 57 [v] H fun r H' => r = .bool (decide (Prm xs)) ∧ H <+: H' := by
  refine in57 rfl ?_
  intro Q hQ
  simp (maxSteps := 1000000) (disch := omega) only [cd57, S, S1, S2, S3, S4, S5, ST, eq_self, reduceIte, reduceCtorEq, Nat.reduceEqDiff, Nat.reduceAdd]
  refine CallH.by (l9Perm_c v xs H hr hlen) ?_
  rintro _ _ ⟨rfl, rfl⟩
  simp (maxSteps := 1000000) (disch := omega) only [S, S1, S2, S3, S4, S5, ST, eq_self, reduceIte, reduceCtorEq, Nat.reduceEqDiff, Nat.reduceAdd]
  refine hQ _ _ _ ?_
  simp (maxSteps := 1000000) (disch := omega) only [S, S1, S2, S3, S4, S5, ST, eq_self, reduceIte, reduceCtorEq, Nat.reduceEqDiff, Nat.reduceAdd]
  exact List.prefix_refl _
end Go.Proofs.Ytlfongfhbkefmaa.Ai
namespace Go.Proofs.Ytlfongfhbkefmaa.Ai
open Go
def ords130 : List (Nat × List (Nat × Bool)) := []
def cd130 : Cd := (.seq (.reg [⟨⟨some 2, Op.assign (Operand.const (Value.slice none 0 0)), none⟩, []⟩]) (.seq (.reg [⟨⟨some 8, Op.buildSlice 26 0 #[], none⟩, []⟩,
  ⟨⟨some 3, Op.assign (Operand.tmp 8), none⟩, []⟩,
  ⟨⟨some 4, Op.assign (Operand.const (Value.int IntKind.u64 0)), none⟩, []⟩]) (.seq (.seq (.reg [⟨⟨some 9, Op.move (Operand.tmp 0), none⟩, []⟩,
  ⟨⟨some 10, Op.call { callee := (Callee.builtin Builtin.len), args := #[(Operand.tmp 9)], argTypes := #[38] }, none⟩, []⟩,
  ⟨⟨some 11, Op.move (Operand.const (Value.int IntKind.i64 0)), none⟩, []⟩]) (.block 0 (.loop (.seq (.reg [⟨⟨some 12, Op.binOp BinOp.lss 3 (Operand.tmp 11) (Operand.tmp 10) 3, none⟩, []⟩]) (.seq (.cond (Operand.tmp 12) .skip (.exit 0)) (.seq (.block 1 (.seq (.reg [⟨⟨some 13, Op.move (Operand.tmp 11), none⟩, []⟩,
  ⟨⟨some 5, Op.assign (Operand.tmp 13), none⟩, []⟩]) (.seq (.reg [⟨⟨some 14, Op.buildSlice 38 0 #[], none⟩, []⟩,
  ⟨⟨some 6, Op.assign (Operand.tmp 14), none⟩, []⟩]) (.seq (.seq (.reg [⟨⟨some 15, Op.move (Operand.tmp 5), none⟩, []⟩,
  ⟨⟨some 7, Op.assign (Operand.tmp 15), none⟩, []⟩]) (.block 2 (.loop (.seq (.seq (.reg [⟨⟨some 16, Op.move (Operand.tmp 4), none⟩, []⟩,
  ⟨⟨some 17, Op.move (Operand.tmp 7), none⟩, []⟩,
  ⟨⟨some 18, Op.call { callee := (Callee.value (Operand.func 171)), args := #[(Operand.tmp 16), (Operand.tmp 17)], argTypes := #[98, 3] }, none⟩, []⟩,
  ⟨⟨some 19, Op.unOp UnOp.not 4 (Operand.tmp 18), none⟩, []⟩]) (.cond (Operand.tmp 19) .skip (.exit 2))) (.seq (.block 3 (.seq (.reg [⟨⟨some 24, Op.move (Operand.tmp 4), none⟩, []⟩,
  ⟨⟨some 25, Op.move (Operand.tmp 7), none⟩, []⟩,
  ⟨⟨some 26, Op.binOp BinOp.shl 98 (Operand.const (Value.int IntKind.u64 1)) (Operand.tmp 25) 3, none⟩, []⟩,
  ⟨⟨some 27, Op.binOp BinOp.or 98 (Operand.tmp 24) (Operand.tmp 26) 98, none⟩, []⟩,
  ⟨⟨some 4, Op.assign (Operand.tmp 27), none⟩, []⟩]) (.reg [⟨⟨some 28, Op.move (Operand.tmp 6), none⟩, []⟩,
  ⟨⟨some 29, Op.move (Operand.tmp 7), none⟩, []⟩,
  ⟨⟨some 30, Op.buildSlice 38 1 #[(0, (Operand.tmp 29))], none⟩, []⟩,
  ⟨⟨some 31, Op.call { callee := (Callee.builtin Builtin.append), args := #[(Operand.tmp 28), (Operand.tmp 30)], argTypes := #[38, 38] }, none⟩, []⟩,
  ⟨⟨some 6, Op.assign (Operand.tmp 31), none⟩, []⟩]))) (.reg [⟨⟨some 20, Op.move (Operand.tmp 0), none⟩, []⟩,
  ⟨⟨some 21, Op.move (Operand.tmp 7), none⟩, []⟩,
  ⟨⟨some 22, Op.indexAddr 38 (Operand.tmp 20) (Operand.tmp 21), none⟩, []⟩,
  ⟨⟨some 23, Op.load 3 (Operand.tmp 22), none⟩, []⟩,
  ⟨⟨some 7, Op.assign (Operand.tmp 23), none⟩, []⟩])))))) (.seq (.reg [⟨⟨some 32, Op.move (Operand.tmp 6), none⟩, []⟩,
  ⟨⟨some 33, Op.call { callee := (Callee.builtin Builtin.len), args := #[(Operand.tmp 32)], argTypes := #[38] }, none⟩, []⟩,
  ⟨⟨some 34, Op.binOp BinOp.gtr 3 (Operand.tmp 33) (Operand.const (Value.int IntKind.i64 0)) 3, none⟩, []⟩]) (.cond (Operand.tmp 34) (.reg [⟨⟨some 35, Op.move (Operand.tmp 3), none⟩, []⟩,
  ⟨⟨some 36, Op.move (Operand.tmp 6), none⟩, []⟩,
  ⟨⟨some 37, Op.buildSlice 26 1 #[(0, (Operand.tmp 36))], none⟩, []⟩,
  ⟨⟨some 38, Op.call { callee := (Callee.builtin Builtin.append), args := #[(Operand.tmp 35), (Operand.tmp 37)], argTypes := #[26, 26] }, none⟩, []⟩,
  ⟨⟨some 3, Op.assign (Operand.tmp 38), none⟩, []⟩]) .skip)))))) (.reg [⟨⟨some 39, Op.binOp BinOp.add 3 (Operand.tmp 11) (Operand.const (Value.int IntKind.i64 1)) 3, none⟩, []⟩,
  ⟨⟨some 11, Op.move (Operand.tmp 39), none⟩, []⟩]))))))) (.seq (.reg [⟨⟨some 40, Op.move (Operand.tmp 3), none⟩, []⟩,
  ⟨⟨some 2, Op.assign (Operand.tmp 40), none⟩, []⟩]) .ret))))
theorem sl130 : slim Try.f130.ntmps ords130 (Try.f130.body.getD .skip) = some cd130 := by kernel_rfl
theorem in130 {args : List Value} {H : AH} {R : Value → AH → Prop} (hl : args.length = 1) (h : ∀ (Q : Exit → Sl → AH → Prop), (∀ e s H, endA Try.prog [ResultVar.tmp 2] R e s H → Q e s H) → wpC Try.prog cd130 Q (enterA args) H) : ACalls Try.prog 130 args H R :=
  ACalls.intro (by kernel_rfl) Try.func130 rfl (by kernel_rfl) sl130 hl (of_decide_eq_true (by kernel_rfl)) (by kernel_rfl) h
def ords131 : List (Nat × List (Nat × Bool)) := []
def cd131 : Cd := (.seq (.reg [⟨⟨some 2, Op.assign (Operand.const (Value.slice none 0 0)), none⟩, []⟩]) (.seq (.reg [⟨⟨some 8, Op.buildSlice 26 0 #[], none⟩, []⟩,
  ⟨⟨some 9, Op.buildSlice 38 0 #[], none⟩, []⟩,
  ⟨⟨some 3, Op.assign (Operand.tmp 8), none⟩, []⟩,
  ⟨⟨some 4, Op.assign (Operand.tmp 9), none⟩, []⟩]) (.seq (.seq (.reg [⟨⟨some 5, Op.assign (Operand.const (Value.int IntKind.i64 0)), none⟩, []⟩]) (.block 0 (.loop (.seq (.seq (.reg [⟨⟨some 10, Op.move (Operand.tmp 5), none⟩, []⟩,
  ⟨⟨some 11, Op.move (Operand.tmp 0), none⟩, []⟩,
  ⟨⟨some 12, Op.call { callee := (Callee.builtin Builtin.len), args := #[(Operand.tmp 11)], argTypes := #[38] }, none⟩, []⟩,
  ⟨⟨some 13, Op.binOp BinOp.lss 3 (Operand.tmp 10) (Operand.tmp 12) 3, none⟩, []⟩]) (.cond (Operand.tmp 13) .skip (.exit 0))) (.seq (.block 1 (.seq (.seq (.reg [⟨⟨some 16, Op.move (Operand.tmp 4), none⟩, []⟩,
  ⟨⟨some 17, Op.move (Operand.tmp 5), none⟩, []⟩,
  ⟨⟨some 18, Op.call { callee := (Callee.value (Operand.func 144)), args := #[(Operand.tmp 16), (Operand.tmp 17)], argTypes := #[38, 3] }, none⟩, []⟩]) (.cond (Operand.tmp 18) (.exit 1) .skip)) (.seq (.reg [⟨⟨some 19, Op.move (Operand.tmp 5), none⟩, []⟩,
  ⟨⟨some 20, Op.buildSlice 38 1 #[(0, (Operand.tmp 19))], none⟩, []⟩,
  ⟨⟨some 6, Op.assign (Operand.tmp 20), none⟩, []⟩]) (.seq (.seq (.reg [⟨⟨some 21, Op.move (Operand.tmp 0), none⟩, []⟩,
  ⟨⟨some 22, Op.move (Operand.tmp 5), none⟩, []⟩,
  ⟨⟨some 23, Op.indexAddr 38 (Operand.tmp 21) (Operand.tmp 22), none⟩, []⟩,
  ⟨⟨some 24, Op.load 3 (Operand.tmp 23), none⟩, []⟩,
  ⟨⟨some 7, Op.assign (Operand.tmp 24), none⟩, []⟩]) (.block 2 (.loop (.seq (.seq (.reg [⟨⟨some 25, Op.move (Operand.tmp 7), none⟩, []⟩,
  ⟨⟨some 26, Op.move (Operand.tmp 5), none⟩, []⟩,
  ⟨⟨some 27, Op.binOp BinOp.neq 3 (Operand.tmp 25) (Operand.tmp 26) 3, none⟩, []⟩]) (.cond (Operand.tmp 27) .skip (.exit 2))) (.seq (.block 3 (.reg [⟨⟨some 32, Op.move (Operand.tmp 6), none⟩, []⟩,
  ⟨⟨some 33, Op.move (Operand.tmp 7), none⟩, []⟩,
  ⟨⟨some 34, Op.buildSlice 38 1 #[(0, (Operand.tmp 33))], none⟩, []⟩,
  ⟨⟨some 35, Op.call { callee := (Callee.builtin Builtin.append), args := #[(Operand.tmp 32), (Operand.tmp 34)], argTypes := #[38, 38] }, none⟩, []⟩,
  ⟨⟨some 6, Op.assign (Operand.tmp 35), none⟩, []⟩])) (.reg [⟨⟨some 28, Op.move (Operand.tmp 0), none⟩, []⟩,
  ⟨⟨some 29, Op.move (Operand.tmp 7), none⟩, []⟩,
  ⟨⟨some 30, Op.indexAddr 38 (Operand.tmp 28) (Operand.tmp 29), none⟩, []⟩,
  ⟨⟨some 31, Op.load 3 (Operand.tmp 30), none⟩, []⟩,
  ⟨⟨some 7, Op.assign (Operand.tmp 31), none⟩, []⟩])))))) (.seq (.reg [⟨⟨some 36, Op.move (Operand.tmp 4), none⟩, []⟩,
  ⟨⟨some 37, Op.move (Operand.tmp 6), none⟩, []⟩,
  ⟨⟨some 38, Op.call { callee := (Callee.builtin Builtin.append), args := #[(Operand.tmp 36), (Operand.tmp 37)], argTypes := #[38, 38] }, none⟩, []⟩,
  ⟨⟨some 4, Op.assign (Operand.tmp 38), none⟩, []⟩]) (.reg [⟨⟨some 39, Op.move (Operand.tmp 3), none⟩, []⟩,
  ⟨⟨some 40, Op.move (Operand.tmp 6), none⟩, []⟩,
  ⟨⟨some 41, Op.buildSlice 26 1 #[(0, (Operand.tmp 40))], none⟩, []⟩,
  ⟨⟨some 42, Op.call { callee := (Callee.builtin Builtin.append), args := #[(Operand.tmp 39), (Operand.tmp 41)], argTypes := #[26, 26] }, none⟩, []⟩,
  ⟨⟨some 3, Op.assign (Operand.tmp 42), none⟩, []⟩])))))) (.reg [⟨⟨some 14, Op.move (Operand.tmp 5), none⟩, []⟩,
  ⟨⟨some 15, Op.binOp BinOp.add 3 (Operand.tmp 14) (Operand.const (Value.int IntKind.i64 1)) 3, none⟩, []⟩,
  ⟨⟨some 5, Op.assign (Operand.tmp 15), none⟩, []⟩])))))) (.seq (.reg [⟨⟨some 43, Op.move (Operand.tmp 3), none⟩, []⟩,
  ⟨⟨some 2, Op.assign (Operand.tmp 43), none⟩, []⟩]) .ret))))
theorem sl131 : slim Try.f131.ntmps ords131 (Try.f131.body.getD .skip) = some cd131 := by kernel_rfl
theorem in131 {args : List Value} {H : AH} {R : Value → AH → Prop} (hl : args.length = 1) (h : ∀ (Q : Exit → Sl → AH → Prop), (∀ e s H, endA Try.prog [ResultVar.tmp 2] R e s H → Q e s H) → wpC Try.prog cd131 Q (enterA args) H) : ACalls Try.prog 131 args H R :=
  ACalls.intro (by kernel_rfl) Try.func131 rfl (by kernel_rfl) sl131 hl (of_decide_eq_true (by kernel_rfl)) (by kernel_rfl) h
end Go.Proofs.Ytlfongfhbkefmaa.Ai
namespace Go.Proofs.Ytlfongfhbkefmaa.Ai
open Go Go.RowKit
set_option linter.unusedVariables false
set_option linter.unusedSimpArgs false
theorem cycSt_len (p : List Int) (k : Nat) : (cycSt p k).1.length ≤ k := by
  induction k with
  | zero => simp [cycSt]
  | succ k ih =>
    simp only [cycSt]
    split
    · omega
    · simp; omega
theorem shut0 (p : List Int) : Shut p [] := ⟨fun z hz => by simp at hz, fun z _ h => by simp at h⟩
/-- a state of the walk from x: nothing yet, or a way -/
def Ph (p s0 : List Int) (x : Nat) (c : List Int) (y : Int) : Prop := (c = [] ∧ y = x) ∨ (Way p (x : Int) c y ∧ (x : Int) ∉ s0 ∧ ∀ z ∈ c, z ∉ s0)
theorem Ph.yr {p s0 : List Int} {x : Nat} {c : List Int} {y : Int} (hp : Prm p) (hx : x < p.length) (h : Ph p s0 x c y) : 0 ≤ y ∧ y < p.length := by
  rcases h with ⟨_, rfl⟩ | ⟨h, _, _⟩
  · omega
  · exact h.yrng hp
theorem Ph.len {p s0 : List Int} {x : Nat} {c : List Int} {y : Int} (h : Ph p s0 x c y) : c.length ≤ p.length := by
  rcases h with ⟨rfl, _⟩ | ⟨h, _, _⟩
  · simp
  · exact h.len.2
theorem Ph.next {p s0 : List Int} {x : Nat} {c : List Int} {y : Int} (hp : Prm p) (hx : x < p.length) (h : Ph p s0 x c y) (hy : y ∉ s0 ++ c) : Ph p s0 x (c ++ [y]) (p.getD y.toNat 0) := by
  rw [List.mem_append, not_or] at hy
  rcases h with ⟨rfl, rfl⟩ | ⟨h, h1, h2⟩
  · right
    refine ⟨by have := Way.first hp hx; simpa using this, hy.1, fun z hz => ?_⟩
    simp at hz; rw [hz]; exact hy.1
  · right
    have hne : y ≠ x := fun e => hy.2 (by
      have hl := h.len
      have := getD_mem (show 0 < c.length by omega)
      rw [h.head] at this
      rw [e]; exact this)
    refine ⟨h.next hp hne, h1, fun z hz => ?_⟩
    rcases List.mem_append.1 hz with g | g
    · exact h2 z g
    · simp at g; rw [g]; exact hy.1
/-- the walk ends -/
theorem Ph.done {p s0 : List Int} {x : Nat} {c : List Int} {y : Int} (hp : Prm p) (h : Ph p s0 x c y) (hs : Shut p s0) (hy : y ∈ s0 ++ c) :
    (c = [] ∧ (x : Int) ∈ s0) ∨ (c ≠ [] ∧ (x : Int) ∉ s0 ∧ c = cycC p x ∧ Shut p (s0 ++ c)) := by
  rcases h with ⟨rfl, rfl⟩ | ⟨h, h1, h2⟩
  · rw [List.append_nil] at hy; exact .inl ⟨rfl, hy⟩
  · have ho := h.out hs h2
    have hc : y ∈ c := (List.mem_append.1 hy).resolve_left ho
    have e := h.back hp hc
    subst e
    exact .inr ⟨h.ne, h1, h.done, h.shut hp hs⟩
set_option maxHeartbeats 4000000 in
theorem cycI_c (v : Value) (p : List Int) (H : AH) (hr : Row 3 H v p) (hp : Prm p) :
    ACalls Try.prog 130 [v] H fun r H' => InL H.length H'.length 38 3 H' r (cycSt p p.length).1 ∧ H <+: H' := by
  have h8 := hp.1
  have hrg := prm_range hp
  refine in130 rfl ?_
  intro Q hQ
  simp (maxSteps := 1000000) (disch := omega) only [cd130, S, S1, S2, S3, S4, S5, ST, eq_self, reduceIte, reduceCtorEq, Nat.reduceEqDiff, Nat.reduceAdd]
  have hp0 := List.prefix_append H [AObj.cells [] 38 false]
  simp (maxSteps := 1000000) (disch := omega) only [hr.len Try.underlying38, S, S1, S2, S3, S4, S5, ST, eq_self, reduceIte, reduceCtorEq, Nat.reduceEqDiff, Nat.reduceAdd]
  refine LoopH.by (fun m s H' => ∃ i b o us, m + i = p.length ∧ s 0 = v ∧ s 10 = .int .i64 (p.length : Int) ∧ s 11 = .int .i64 ((i : Nat) : Int) ∧ s 4 = .int .u64 ((b : Nat) : Int) ∧ s 3 = .slice (some ⟨o, 0, none⟩) (cycSt p i).1.length (cycSt p i).1.length ∧ Bits b p.length (cycSt p i).2 ∧ Shut p (cycSt p i).2 ∧ InU H.length H'.length 38 3 H' o us (cycSt p i).1 ∧ H <+: H') p.length ?_ ?_
  · refine ⟨0, 0, H.length, [], by simp, rfl, rfl, rfl, rfl, rfl, ⟨by decide, fun z _ => by simp [cycSt]⟩, shut0 p, ?_, hp0⟩
    have := InU.new H.length 38 3 H (Nat.le_refl _)
    simpa [cycSt] using this
  · rintro m s H' ⟨i, b, o, us, hm, h0, h10, h11, h4, h3, hbits, hshut, hin, hpp⟩
    have hcl := cycSt_len p i
    have hst : cycSt p (i + 1) = if (i : Int) ∈ (cycSt p i).2 then cycSt p i else ((cycSt p i).1 ++ [cycC p i], (cycSt p i).2 ++ cycC p i) := rfl
    have hlast : i = p.length → (cycSt p p.length).1 = (cycSt p i).1 := fun e => by rw [e]
    generalize hO : (cycSt p i).1 = O at *
    generalize hS : (cycSt p i).2 = Se at *
    simp (maxSteps := 1000000) (disch := omega) only [h0, h10, h11, h4, h3, S, S1, S2, S3, S4, S5, ST, eq_self, reduceIte, reduceCtorEq, Nat.reduceEqDiff, Nat.reduceAdd]
    refine brD.intro (fun g => ?_) (fun g => ?_) <;> simp (maxSteps := 1000000) (disch := omega) only [h0, h10, h11, h4, h3, S, S1, S2, S3, S4, S5, ST, eq_self, reduceIte, reduceCtorEq, Nat.reduceEqDiff, Nat.reduceAdd]
    · have hi : i < p.length := by omega
      refine LoopH.by (fun m' s' H'' => ∃ c y b', m' + c.length = p.length + 1 ∧ Ph p Se i c y ∧ s' 0 = v ∧ s' 10 = .int .i64 (p.length : Int) ∧ s' 11 = .int .i64 ((i : Nat) : Int) ∧ s' 3 = .slice (some ⟨o, 0, none⟩) O.length O.length ∧ s' 7 = .int .i64 y ∧ s' 4 = .int .u64 ((b' : Nat) : Int) ∧ Bits b' p.length (Se ++ c) ∧ Own 3 H' H'' (s' 6) c ∧ H' <+: H'') (p.length + 1) ?_ ?_
      · refine ⟨[], i, b, by simp, .inl ⟨rfl, rfl⟩, ?_⟩
        have f1 : Bits b p.length (Se ++ []) := by rw [List.append_nil]; exact hbits
        have f2 : Own 3 H' (H' ++ [AObj.cells [] 3 false]) (.slice (some ⟨H'.length, 0, none⟩) 0 0) [] := .inr ⟨H'.length, rfl, Nat.le_refl _, at_new ..⟩
        have f3 := List.prefix_append H' [AObj.cells [] 3 false]
        simp only [S, S1, S2, S3, S4, S5, ST, eq_self, reduceIte, reduceCtorEq, Nat.reduceEqDiff, Nat.reduceAdd, h0, h10, h11, h4, h3]
        exact ⟨hbits, f2, f3⟩
      · rintro m' s' H'' ⟨c, y, b', hm', hph, g0, g10, g11, g3, g7, g4, hb', hown, hpq⟩
        have hyr := hph.yr hp hi
        have hcln := hph.len
        have hr' := hr.pre (hpp.trans hpq)
        obtain ⟨Y, rfl⟩ : ∃ Y : Nat, y = Y := ⟨y.toNat, by omega⟩
        have hb64 : b' < 2 ^ 64 := Nat.lt_of_lt_of_le hb'.1 (by decide)
        have htb := hb'.2 Y (by omega)
        generalize hw : s' 6 = w at *
        simp (maxSteps := 1000000) (disch := omega) only [g0, g10, g11, g3, g7, g4, hw, S, S1, S2, S3, S4, S5, ST, eq_self, reduceIte, reduceCtorEq, Nat.reduceEqDiff, Nat.reduceAdd]
        refine CallH.by (has_c b' Y H'' hb64 (by omega)) ?_
        rintro _ _ ⟨rfl, rfl⟩
        rw [htb]
        simp (maxSteps := 1000000) (disch := omega) only [S, S1, S2, S3, S4, S5, ST, eq_self, reduceIte, reduceCtorEq, Nat.reduceEqDiff, Nat.reduceAdd]
        refine brD.intro (fun e => ?_) (fun e => ?_)
        · -- the walk ends
          simp (maxSteps := 1000000) (disch := omega) only [g0, g10, g11, g3, g7, g4, hw, hown.row.len Try.underlying38, S, S1, S2, S3, S4, S5, ST, eq_self, reduceIte, reduceCtorEq, Nat.reduceEqDiff, Nat.reduceAdd]
          rcases hph.done hp hshut e with ⟨rfl, hx⟩ | ⟨hne, hx, hc, hsh⟩
          · refine brD.intro (fun h => absurd h (by simp)) (fun _ => ?_)
            simp (maxSteps := 1000000) (disch := omega) only [g0, g10, g11, g3, g7, g4, hw, wrap64, S, S1, S2, S3, S4, S5, ST, eq_self, reduceIte, reduceCtorEq, Nat.reduceEqDiff, Nat.reduceAdd]
            rw [if_pos hx] at hst
            have hin2 := (hin.pre hpq).wide (Nat.le_refl _) hpq.length_le
            rw [List.append_nil] at hb'
            have hpp2 := hpp.trans hpq
            refine ⟨m - 1, by omega, i + 1, b', o, us, by omega, ?_⟩
            rw [hst, hO, hS]
            (repeat' first | exact hb' | exact hshut | exact hin2 | exact hpp2 | apply And.intro) <;> first | (simp only [Value.int.injEq, true_and]; omega) | omega | rfl | assumption | (simp; done) | (simp; omega)
          · have hlen1 : 1 ≤ c.length := by
              cases c with
              | nil => exact absurd rfl hne
              | cons _ _ => simp
            refine brD.intro (fun _ => ?_) (fun h => absurd (show (0 : Int) < c.length by omega) h)
            rw [if_neg hx] at hst
            have hinw := InI.of hown.mine
            obtain ⟨H3, k1, k2, k3, k4⟩ := (hin.pre hpq).app1 (P := Try.prog) (t2 := 26) Try.underlying26 cs38 (by rw [by38]; decide) zk38 hinw hpp.length_le hpq.length_le (Nat.le_refl _) (by omega)
            have hbs : buildSliceA Try.prog 26 1 [(0, w)] H'' = some (.slice (some ⟨H''.length, 0, none⟩) 1 1, H'' ++ [.cells [w] 38 false]) := by
              obtain ⟨q, eq⟩ := hown.row.shape
              rw [eq]
              exact bs1 Try.underlying26 cs38 ze38 ⟨by kernel_rfl, by kernel_rfl⟩ H'' rfl
            simp (maxSteps := 1000000) (disch := omega) only [g0, g10, g11, g3, g7, g4, hw, hbs, k1, wrap64, S, S1, S2, S3, S4, S5, ST, eq_self, reduceIte, reduceCtorEq, Nat.reduceEqDiff, Nat.reduceAdd]
            have ho := hin.1
            have f1 : H <+: H3 := prefix_of fun j x hx' => k4 j x (by have := at_lt hx'; omega) (pre_at (hpp.trans hpq) hx')
            have f2 : InU H.length H3.length 38 3 H3 (H''.length + 1) (us.take O.length ++ [w]) (O ++ [cycC p i]) := by
              rw [k3, ← hc]; exact k2
            rw [hc] at hb' hsh
            have f3 : (O ++ [cycC p i]).length = O.length + 1 := by simp
            refine ⟨m - 1, by omega, i + 1, b', H''.length + 1, us.take O.length ++ [w], by omega, ?_⟩
            rw [hst]
            simp only [f3]
            (repeat' first | exact hb' | exact hsh | exact f2 | exact f1 | apply And.intro) <;> first | (simp only [Value.int.injEq, true_and]; omega) | omega | rfl | assumption | (simp; done) | (simp; omega)
        · -- one more
          have e3 : (Y : Int).toNat = Y := by omega
          have hYl : Y < p.length := by omega
          have hb2 := hb'.or (y := Y) (by omega)
          have sh := bin_shl Try.prog 98 Y (by omega)
          have hp2 : 2 ^ Y < 2 ^ 64 := Nat.pow_lt_pow_right (by decide) (by omega)
          have bo := bin_or Try.prog 98 b' (2 ^ Y) hb64 hp2
          obtain ⟨w', H3, k1, k2, k3, k4, k5, k6⟩ := own1_38 hown hpq (by omega) (Y : Int)
          have hr3 := hr.pre (hpp.trans k3)
          have nx := hph.next hp hi e
          rw [e3] at nx
          have f0 : m' - 1 + (c ++ [(Y : Int)]).length = p.length + 1 := by simp; have := nx.len; simp at this; omega
          simp (maxSteps := 1000000) (disch := omega) only [g0, g10, g11, g3, g7, g4, hw, sh, bo, k1, hr3.ix Try.underlying38 cs3, hr3.cell, Int.toNat_natCast, S, S1, S2, S3, S4, S5, ST, eq_self, reduceIte, reduceCtorEq, Nat.reduceEqDiff, Nat.reduceAdd]
          have hm1 : m' - 1 < m' := by have := nx.len; simp at this; omega
          refine ⟨m' - 1, hm1, c ++ [(Y : Int)], p.getD Y 0, b' ||| 2 ^ Y, f0, nx, ?_⟩
          have hb3 : Bits (b' ||| 2 ^ Y) p.length (Se ++ (c ++ [(Y : Int)])) := by rw [← List.append_assoc]; exact hb2
          (repeat' first | exact hb3 | exact k2 | exact k3 | apply And.intro) <;> first | (simp only [Value.int.injEq, true_and]; omega) | omega | rfl | assumption | (simp; done) | (simp; omega)
    · refine hQ _ _ _ ?_
      simp (maxSteps := 1000000) (disch := omega) only [h3, S, S1, S2, S3, S4, S5, ST, eq_self, reduceIte, reduceCtorEq, Nat.reduceEqDiff, Nat.reduceAdd]
      rw [hlast (by omega)]
      exact ⟨hin.inl, hpp⟩
set_option maxHeartbeats 4000000 in
theorem cycS_c (v : Value) (p : List Int) (H : AH) (hr : Row 3 H v p) (hp : Prm p) :
    ACalls Try.prog 131 [v] H fun r H' => InL H.length H'.length 38 3 H' r (cycSt p p.length).1 ∧ H <+: H' := by
  have h8 := hp.1
  have hrg := prm_range hp
  refine in131 rfl ?_
  intro Q hQ
  simp (maxSteps := 1000000) (disch := omega) only [cd131, S, S1, S2, S3, S4, S5, ST, eq_self, reduceIte, reduceCtorEq, Nat.reduceEqDiff, Nat.reduceAdd]
  have hp0 := List.prefix_append H [AObj.cells [] 38 false]
  have hp1 := pre_app hp0 [AObj.cells [] 3 false]
  refine LoopH.by (fun m s H' => ∃ i o q us, m + i = p.length ∧ s 0 = v ∧ s 5 = .int .i64 ((i : Nat) : Int) ∧ s 3 = .slice (some ⟨o, 0, none⟩) (cycSt p i).1.length (cycSt p i).1.length ∧ s 4 = .slice (some ⟨q, 0, none⟩) (cycSt p i).2.length (cycSt p i).2.length ∧ H.length ≤ q ∧ H'[q]? = some (.cells (ints (cycSt p i).2) 3 false) ∧ Away q o us (cycSt p i).1 ∧ Shut p (cycSt p i).2 ∧ (cycSt p i).2.Nodup ∧ InU H.length H'.length 38 3 H' o us (cycSt p i).1 ∧ H <+: H') p.length ?_ ?_
  · refine ⟨0, H.length, (H ++ [AObj.cells [] 38 false]).length, [], by simp, rfl, rfl, rfl, rfl, by simp, at_new .., ⟨by simp, fun i hi => absurd hi (by simp [cycSt])⟩, shut0 p, by simp [cycSt], ?_, hp1⟩
    have := ((InU.new H.length 38 3 H (Nat.le_refl _)).pre (List.prefix_append (H ++ [AObj.cells [] 38 false]) [AObj.cells [] 3 false])).wide (Nat.le_refl _) (show H.length + 1 ≤ (H ++ [AObj.cells [] 38 false] ++ [AObj.cells [] 3 false]).length by simp)
    simpa [cycSt] using this
  · rintro m s H' ⟨i, o, q, us, hm, h0, h5, h3, h4, hq0, hq, haw, hshut, hnd, hin, hpp⟩
    have hcl := cycSt_len p i
    have hst : cycSt p (i + 1) = if (i : Int) ∈ (cycSt p i).2 then cycSt p i else ((cycSt p i).1 ++ [cycC p i], (cycSt p i).2 ++ cycC p i) := rfl
    have hlast : i = p.length → (cycSt p p.length).1 = (cycSt p i).1 := fun e => by rw [e]
    generalize hO : (cycSt p i).1 = O at *
    generalize hS : (cycSt p i).2 = Se at *
    have hr' := hr.pre hpp
    have hsl := nodup_len p.length Se hnd hshut.1
    have hseen : Row 3 H' (.slice (some ⟨q, 0, none⟩) Se.length Se.length) Se := .inr ⟨q, 0, ints Se, false, rfl, hq, by rw [ints_len]; omega, by rw [List.drop_zero, List.take_of_length_le (by rw [ints_len]; exact Nat.le_refl _)]⟩
    simp (maxSteps := 1000000) (disch := omega) only [h0, h5, h3, h4, hr'.len Try.underlying38, S, S1, S2, S3, S4, S5, ST, eq_self, reduceIte, reduceCtorEq, Nat.reduceEqDiff, Nat.reduceAdd]
    refine brD.intro (fun g => ?_) (fun g => ?_) <;> simp (maxSteps := 1000000) (disch := omega) only [h0, h5, h3, h4, S, S1, S2, S3, S4, S5, ST, eq_self, reduceIte, reduceCtorEq, Nat.reduceEqDiff, Nat.reduceAdd]
    · have hi : i < p.length := by omega
      refine CallH.by (l1Has_c _ Se _ H' hseen (by omega)) ?_
      rintro _ _ ⟨rfl, rfl⟩
      simp (maxSteps := 1000000) (disch := omega) only [S, S1, S2, S3, S4, S5, ST, eq_self, reduceIte, reduceCtorEq, Nat.reduceEqDiff, Nat.reduceAdd]
      refine brD.intro (fun hx => ?_) (fun hx => ?_) <;> simp (maxSteps := 1000000) (disch := omega) only [h0, h5, h3, h4, wrap64, S, S1, S2, S3, S4, S5, ST, eq_self, reduceIte, reduceCtorEq, Nat.reduceEqDiff, Nat.reduceAdd]
      · rw [if_pos hx] at hst
        refine ⟨m - 1, by omega, i + 1, o, q, us, ?_⟩
        rw [hst, hO, hS]
        (repeat' first | exact haw | exact hshut | exact hnd | exact hin | exact hpp | exact hq | exact hq0 | apply And.intro) <;> first | (simp only [Value.int.injEq, true_and]; omega) | omega | rfl | assumption | (simp; done) | (simp; omega)
      · rw [if_neg hx] at hst
        have hcp := List.prefix_append H' [AObj.cells [.int .i64 (i : Int)] 3 false]
        have hr2 := hr'.pre hcp
        simp (maxSteps := 1000000) (disch := omega) only [h0, h5, h3, h4, hr2.ix Try.underlying38 cs3, hr2.cell, Int.toNat_natCast, S, S1, S2, S3, S4, S5, ST, eq_self, reduceIte, reduceCtorEq, Nat.reduceEqDiff, Nat.reduceAdd]
        refine LoopH.by (fun m' s' H'' => ∃ c y, m' + c.length = p.length + 1 ∧ Way p (i : Int) c y ∧ (∀ z ∈ c, z ∉ Se) ∧ s' 0 = v ∧ s' 5 = .int .i64 ((i : Nat) : Int) ∧ s' 3 = .slice (some ⟨o, 0, none⟩) O.length O.length ∧ s' 4 = .slice (some ⟨q, 0, none⟩) Se.length Se.length ∧ s' 7 = .int .i64 y ∧ Own 3 H' H'' (s' 6) c ∧ H' <+: H'') p.length ?_ ?_
        · have f1 := Way.first hp hi
          have f2 : ∀ z ∈ [(i : Int)], z ∉ Se := fun z hz => by simp at hz; rw [hz]; exact hx
          have f3 : Own 3 H' (H' ++ [AObj.cells [.int .i64 (i : Int)] 3 false]) (.slice (some ⟨H'.length, 0, none⟩) 1 1) [(i : Int)] := .inr ⟨H'.length, rfl, Nat.le_refl _, at_new ..⟩
          refine ⟨[(i : Int)], p.getD i 0, by simp, f1, f2, ?_⟩
          simp only [S, S1, S2, S3, S4, S5, ST, eq_self, reduceIte, reduceCtorEq, Nat.reduceEqDiff, Nat.reduceAdd, h0, h5, h3, h4]
          exact ⟨f3, hcp⟩
        · rintro m' s' H'' ⟨c, y, hm', hway, hdis, g0, g5, g3, g4, g7, hown, hpq⟩
          have hyr := hway.yrng hp
          have hcln := hway.len
          have hr3 := hr'.pre hpq
          have e3 : ((y.toNat : Nat) : Int) = y := by omega
          generalize hw : s' 6 = w at *
          simp (maxSteps := 1000000) (disch := omega) only [g0, g5, g3, g4, g7, hw, S, S1, S2, S3, S4, S5, ST, eq_self, reduceIte, reduceCtorEq, Nat.reduceEqDiff, Nat.reduceAdd]
          refine brD.intro (fun e => ?_) (fun e => ?_)
          · -- one more
            have hne : y ≠ (i : Int) := e
            have nx := hway.next hp hne
            have nout := hway.out hshut hdis
            obtain ⟨w', H3, k1, k2, k3, k4, k5, k6⟩ := own1_38 hown hpq (by omega) y
            have hr4 := hr'.pre k3
            simp (maxSteps := 1000000) (disch := omega) only [g0, g5, g3, g4, g7, hw, k1, hr4.ix Try.underlying38 cs3, hr4.cell, S, S1, S2, S3, S4, S5, ST, eq_self, reduceIte, reduceCtorEq, Nat.reduceEqDiff, Nat.reduceAdd]
            have f0 : m' - 1 + (c ++ [y]).length = p.length + 1 := by have := nx.len; simp at this ⊢; omega
            have f1 : ∀ z ∈ c ++ [y], z ∉ Se := fun z hz => by
              rcases List.mem_append.1 hz with h | h
              · exact hdis z h
              · simp at h; rw [h]; exact nout
            have hm1 : m' - 1 < m' := by have := nx.len; simp at this; omega
            refine ⟨m' - 1, hm1, c ++ [y], p.getD y.toNat 0, f0, nx, f1, ?_⟩
            (repeat' first | exact k2 | exact k3 | apply And.intro) <;> first | (simp only [Value.int.injEq, true_and]; omega) | omega | rfl | assumption | (simp; done) | (simp; omega)
          · -- the cycle is whole
            have ey : y = (i : Int) := Decidable.not_not.1 e
            subst ey
            have hc := hway.done
            have hsh := hway.shut hp hshut
            have hnd2 : (Se ++ c).Nodup := List.nodup_append.2 ⟨hnd, hway.nd, fun a ha b hb e => hdis b hb (e ▸ ha)⟩
            have hq2 := pre_at hpq hq
            have hqlt := at_lt hq
            have hoS : Own 3 H H'' (.slice (some ⟨q, 0, none⟩) Se.length Se.length) Se := .inr ⟨q, rfl, hq0, hq2⟩
            have hcl2 := nodup_len p.length (Se ++ c) hnd2 hsh.1
            obtain ⟨w2, H3, k1, k2, k3, k4, k5⟩ := hoS.app (P := Try.prog) (t := 38) Try.underlying38 cs3 (by rw [by3]; decide) zk3 hown.row (hpp.trans hpq) (by simp at hcl2; omega)
            have hcne : 1 ≤ c.length := hcln.1
            obtain ⟨q2, hw2, hq20, hq2c⟩ : ∃ q2, w2 = .slice (some ⟨q2, 0, none⟩) (Se ++ c).length (Se ++ c).length ∧ H''.length ≤ q2 ∧ H3[q2]? = some (.cells (ints (Se ++ c)) 3 false) := by
              rcases k2 with ⟨_, h⟩ | ⟨q2, e1, e2, e3⟩
              · have := congrArg List.length h
                rw [List.length_append, List.length_nil] at this
                omega
              · refine ⟨q2, e1, ?_, e3⟩
                rcases k5 with h | ⟨h, _⟩
                · rw [e1] at h; exact h
                · rw [h] at e1
                  have := congrArg (fun v => match v with | Value.slice _ n _ => n | _ => 0) e1
                  simp only [List.length_append] at this
                  omega
            subst hw2
            have keepq : ∀ (j : Nat) (x : AObj), j ≠ q → H''[j]? = some x → H3[j]? = some x := fun j x hj hx => k4 j x (.inr hj) hx
            have hin3 := ((hin.pre hpq).moveq haw keepq)
            have hown3 : Own 3 H' H3 w c := hown.keep fun x hx => keepq _ _ (by
              rcases hown with ⟨hn, hc0⟩ | ⟨o2, e1, e2, e3⟩
              · rw [hc0] at hcne; simp at hcne
              · rw [e1]; show o2 ≠ q; omega) hx
            have hl3 : H''.length ≤ H3.length := by have := at_lt hq2c; omega
            have hinw : InI H'.length H''.length 3 H3 w c := by
              rcases hown with ⟨hn, hc0⟩ | ⟨o2, e1, e2, e3⟩
              · rw [hc0] at hcne; simp at hcne
              · rcases hown3 with ⟨hn, _⟩ | ⟨o3, f1, f2, f3⟩
                · rw [e1] at hn; cases hn
                · rw [e1] at f1
                  simp only [Value.slice.injEq, Option.some.injEq, Addr.mk.injEq] at f1
                  have : o2 = o3 := f1.1.1
                  subst this
                  exact .inr ⟨o2, c, e1, e2, at_lt e3, f3, List.take_length ..⟩
            obtain ⟨H4, j1, j2, j3, j4⟩ := hin3.app1 (P := Try.prog) (t2 := 26) Try.underlying26 cs38 (by rw [by38]; decide) zk38 hinw hpp.length_le (by have := hpq.length_le; omega) hl3 (by omega)
            have hbs : buildSliceA Try.prog 26 1 [(0, w)] H3 = some (.slice (some ⟨H3.length, 0, none⟩) 1 1, H3 ++ [.cells [w] 38 false]) := by
              obtain ⟨qq, eq⟩ := hown.row.shape
              rw [eq]
              exact bs1 Try.underlying26 cs38 ze38 ⟨by kernel_rfl, by kernel_rfl⟩ H3 rfl
            simp (maxSteps := 1000000) (disch := omega) only [g0, g5, g3, g4, g7, hw, k1, hbs, j1, wrap64, S, S1, S2, S3, S4, S5, ST, eq_self, reduceIte, reduceCtorEq, Nat.reduceEqDiff, Nat.reduceAdd]
            have ho := hin.1
            have ho2 := hin.2.1
            have f1 : H <+: H4 := prefix_of fun j x hx' => j4 j x (by have := at_lt hx'; omega) (pre_at k3 hx')
            have f2 : InU H.length H4.length 38 3 H4 (H3.length + 1) (us.take O.length ++ [w]) (O ++ [cycC p i]) := by
              rw [j3, ← hc]; exact j2
            have f3 : H4[q2]? = some (.cells (ints (Se ++ cycC p i)) 3 false) := by
              rw [← hc]; exact j4 _ _ (by have := hpq.length_le; omega) hq2c
            have f4 : Away q2 (H3.length + 1) (us.take O.length ++ [w]) (O ++ [cycC p i]) := by
              rw [← hc]
              refine ⟨by have := at_lt hq2c; omega, fun j hj => ?_⟩
              obtain ⟨g2, g3, g4, g5, g6, g7⟩ := hin
              simp only [List.length_append, List.length_cons, List.length_nil] at hj
              have hul : (us.take O.length).length = O.length := by simp; omega
              by_cases cj : j < O.length
              · have : (us.take O.length ++ [w]).getD j undef = us.getD j undef := by
                  rw [List.getD_eq_getElem?_getD, List.getD_eq_getElem?_getD, List.getElem?_append_left (by omega), List.getElem?_take, if_pos cj]
                rw [this]
                rcases (g6 j cj).1.at_ with h | h
                · exact .inl h
                · exact .inr (by have := hpq.length_le; omega)
              · obtain rfl : j = O.length := by omega
                have : (us.take O.length ++ [w]).getD O.length undef = w := by
                  rw [List.getD_eq_getElem?_getD, List.getElem?_append_right (by omega), hul]; simp
                rw [this]
                rcases hinw.at_ with h | h
                · exact .inl h
                · exact .inr (by omega)
            rw [hc] at hsh hnd2
            have f5 : (O ++ [cycC p i]).length = O.length + 1 := by simp
            have f6 : H.length ≤ q2 := by have := hpp.length_le; have := hpq.length_le; omega
            rw [hc]
            refine ⟨m - 1, by omega, i + 1, H3.length + 1, q2, us.take O.length ++ [w], by omega, ?_⟩
            rw [hst]
            simp only [f5]
            (repeat' first | exact f4 | exact hsh | exact hnd2 | exact f2 | exact f1 | exact f3 | exact f6 | apply And.intro) <;> first | (simp only [Value.int.injEq, true_and]; omega) | omega | rfl | assumption | (simp; done) | (simp; omega)
    · refine hQ _ _ _ ?_
      simp (maxSteps := 1000000) (disch := omega) only [h3, S, S1, S2, S3, S4, S5, ST, eq_self, reduceIte, reduceCtorEq, Nat.reduceEqDiff, Nat.reduceAdd]
      rw [hlast (by omega)]
      exact ⟨hin.inl, hpp⟩
end Go.Proofs.Ytlfongfhbkefmaa.Ai
namespace Go.Proofs.Ytlfongfhbkefmaa.Ai
open Go
def ords46 : List (Nat × List (Nat × Bool)) := []
def cd46 : Cd := (.seq (.reg [⟨⟨some 2, Op.assign (Operand.const (Value.int IntKind.i64 0)), none⟩, []⟩,
  ⟨⟨some 3, Op.assign (Operand.const (Value.bool false)), none⟩, []⟩]) (.seq (.seq (.reg [⟨⟨some 4, Op.move (Operand.tmp 0), none⟩, []⟩,
  ⟨⟨some 5, Op.call { callee := (Callee.value (Operand.func 127)), args := #[(Operand.tmp 4)], argTypes := #[38] }, none⟩, []⟩,
  ⟨⟨some 6, Op.unOp UnOp.not 4 (Operand.tmp 5), none⟩, []⟩]) (.cond (Operand.tmp 6) (.seq (.reg [⟨⟨some 2, Op.assign (Operand.const (Value.int IntKind.i64 0)), none⟩, []⟩,
  ⟨⟨some 3, Op.assign (Operand.const (Value.bool false)), none⟩, []⟩]) .ret) .skip)) (.seq (.reg [⟨⟨some 7, Op.move (Operand.tmp 0), none⟩, []⟩,
  ⟨⟨some 8, Op.call { callee := (Callee.builtin Builtin.len), args := #[(Operand.tmp 7)], argTypes := #[38] }, none⟩, []⟩,
  ⟨⟨some 9, Op.move (Operand.tmp 0), none⟩, []⟩,
  ⟨⟨some 10, Op.call { callee := (Callee.value (Operand.func 131)), args := #[(Operand.tmp 9)], argTypes := #[38] }, none⟩, []⟩,
  ⟨⟨some 11, Op.call { callee := (Callee.builtin Builtin.len), args := #[(Operand.tmp 10)], argTypes := #[26] }, none⟩, []⟩,
  ⟨⟨some 12, Op.binOp BinOp.sub 3 (Operand.tmp 8) (Operand.tmp 11) 3, none⟩, []⟩,
  ⟨⟨some 2, Op.assign (Operand.tmp 12), none⟩, []⟩,
  ⟨⟨some 3, Op.assign (Operand.const (Value.bool true)), none⟩, []⟩]) .ret)))
theorem sl46 : slim Try.f46.ntmps ords46 (Try.f46.body.getD .skip) = some cd46 := by kernel_rfl
theorem in46 {args : List Value} {H : AH} {R : Value → AH → Prop} (hl : args.length = 1) (h : ∀ (Q : Exit → Sl → AH → Prop), (∀ e s H, endA Try.prog [ResultVar.tmp 2, ResultVar.tmp 3] R e s H → Q e s H) → wpC Try.prog cd46 Q (enterA args) H) : ACalls Try.prog 46 args H R :=
  ACalls.intro (by kernel_rfl) Try.func46 rfl (by kernel_rfl) sl46 hl (of_decide_eq_true (by kernel_rfl)) (by kernel_rfl) h
def ords45 : List (Nat × List (Nat × Bool)) := []
def cd45 : Cd := (.seq (.reg [⟨⟨some 2, Op.assign (Operand.const (Value.int IntKind.i64 0)), none⟩, []⟩,
  ⟨⟨some 3, Op.assign (Operand.const (Value.bool false)), none⟩, []⟩]) (.seq (.seq (.reg [⟨⟨some 4, Op.move (Operand.tmp 0), none⟩, []⟩,
  ⟨⟨some 5, Op.call { callee := (Callee.value (Operand.func 56)), args := #[(Operand.tmp 4)], argTypes := #[38] }, none⟩, []⟩,
  ⟨⟨some 6, Op.unOp UnOp.not 4 (Operand.tmp 5), none⟩, []⟩]) (.cond (Operand.tmp 6) (.seq (.reg [⟨⟨some 2, Op.assign (Operand.const (Value.int IntKind.i64 0)), none⟩, []⟩,
  ⟨⟨some 3, Op.assign (Operand.const (Value.bool false)), none⟩, []⟩]) .ret) .skip)) (.seq (.reg [⟨⟨some 7, Op.move (Operand.tmp 0), none⟩, []⟩,
  ⟨⟨some 8, Op.call { callee := (Callee.builtin Builtin.len), args := #[(Operand.tmp 7)], argTypes := #[38] }, none⟩, []⟩,
  ⟨⟨some 9, Op.move (Operand.tmp 0), none⟩, []⟩,
  ⟨⟨some 10, Op.call { callee := (Callee.value (Operand.func 130)), args := #[(Operand.tmp 9)], argTypes := #[38] }, none⟩, []⟩,
  ⟨⟨some 11, Op.call { callee := (Callee.builtin Builtin.len), args := #[(Operand.tmp 10)], argTypes := #[26] }, none⟩, []⟩,
  ⟨⟨some 12, Op.binOp BinOp.sub 3 (Operand.tmp 8) (Operand.tmp 11) 3, none⟩, []⟩,
  ⟨⟨some 2, Op.assign (Operand.tmp 12), none⟩, []⟩,
  ⟨⟨some 3, Op.assign (Operand.const (Value.bool true)), none⟩, []⟩]) .ret)))
theorem sl45 : slim Try.f45.ntmps ords45 (Try.f45.body.getD .skip) = some cd45 := by kernel_rfl
theorem in45 {args : List Value} {H : AH} {R : Value → AH → Prop} (hl : args.length = 1) (h : ∀ (Q : Exit → Sl → AH → Prop), (∀ e s H, endA Try.prog [ResultVar.tmp 2, ResultVar.tmp 3] R e s H → Q e s H) → wpC Try.prog cd45 Q (enterA args) H) : ACalls Try.prog 45 args H R :=
  ACalls.intro (by kernel_rfl) Try.func45 rfl (by kernel_rfl) sl45 hl (of_decide_eq_true (by kernel_rfl)) (by kernel_rfl) h
def ords44 : List (Nat × List (Nat × Bool)) := []
def cd44 : Cd := (.seq (.reg [⟨⟨some 2, Op.assign (Operand.const (Value.slice none 0 0)), none⟩, []⟩,
  ⟨⟨some 3, Op.assign (Operand.const (Value.bool false)), none⟩, []⟩]) (.seq (.seq (.reg [⟨⟨some 4, Op.move (Operand.tmp 0), none⟩, []⟩,
  ⟨⟨some 5, Op.call { callee := (Callee.value (Operand.func 127)), args := #[(Operand.tmp 4)], argTypes := #[38] }, none⟩, []⟩,
  ⟨⟨some 6, Op.unOp UnOp.not 4 (Operand.tmp 5), none⟩, []⟩]) (.cond (Operand.tmp 6) (.seq (.reg [⟨⟨some 7, Op.buildSlice 26 0 #[], none⟩, []⟩,
  ⟨⟨some 2, Op.assign (Operand.tmp 7), none⟩, []⟩,
  ⟨⟨some 3, Op.assign (Operand.const (Value.bool false)), none⟩, []⟩]) .ret) .skip)) (.seq (.reg [⟨⟨some 8, Op.move (Operand.tmp 0), none⟩, []⟩,
  ⟨⟨some 9, Op.call { callee := (Callee.value (Operand.func 131)), args := #[(Operand.tmp 8)], argTypes := #[38] }, none⟩, []⟩,
  ⟨⟨some 2, Op.assign (Operand.tmp 9), none⟩, []⟩,
  ⟨⟨some 3, Op.assign (Operand.const (Value.bool true)), none⟩, []⟩]) .ret)))
theorem sl44 : slim Try.f44.ntmps ords44 (Try.f44.body.getD .skip) = some cd44 := by kernel_rfl
theorem in44 {args : List Value} {H : AH} {R : Value → AH → Prop} (hl : args.length = 1) (h : ∀ (Q : Exit → Sl → AH → Prop), (∀ e s H, endA Try.prog [ResultVar.tmp 2, ResultVar.tmp 3] R e s H → Q e s H) → wpC Try.prog cd44 Q (enterA args) H) : ACalls Try.prog 44 args H R :=
  ACalls.intro (by kernel_rfl) Try.func44 rfl (by kernel_rfl) sl44 hl (of_decide_eq_true (by kernel_rfl)) (by kernel_rfl) h
def ords43 : List (Nat × List (Nat × Bool)) := []
def cd43 : Cd := (.seq (.reg [⟨⟨some 2, Op.assign (Operand.const (Value.slice none 0 0)), none⟩, []⟩,
  ⟨⟨some 3, Op.assign (Operand.const (Value.bool false)), none⟩, []⟩]) (.seq (.seq (.reg [⟨⟨some 4, Op.move (Operand.tmp 0), none⟩, []⟩,
  ⟨⟨some 5, Op.call { callee := (Callee.value (Operand.func 56)), args := #[(Operand.tmp 4)], argTypes := #[38] }, none⟩, []⟩,
  ⟨⟨some 6, Op.unOp UnOp.not 4 (Operand.tmp 5), none⟩, []⟩]) (.cond (Operand.tmp 6) (.seq (.reg [⟨⟨some 2, Op.assign (Operand.const (Value.slice none 0 0)), none⟩, []⟩,
  ⟨⟨some 3, Op.assign (Operand.const (Value.bool false)), none⟩, []⟩]) .ret) .skip)) (.seq (.reg [⟨⟨some 7, Op.move (Operand.tmp 0), none⟩, []⟩,
  ⟨⟨some 8, Op.call { callee := (Callee.value (Operand.func 130)), args := #[(Operand.tmp 7)], argTypes := #[38] }, none⟩, []⟩,
  ⟨⟨some 2, Op.assign (Operand.tmp 8), none⟩, []⟩,
  ⟨⟨some 3, Op.assign (Operand.const (Value.bool true)), none⟩, []⟩]) .ret)))
theorem sl43 : slim Try.f43.ntmps ords43 (Try.f43.body.getD .skip) = some cd43 := by kernel_rfl
theorem in43 {args : List Value} {H : AH} {R : Value → AH → Prop} (hl : args.length = 1) (h : ∀ (Q : Exit → Sl → AH → Prop), (∀ e s H, endA Try.prog [ResultVar.tmp 2, ResultVar.tmp 3] R e s H → Q e s H) → wpC Try.prog cd43 Q (enterA args) H) : ACalls Try.prog 43 args H R :=
  ACalls.intro (by kernel_rfl) Try.func43 rfl (by kernel_rfl) sl43 hl (of_decide_eq_true (by kernel_rfl)) (by kernel_rfl) h
end Go.Proofs.Ytlfongfhbkefmaa.Ai
namespace Go.Proofs.Ytlfongfhbkefmaa.Ai
open Go Go.RowKit
set_option linter.unusedVariables false
set_option linter.unusedSimpArgs false
def swapR (p : List Int) : Int := if Prm p then (p.length : Int) - (cycSt p p.length).1.length else 0
theorem SwapCS_c (v : Value) (p : List Int) (H : AH) (hr : Row 3 H v p) (hlen : p.length ≤ 1099511627776) (hxs : ∀ y ∈ p, I64 y) :
    ACalls Try.prog 46 [v] H fun r H' => r = .tuple (List.toArray [.int .i64 (swapR p), .bool (decide (Prm p))]) ∧ H <+: H' := by
  refine in46 rfl ?_
  intro Q hQ
  simp (maxSteps := 1000000) (disch := omega) only [cd46, S, S1, S2, S3, S4, S5, ST, eq_self, reduceIte, reduceCtorEq, Nat.reduceEqDiff, Nat.reduceAdd]
  refine CallH.by (l9Perm_c v p H hr hlen) ?_
  rintro _ _ ⟨rfl, rfl⟩
  simp (maxSteps := 1000000) (disch := omega) only [S, S1, S2, S3, S4, S5, ST, eq_self, reduceIte, reduceCtorEq, Nat.reduceEqDiff, Nat.reduceAdd]
  refine brD.intro (fun hp => ?_) (fun hp => ?_) <;> simp (maxSteps := 1000000) (disch := omega) only [hp, hr.len Try.underlying38, S, S1, S2, S3, S4, S5, ST, eq_self, reduceIte, reduceCtorEq, Nat.reduceEqDiff, Nat.reduceAdd]
  · have h8 := hp.1
    have hc := cycSt_len p p.length
    refine CallH.by (cycS_c v p H hr hp) ?_
    rintro u H1 ⟨hin, hpp⟩
    obtain ⟨us, hrow, _, hl, _⟩ := hin.row
    have hlu := hrow.len Try.underlying26
    rw [hl] at hlu
    simp (maxSteps := 1000000) (disch := omega) only [hlu, wrap64, S, S1, S2, S3, S4, S5, ST, eq_self, reduceIte, reduceCtorEq, Nat.reduceEqDiff, Nat.reduceAdd]
    refine hQ _ _ _ ?_
    simp (maxSteps := 1000000) (disch := omega) only [S, S1, S2, S3, S4, S5, ST, eq_self, reduceIte, reduceCtorEq, Nat.reduceEqDiff, Nat.reduceAdd]
    exact ⟨by simp [swapR, hp], hpp⟩
  · refine hQ _ _ _ ?_
    simp (maxSteps := 1000000) (disch := omega) only [S, S1, S2, S3, S4, S5, ST, eq_self, reduceIte, reduceCtorEq, Nat.reduceEqDiff, Nat.reduceAdd]
    exact ⟨by simp [swapR, hp], List.prefix_refl _⟩
theorem SwapCI_c (v : Value) (p : List Int) (H : AH) (hr : Row 3 H v p) (hlen : p.length ≤ 1099511627776) (hxs : ∀ y ∈ p, I64 y) :
    ACalls Try.prog 45 [v] H fun r H' => r = .tuple (List.toArray [.int .i64 (swapR p), .bool (decide (Prm p))]) ∧ H <+: H' := by
  refine in45 rfl ?_
  intro Q hQ
  simp (maxSteps := 1000000) (disch := omega) only [cd45, S, S1, S2, S3, S4, S5, ST, eq_self, reduceIte, reduceCtorEq, Nat.reduceEqDiff, Nat.reduceAdd]
  refine CallH.by (PermI_c v p H hr hlen hxs) ?_
  rintro _ H0 ⟨rfl, hp0⟩
  have hr0 := hr.pre hp0
  simp (maxSteps := 1000000) (disch := omega) only [S, S1, S2, S3, S4, S5, ST, eq_self, reduceIte, reduceCtorEq, Nat.reduceEqDiff, Nat.reduceAdd]
  refine brD.intro (fun hp => ?_) (fun hp => ?_) <;> simp (maxSteps := 1000000) (disch := omega) only [hp, hr0.len Try.underlying38, S, S1, S2, S3, S4, S5, ST, eq_self, reduceIte, reduceCtorEq, Nat.reduceEqDiff, Nat.reduceAdd]
  · have h8 := hp.1
    have hc := cycSt_len p p.length
    refine CallH.by (cycI_c v p H0 hr0 hp) ?_
    rintro u H1 ⟨hin, hpp⟩
    obtain ⟨us, hrow, _, hl, _⟩ := hin.row
    have hlu := hrow.len Try.underlying26
    rw [hl] at hlu
    simp (maxSteps := 1000000) (disch := omega) only [hlu, wrap64, S, S1, S2, S3, S4, S5, ST, eq_self, reduceIte, reduceCtorEq, Nat.reduceEqDiff, Nat.reduceAdd]
    refine hQ _ _ _ ?_
    simp (maxSteps := 1000000) (disch := omega) only [S, S1, S2, S3, S4, S5, ST, eq_self, reduceIte, reduceCtorEq, Nat.reduceEqDiff, Nat.reduceAdd]
    exact ⟨by simp [swapR, hp], hp0.trans hpp⟩
  · refine hQ _ _ _ ?_
    simp (maxSteps := 1000000) (disch := omega) only [S, S1, S2, S3, S4, S5, ST, eq_self, reduceIte, reduceCtorEq, Nat.reduceEqDiff, Nat.reduceAdd]
    exact ⟨by simp [swapR, hp], hp0⟩
def cycR (p : List Int) : List (List Int) := if Prm p then (cycSt p p.length).1 else []
theorem InL.tup {lo hi : Nat} {e2 e : TypeId} {H : AH} {v : Value} {ls : List (List Int)} (h : InL lo hi e2 e H v ls) : isTup v = false := by
  rcases h with ⟨h, _⟩ | ⟨o, us, h, _⟩ <;> rw [h] <;> rfl
theorem CycS_c (v : Value) (p : List Int) (H : AH) (hr : Row 3 H v p) (hlen : p.length ≤ 1099511627776) (hxs : ∀ y ∈ p, I64 y) :
    ACalls Try.prog 44 [v] H fun r H' => ∃ g, r = .tuple (List.toArray [g, .bool (decide (Prm p))]) ∧ InL H.length H'.length 38 3 H' g (cycR p) ∧ H <+: H' := by
  refine in44 rfl ?_
  intro Q hQ
  simp (maxSteps := 1000000) (disch := omega) only [cd44, S, S1, S2, S3, S4, S5, ST, eq_self, reduceIte, reduceCtorEq, Nat.reduceEqDiff, Nat.reduceAdd]
  refine CallH.by (l9Perm_c v p H hr hlen) ?_
  rintro _ _ ⟨rfl, rfl⟩
  simp (maxSteps := 1000000) (disch := omega) only [S, S1, S2, S3, S4, S5, ST, eq_self, reduceIte, reduceCtorEq, Nat.reduceEqDiff, Nat.reduceAdd]
  refine brD.intro (fun hp => ?_) (fun hp => ?_) <;> simp (maxSteps := 1000000) (disch := omega) only [hp, S, S1, S2, S3, S4, S5, ST, eq_self, reduceIte, reduceCtorEq, Nat.reduceEqDiff, Nat.reduceAdd]
  · refine CallH.by (cycS_c v p H hr hp) ?_
    rintro u H1 ⟨hin, hpp⟩
    simp (maxSteps := 1000000) (disch := omega) only [hin.tup, S, S1, S2, S3, S4, S5, ST, eq_self, reduceIte, reduceCtorEq, Nat.reduceEqDiff, Nat.reduceAdd]
    refine hQ _ _ _ ?_
    simp (maxSteps := 1000000) (disch := omega) only [hin.tup, S, S1, S2, S3, S4, S5, ST, eq_self, reduceIte, reduceCtorEq, Nat.reduceEqDiff, Nat.reduceAdd]
    exact ⟨u, by simp [hp], by simpa [cycR, hp] using hin, hpp⟩
  · refine hQ _ _ _ ?_
    simp (maxSteps := 1000000) (disch := omega) only [S, S1, S2, S3, S4, S5, ST, eq_self, reduceIte, reduceCtorEq, Nat.reduceEqDiff, Nat.reduceAdd]
    refine ⟨.slice (some ⟨H.length, 0, none⟩) 0 0, by simp [hp], ?_, List.prefix_append _ _⟩
    have := (InU.new H.length 38 3 H (Nat.le_refl _)).inl
    simpa [cycR, hp] using this
theorem CycI_c (v : Value) (p : List Int) (H : AH) (hr : Row 3 H v p) (hlen : p.length ≤ 1099511627776) (hxs : ∀ y ∈ p, I64 y) :
    ACalls Try.prog 43 [v] H fun r H' => ∃ g, r = .tuple (List.toArray [g, .bool (decide (Prm p))]) ∧ InL H.length H'.length 38 3 H' g (cycR p) ∧ H <+: H' := by
  refine in43 rfl ?_
  intro Q hQ
  simp (maxSteps := 1000000) (disch := omega) only [cd43, S, S1, S2, S3, S4, S5, ST, eq_self, reduceIte, reduceCtorEq, Nat.reduceEqDiff, Nat.reduceAdd]
  refine CallH.by (PermI_c v p H hr hlen hxs) ?_
  rintro _ H0 ⟨rfl, hp0⟩
  simp (maxSteps := 1000000) (disch := omega) only [S, S1, S2, S3, S4, S5, ST, eq_self, reduceIte, reduceCtorEq, Nat.reduceEqDiff, Nat.reduceAdd]
  refine brD.intro (fun hp => ?_) (fun hp => ?_) <;> simp (maxSteps := 1000000) (disch := omega) only [hp, S, S1, S2, S3, S4, S5, ST, eq_self, reduceIte, reduceCtorEq, Nat.reduceEqDiff, Nat.reduceAdd]
  · refine CallH.by (cycI_c v p H0 (hr.pre hp0) hp) ?_
    rintro u H1 ⟨hin, hpp⟩
    simp (maxSteps := 1000000) (disch := omega) only [hin.tup, S, S1, S2, S3, S4, S5, ST, eq_self, reduceIte, reduceCtorEq, Nat.reduceEqDiff, Nat.reduceAdd]
    refine hQ _ _ _ ?_
    simp (maxSteps := 1000000) (disch := omega) only [hin.tup, S, S1, S2, S3, S4, S5, ST, eq_self, reduceIte, reduceCtorEq, Nat.reduceEqDiff, Nat.reduceAdd]
    have := hin.wide hp0.length_le (Nat.le_refl _)
    exact ⟨u, by simp [hp], by simpa [cycR, hp] using this, hp0.trans hpp⟩
  · refine hQ _ _ _ ?_
    simp (maxSteps := 1000000) (disch := omega) only [S, S1, S2, S3, S4, S5, ST, eq_self, reduceIte, reduceCtorEq, Nat.reduceEqDiff, Nat.reduceAdd]
    exact ⟨.slice none 0 0, by simp [hp], .inl ⟨rfl, by simp [cycR, hp]⟩, hp0⟩
end Go.Proofs.Ytlfongfhbkefmaa.Ai
namespace Go.Proofs.Ytlfongfhbkefmaa.Ai
open Go
def ords48 : List (Nat × List (Nat × Bool)) := [(10, [(0, false), (1, false), (2, false), (3, false), (4, false), (5, false), (6, false), (7, false), (8, false)])]
def cd48 : Cd := (.seq (.reg [⟨⟨some 2, Op.assign (Operand.const (Value.int IntKind.i64 0)), none⟩, []⟩,
  ⟨⟨some 3, Op.assign (Operand.const (Value.bool false)), none⟩, []⟩]) (.seq (.reg [⟨⟨some 4, Op.assign (Operand.const (Value.int IntKind.i64 0)), none⟩, []⟩]) (.seq (.seq (.reg [⟨⟨some 7, Op.move (Operand.tmp 0), none⟩, []⟩,
  ⟨⟨some 8, Op.call { callee := (Callee.value (Operand.func 127)), args := #[(Operand.tmp 7)], argTypes := #[38] }, none⟩, []⟩,
  ⟨⟨some 9, Op.unOp UnOp.not 4 (Operand.tmp 8), none⟩, []⟩]) (.cond (Operand.tmp 9) (.seq (.reg [⟨⟨some 10, Op.move (Operand.tmp 4), none⟩, []⟩,
  ⟨⟨some 2, Op.assign (Operand.tmp 10), none⟩, []⟩,
  ⟨⟨some 3, Op.assign (Operand.const (Value.bool false)), none⟩, []⟩]) .ret) .skip)) (.seq (.seq (.reg [⟨⟨some 5, Op.assign (Operand.const (Value.int IntKind.i64 0)), none⟩, []⟩]) (.block 0 (.loop (.seq (.seq (.reg [⟨⟨some 11, Op.move (Operand.tmp 5), none⟩, []⟩,
  ⟨⟨some 12, Op.move (Operand.tmp 0), none⟩, []⟩,
  ⟨⟨some 13, Op.call { callee := (Callee.builtin Builtin.len), args := #[(Operand.tmp 12)], argTypes := #[38] }, none⟩, []⟩,
  ⟨⟨some 14, Op.binOp BinOp.lss 3 (Operand.tmp 11) (Operand.tmp 13) 3, none⟩, []⟩]) (.cond (Operand.tmp 14) .skip (.exit 0))) (.seq (.block 1 (.seq (.reg [⟨⟨some 17, Op.move (Operand.tmp 5), none⟩, []⟩,
  ⟨⟨some 18, Op.binOp BinOp.add 3 (Operand.tmp 17) (Operand.const (Value.int IntKind.i64 1)) 3, none⟩, []⟩,
  ⟨⟨some 6, Op.assign (Operand.tmp 18), none⟩, []⟩]) (.block 2 (.loop (.seq (.seq (.reg [⟨⟨some 19, Op.move (Operand.tmp 6), none⟩, []⟩,
  ⟨⟨some 20, Op.move (Operand.tmp 0), none⟩, []⟩,
  ⟨⟨some 21, Op.call { callee := (Callee.builtin Builtin.len), args := #[(Operand.tmp 20)], argTypes := #[38] }, none⟩, []⟩,
  ⟨⟨some 22, Op.binOp BinOp.lss 3 (Operand.tmp 19) (Operand.tmp 21) 3, none⟩, []⟩]) (.cond (Operand.tmp 22) .skip (.exit 2))) (.seq (.block 3 (.seq (.reg [⟨⟨some 25, Op.move (Operand.tmp 0), none⟩, []⟩,
  ⟨⟨some 26, Op.move (Operand.tmp 5), none⟩, []⟩,
  ⟨⟨some 27, Op.indexAddr 38 (Operand.tmp 25) (Operand.tmp 26), none⟩, []⟩,
  ⟨⟨some 28, Op.load 3 (Operand.tmp 27), none⟩, []⟩,
  ⟨⟨some 29, Op.move (Operand.tmp 0), none⟩, []⟩,
  ⟨⟨some 30, Op.move (Operand.tmp 6), none⟩, []⟩,
  ⟨⟨some 31, Op.indexAddr 38 (Operand.tmp 29) (Operand.tmp 30), none⟩, []⟩,
  ⟨⟨some 32, Op.load 3 (Operand.tmp 31), none⟩, []⟩,
  ⟨⟨some 33, Op.binOp BinOp.gtr 3 (Operand.tmp 28) (Operand.tmp 32) 3, none⟩, []⟩]) (.cond (Operand.tmp 33) (.reg [⟨⟨some 34, Op.move (Operand.tmp 4), none⟩, []⟩,
  ⟨⟨some 35, Op.binOp BinOp.add 3 (Operand.tmp 34) (Operand.const (Value.int IntKind.i64 1)) 3, none⟩, []⟩,
  ⟨⟨some 4, Op.assign (Operand.tmp 35), none⟩, []⟩]) .skip))) (.reg [⟨⟨some 23, Op.move (Operand.tmp 6), none⟩, []⟩,
  ⟨⟨some 24, Op.binOp BinOp.add 3 (Operand.tmp 23) (Operand.const (Value.int IntKind.i64 1)) 3, none⟩, []⟩,
  ⟨⟨some 6, Op.assign (Operand.tmp 24), none⟩, []⟩]))))))) (.reg [⟨⟨some 15, Op.move (Operand.tmp 5), none⟩, []⟩,
  ⟨⟨some 16, Op.binOp BinOp.add 3 (Operand.tmp 15) (Operand.const (Value.int IntKind.i64 1)) 3, none⟩, []⟩,
  ⟨⟨some 5, Op.assign (Operand.tmp 16), none⟩, []⟩])))))) (.seq (.reg [⟨⟨some 36, Op.move (Operand.tmp 4), none⟩, []⟩,
  ⟨⟨some 2, Op.assign (Operand.tmp 36), none⟩, []⟩,
  ⟨⟨some 3, Op.assign (Operand.const (Value.bool true)), none⟩, []⟩]) .ret)))))
theorem sl48 : slim Try.f48.ntmps ords48 (Try.f48.body.getD .skip) = some cd48 := by kernel_rfl
theorem in48 {args : List Value} {H : AH} {R : Value → AH → Prop} (hl : args.length = 1) (h : ∀ (Q : Exit → Sl → AH → Prop), (∀ e s H, endA Try.prog [ResultVar.tmp 2, ResultVar.tmp 3] R e s H → Q e s H) → wpC Try.prog cd48 Q (enterA args) H) : ACalls Try.prog 48 args H R :=
  ACalls.intro (by kernel_rfl) Try.func48 rfl (by kernel_rfl) sl48 hl (of_decide_eq_true (by kernel_rfl)) (by kernel_rfl) h
def ords47 : List (Nat × List (Nat × Bool)) := []
def cd47 : Cd := (.seq (.reg [⟨⟨some 2, Op.assign (Operand.const (Value.int IntKind.i64 0)), none⟩, []⟩,
  ⟨⟨some 3, Op.assign (Operand.const (Value.bool false)), none⟩, []⟩]) (.seq (.seq (.reg [⟨⟨some 9, Op.move (Operand.tmp 0), none⟩, []⟩,
  ⟨⟨some 10, Op.call { callee := (Callee.value (Operand.func 56)), args := #[(Operand.tmp 9)], argTypes := #[38] }, none⟩, []⟩,
  ⟨⟨some 11, Op.unOp UnOp.not 4 (Operand.tmp 10), none⟩, []⟩]) (.cond (Operand.tmp 11) (.seq (.reg [⟨⟨some 2, Op.assign (Operand.const (Value.int IntKind.i64 0)), none⟩, []⟩,
  ⟨⟨some 3, Op.assign (Operand.const (Value.bool false)), none⟩, []⟩]) .ret) .skip)) (.seq (.reg [⟨⟨some 4, Op.assign (Operand.const (Value.int IntKind.i64 0)), none⟩, []⟩]) (.seq (.seq (.reg [⟨⟨some 12, Op.move (Operand.tmp 0), none⟩, []⟩,
  ⟨⟨some 13, Op.call { callee := (Callee.builtin Builtin.len), args := #[(Operand.tmp 12)], argTypes := #[38] }, none⟩, []⟩,
  ⟨⟨some 14, Op.move (Operand.const (Value.int IntKind.i64 0)), none⟩, []⟩]) (.block 0 (.loop (.seq (.reg [⟨⟨some 15, Op.binOp BinOp.lss 3 (Operand.tmp 14) (Operand.tmp 13) 3, none⟩, []⟩]) (.seq (.cond (Operand.tmp 15) .skip (.exit 0)) (.seq (.block 1 (.seq (.reg [⟨⟨some 16, Op.move (Operand.tmp 14), none⟩, []⟩,
  ⟨⟨some 17, Op.indexAddr 38 (Operand.tmp 12) (Operand.tmp 14), none⟩, []⟩,
  ⟨⟨some 18, Op.load 3 (Operand.tmp 17), none⟩, []⟩,
  ⟨⟨some 5, Op.assign (Operand.tmp 16), none⟩, []⟩,
  ⟨⟨some 6, Op.assign (Operand.tmp 18), none⟩, []⟩]) (.seq (.reg [⟨⟨some 19, Op.move (Operand.tmp 0), none⟩, []⟩,
  ⟨⟨some 20, Op.move (Operand.tmp 5), none⟩, []⟩,
  ⟨⟨some 21, Op.slice 38 (Operand.tmp 19) (some (Operand.tmp 20)) none none, none⟩, []⟩,
  ⟨⟨some 22, Op.call { callee := (Callee.builtin Builtin.len), args := #[(Operand.tmp 21)], argTypes := #[38] }, none⟩, []⟩,
  ⟨⟨some 23, Op.move (Operand.const (Value.int IntKind.i64 0)), none⟩, []⟩]) (.block 2 (.loop (.seq (.reg [⟨⟨some 24, Op.binOp BinOp.lss 3 (Operand.tmp 23) (Operand.tmp 22) 3, none⟩, []⟩]) (.seq (.cond (Operand.tmp 24) .skip (.exit 2)) (.seq (.block 3 (.seq (.reg [⟨⟨some 25, Op.indexAddr 38 (Operand.tmp 21) (Operand.tmp 23), none⟩, []⟩,
  ⟨⟨some 26, Op.load 3 (Operand.tmp 25), none⟩, []⟩,
  ⟨⟨some 8, Op.assign (Operand.tmp 26), none⟩, []⟩]) (.seq (.reg [⟨⟨some 27, Op.move (Operand.tmp 6), none⟩, []⟩,
  ⟨⟨some 28, Op.move (Operand.tmp 8), none⟩, []⟩,
  ⟨⟨some 29, Op.binOp BinOp.gtr 3 (Operand.tmp 27) (Operand.tmp 28) 3, none⟩, []⟩]) (.cond (Operand.tmp 29) (.reg [⟨⟨some 30, Op.move (Operand.tmp 4), none⟩, []⟩,
  ⟨⟨some 31, Op.binOp BinOp.add 3 (Operand.tmp 30) (Operand.const (Value.int IntKind.i64 1)) 3, none⟩, []⟩,
  ⟨⟨some 4, Op.assign (Operand.tmp 31), none⟩, []⟩]) .skip)))) (.reg [⟨⟨some 32, Op.binOp BinOp.add 3 (Operand.tmp 23) (Operand.const (Value.int IntKind.i64 1)) 3, none⟩, []⟩,
  ⟨⟨some 23, Op.move (Operand.tmp 32), none⟩, []⟩]))))))))) (.reg [⟨⟨some 33, Op.binOp BinOp.add 3 (Operand.tmp 14) (Operand.const (Value.int IntKind.i64 1)) 3, none⟩, []⟩,
  ⟨⟨some 14, Op.move (Operand.tmp 33), none⟩, []⟩]))))))) (.seq (.reg [⟨⟨some 34, Op.move (Operand.tmp 4), none⟩, []⟩,
  ⟨⟨some 2, Op.assign (Operand.tmp 34), none⟩, []⟩,
  ⟨⟨some 3, Op.assign (Operand.const (Value.bool true)), none⟩, []⟩]) .ret)))))
theorem sl47 : slim Try.f47.ntmps ords47 (Try.f47.body.getD .skip) = some cd47 := by kernel_rfl
theorem in47 {args : List Value} {H : AH} {R : Value → AH → Prop} (hl : args.length = 1) (h : ∀ (Q : Exit → Sl → AH → Prop), (∀ e s H, endA Try.prog [ResultVar.tmp 2, ResultVar.tmp 3] R e s H → Q e s H) → wpC Try.prog cd47 Q (enterA args) H) : ACalls Try.prog 47 args H R :=
  ACalls.intro (by kernel_rfl) Try.func47 rfl (by kernel_rfl) sl47 hl (of_decide_eq_true (by kernel_rfl)) (by kernel_rfl) h
end Go.Proofs.Ytlfongfhbkefmaa.Ai
namespace Go.Proofs.Ytlfongfhbkefmaa.Ai
open Go Go.RowKit
set_option linter.unusedVariables false
set_option linter.unusedSimpArgs false
/-- how many of a list are below a number -/
def invRow (x : Int) (ys : List Int) : Nat := (ys.filter fun y => decide (y < x)).length
def invs (p : List Int) : Nat → Nat
  | 0 => 0
  | k + 1 => invs p k + invRow (p.getD k 0) (p.drop (k + 1))
theorem invRow_step (x : Int) (ys : List Int) (k : Nat) (hk : k < ys.length) : invRow x (ys.take (k + 1)) = invRow x (ys.take k) + if ys.getD k 0 < x then 1 else 0 := by
  unfold invRow
  rw [List.take_add_one, List.getElem?_eq_getElem hk, List.filter_append, List.length_append]
  have : ys.getD k 0 = ys[k] := by simp [hk]
  rw [this]
  by_cases h : ys[k] < x <;> simp [h]
theorem invRow_le (x : Int) (ys : List Int) : invRow x ys ≤ ys.length := List.length_filter_le _ _
theorem invRow_self (p : List Int) (k : Nat) (hk : k < p.length) : invRow (p.getD k 0) (p.drop k) = invRow (p.getD k 0) (p.drop (k + 1)) := by
  have : p.getD k 0 = p[k] := by simp [hk]
  rw [this]
  unfold invRow
  rw [List.drop_eq_getElem_cons hk, List.filter_cons, if_neg (by simp)]
theorem invs_le (p : List Int) (k : Nat) : invs p k ≤ p.length * k := by
  induction k with
  | zero => simp [invs]
  | succ k ih =>
    have := invRow_le (p.getD k 0) (p.drop (k + 1))
    have h2 : (p.drop (k + 1)).length ≤ p.length := by simp
    simp only [invs, Nat.mul_succ]; omega
theorem invs_bd {p : List Int} (h : Prm p) (k : Nat) (hk : k ≤ p.length) : invs p k ≤ 64 := by
  have h1 := invs_le p k
  have h2 := h.1
  have h3 : p.length * k ≤ 8 * 8 := Nat.mul_le_mul h2 (by omega)
  omega
theorem drop_at (p : List Int) (a j : Nat) : (p.drop a).getD j 0 = p.getD (a + j) 0 := by
  rw [List.getD_eq_getElem?_getD, List.getElem?_drop, ← List.getD_eq_getElem?_getD]
def invR (p : List Int) : Int := if Prm p then (invs p p.length : Nat) else 0
set_option maxHeartbeats 2000000 in
theorem InvS_c (v : Value) (p : List Int) (H : AH) (hr : Row 3 H v p) (hlen : p.length ≤ 1099511627776) (hxs : ∀ y ∈ p, I64 y) :
    ACalls Try.prog 48 [v] H fun r H' => r = .tuple (List.toArray [.int .i64 (invR p), .bool (decide (Prm p))]) ∧ H <+: H' := by
  refine in48 rfl ?_
  intro Q hQ
  simp (maxSteps := 1000000) (disch := omega) only [cd48, S, S1, S2, S3, S4, S5, ST, eq_self, reduceIte, reduceCtorEq, Nat.reduceEqDiff, Nat.reduceAdd]
  refine CallH.by (l9Perm_c v p H hr hlen) ?_
  rintro _ _ ⟨rfl, rfl⟩
  simp (maxSteps := 1000000) (disch := omega) only [S, S1, S2, S3, S4, S5, ST, eq_self, reduceIte, reduceCtorEq, Nat.reduceEqDiff, Nat.reduceAdd]
  refine brD.intro (fun hp => ?_) (fun hp => ?_) <;> simp (maxSteps := 1000000) (disch := omega) only [hp, S, S1, S2, S3, S4, S5, ST, eq_self, reduceIte, reduceCtorEq, Nat.reduceEqDiff, Nat.reduceAdd]
  · have h8 := hp.1
    refine LoopH.by (fun m s H' => ∃ a, m + a = p.length ∧ s 0 = v ∧ s 5 = .int .i64 ((a : Nat) : Int) ∧ s 4 = .int .i64 ((invs p a : Nat) : Int) ∧ H = H') p.length ?_ ?_
    · exact ⟨0, by simp, rfl, rfl, rfl, rfl⟩
    · rintro m s H' ⟨a, hm, h0, h5, h4, rfl⟩
      simp (maxSteps := 1000000) (disch := omega) only [h0, h5, h4, hr.len Try.underlying38, S, S1, S2, S3, S4, S5, ST, eq_self, reduceIte, reduceCtorEq, Nat.reduceEqDiff, Nat.reduceAdd]
      refine brD.intro (fun g => ?_) (fun g => ?_)
      · have ha : a < p.length := by omega
        have b0 := invs_bd hp a (by omega)
        simp (maxSteps := 1000000) (disch := omega) only [h0, h5, h4, wrap64, S, S1, S2, S3, S4, S5, ST, eq_self, reduceIte, reduceCtorEq, Nat.reduceEqDiff, Nat.reduceAdd]
        have hdl : (p.drop (a + 1)).length = p.length - (a + 1) := by simp
        refine LoopH.by (fun m' s' H'' => ∃ j, m' + j = p.length - (a + 1) ∧ s' 0 = v ∧ s' 5 = .int .i64 ((a : Nat) : Int) ∧ s' 6 = .int .i64 ((a : Int) + 1 + (j : Nat)) ∧ s' 4 = .int .i64 (((invs p a + invRow (p.getD a 0) ((p.drop (a + 1)).take j) : Nat)) : Int) ∧ H = H'') (p.length - (a + 1)) ?_ ?_
        · exact ⟨0, by simp, by simp [S, S1, S2, S3, S4, S5, ST, eq_self, reduceIte, reduceCtorEq, Nat.reduceEqDiff, Nat.reduceAdd, h0], by simp [S, S1, S2, S3, S4, S5, ST, eq_self, reduceIte, reduceCtorEq, Nat.reduceEqDiff, Nat.reduceAdd, h5], by simp [S, S1, S2, S3, S4, S5, ST, eq_self, reduceIte, reduceCtorEq, Nat.reduceEqDiff, Nat.reduceAdd], by simp [S, S1, S2, S3, S4, S5, ST, eq_self, reduceIte, reduceCtorEq, Nat.reduceEqDiff, Nat.reduceAdd, h4, invRow], rfl⟩
        · rintro m' s' H'' ⟨j, hm', g0, g5, g6, g4, rfl⟩
          simp (maxSteps := 1000000) (disch := omega) only [g0, g5, g6, g4, hr.len Try.underlying38, S, S1, S2, S3, S4, S5, ST, eq_self, reduceIte, reduceCtorEq, Nat.reduceEqDiff, Nat.reduceAdd]
          refine brD.intro (fun q => ?_) (fun q => ?_)
          · have hj : j < (p.drop (a + 1)).length := by omega
            have st := invRow_step (p.getD a 0) (p.drop (a + 1)) j hj
            have da := drop_at p (a + 1) j
            have e1 : ((a : Int) + 1 + (j : Nat)).toNat = a + 1 + j := by omega
            have b1 := invRow_le (p.getD a 0) ((p.drop (a + 1)).take j)
            have b2 : ((p.drop (a + 1)).take j).length ≤ j := by simp; omega
            rw [da] at st
            simp (maxSteps := 1000000) (disch := omega) only [g0, g5, g6, g4, hr.len Try.underlying38, hr.ix Try.underlying38 cs3, hr.cell, Int.toNat_natCast, e1, S, S1, S2, S3, S4, S5, ST, eq_self, reduceIte, reduceCtorEq, Nat.reduceEqDiff, Nat.reduceAdd]
            refine brD.intro (fun e => ?_) (fun e => ?_) <;> simp (maxSteps := 1000000) (disch := omega) only [g0, g5, g6, g4, wrap64, S, S1, S2, S3, S4, S5, ST, eq_self, reduceIte, reduceCtorEq, Nat.reduceEqDiff, Nat.reduceAdd]
            · rw [if_pos e] at st
              refine ⟨m' - 1, by omega, j + 1, by omega, ?_⟩
              rw [st]
              (repeat' apply And.intro) <;> first | (simp only [Value.int.injEq, true_and]; omega) | omega | rfl | assumption | (simp; done) | (simp; omega)
            · rw [if_neg e] at st
              refine ⟨m' - 1, by omega, j + 1, by omega, ?_⟩
              rw [st]
              (repeat' apply And.intro) <;> first | (simp only [Value.int.injEq, true_and]; omega) | omega | rfl | assumption | (simp; done) | (simp; omega)
          · have e : (p.drop (a + 1)).take j = p.drop (a + 1) := List.take_of_length_le (by omega)
            rw [e] at g4
            simp (maxSteps := 1000000) (disch := omega) only [g0, g5, g6, g4, wrap64, S, S1, S2, S3, S4, S5, ST, eq_self, reduceIte, reduceCtorEq, Nat.reduceEqDiff, Nat.reduceAdd]
            refine ⟨m - 1, by omega, a + 1, by omega, ?_⟩
            rw [invs]
            (repeat' apply And.intro) <;> first | (simp only [Value.int.injEq, true_and]; omega) | omega | rfl | assumption | (simp; done) | (simp; omega)
      · simp (maxSteps := 1000000) (disch := omega) only [h0, h5, h4, S, S1, S2, S3, S4, S5, ST, eq_self, reduceIte, reduceCtorEq, Nat.reduceEqDiff, Nat.reduceAdd]
        refine hQ _ _ _ ?_
        simp (maxSteps := 1000000) (disch := omega) only [h4, S, S1, S2, S3, S4, S5, ST, eq_self, reduceIte, reduceCtorEq, Nat.reduceEqDiff, Nat.reduceAdd]
        have : a = p.length := by omega
        subst this
        simp [invR, hp, List.prefix_refl]
  · refine hQ _ _ _ ?_
    simp (maxSteps := 1000000) (disch := omega) only [S, S1, S2, S3, S4, S5, ST, eq_self, reduceIte, reduceCtorEq, Nat.reduceEqDiff, Nat.reduceAdd]
    simp [invR, hp, List.prefix_refl]
set_option maxHeartbeats 2000000 in
theorem InvI_c (v : Value) (p : List Int) (H : AH) (hr : Row 3 H v p) (hlen : p.length ≤ 1099511627776) (hxs : ∀ y ∈ p, I64 y) :
    ACalls Try.prog 47 [v] H fun r H' => r = .tuple (List.toArray [.int .i64 (invR p), .bool (decide (Prm p))]) ∧ H <+: H' := by
  refine in47 rfl ?_
  intro Q hQ
  simp (maxSteps := 1000000) (disch := omega) only [cd47, S, S1, S2, S3, S4, S5, ST, eq_self, reduceIte, reduceCtorEq, Nat.reduceEqDiff, Nat.reduceAdd]
  refine CallH.by (PermI_c v p H hr hlen hxs) ?_
  rintro _ H1 ⟨rfl, hpp⟩
  have hr1 := hr.pre hpp
  simp (maxSteps := 1000000) (disch := omega) only [S, S1, S2, S3, S4, S5, ST, eq_self, reduceIte, reduceCtorEq, Nat.reduceEqDiff, Nat.reduceAdd]
  refine brD.intro (fun hp => ?_) (fun hp => ?_) <;> simp (maxSteps := 1000000) (disch := omega) only [hp, hr1.len Try.underlying38, S, S1, S2, S3, S4, S5, ST, eq_self, reduceIte, reduceCtorEq, Nat.reduceEqDiff, Nat.reduceAdd]
  · have h8 := hp.1
    refine LoopH.by (fun m s H' => ∃ a, m + a = p.length ∧ s 0 = v ∧ s 12 = v ∧ s 13 = .int .i64 (p.length : Int) ∧ s 14 = .int .i64 ((a : Nat) : Int) ∧ s 4 = .int .i64 ((invs p a : Nat) : Int) ∧ H1 = H') p.length ?_ ?_
    · exact ⟨0, by simp, rfl, rfl, rfl, rfl, rfl, rfl⟩
    · rintro m s H' ⟨a, hm, h0, h12, h13, h14, h4, rfl⟩
      simp (maxSteps := 1000000) (disch := omega) only [h0, h12, h13, h14, h4, S, S1, S2, S3, S4, S5, ST, eq_self, reduceIte, reduceCtorEq, Nat.reduceEqDiff, Nat.reduceAdd]
      refine brD.intro (fun g => ?_) (fun g => ?_)
      · have ha : a < p.length := by omega
        have b0 := invs_bd hp a (by omega)
        have hs := hr1.slice Try.underlying38 cs3 (lo := some (.int .i64 ((a : Nat) : Int))) (hi := none) (bound_some (by omega) _) (hi_none _) (by simp; omega) (Nat.le_refl _)
        simp only [Int.toNat_natCast] at hs
        have ed : (p.drop a).take (p.length - a) = p.drop a := List.take_of_length_le (by simp)
        rw [ed] at hs
        have hdl : (p.drop a).length = p.length - a := by simp
        have hrs := hs.2.1
        have self := invRow_self p a ha
        simp (maxSteps := 1000000) (disch := omega) only [h0, h12, h13, h14, h4, hr1.ix Try.underlying38 cs3, hr1.cell, Int.toNat_natCast, hs.1, hrs.len Try.underlying38, S, S1, S2, S3, S4, S5, ST, eq_self, reduceIte, reduceCtorEq, Nat.reduceEqDiff, Nat.reduceAdd]
        refine LoopH.by (fun m' s' H'' => ∃ j, m' + j = p.length - a ∧ s' 0 = v ∧ s' 12 = v ∧ s' 13 = .int .i64 (p.length : Int) ∧ s' 14 = .int .i64 ((a : Nat) : Int) ∧ s' 6 = .int .i64 (p.getD a 0) ∧ s' 21 = subV v a p.length ∧ s' 22 = .int .i64 ((p.drop a).length : Int) ∧ s' 23 = .int .i64 ((j : Nat) : Int) ∧ s' 4 = .int .i64 (((invs p a + invRow (p.getD a 0) ((p.drop a).take j) : Nat)) : Int) ∧ H1 = H'') (p.length - a) ?_ ?_
        · refine ⟨0, by simp, ?_⟩
          simp only [S, S1, S2, S3, S4, S5, ST, eq_self, reduceIte, reduceCtorEq, Nat.reduceEqDiff, Nat.reduceAdd, h0, h12, h13, h14, h4]
          simp [invRow]
        · rintro m' s' H'' ⟨j, hm', g0, g12, g13, g14, g6, g21, g22, g23, g4, rfl⟩
          simp (maxSteps := 1000000) (disch := omega) only [g0, g12, g13, g14, g6, g21, g22, g23, g4, S, S1, S2, S3, S4, S5, ST, eq_self, reduceIte, reduceCtorEq, Nat.reduceEqDiff, Nat.reduceAdd]
          refine brD.intro (fun q => ?_) (fun q => ?_)
          · have hj : j < (p.drop a).length := by omega
            have st := invRow_step (p.getD a 0) (p.drop a) j hj
            have b1 := invRow_le (p.getD a 0) ((p.drop a).take j)
            have b2 : ((p.drop a).take j).length ≤ j := by simp; omega
            simp (maxSteps := 1000000) (disch := omega) only [g0, g12, g13, g14, g6, g21, g22, g23, g4, hrs.ix Try.underlying38 cs3, hrs.cell, Int.toNat_natCast, S, S1, S2, S3, S4, S5, ST, eq_self, reduceIte, reduceCtorEq, Nat.reduceEqDiff, Nat.reduceAdd]
            refine brD.intro (fun e => ?_) (fun e => ?_) <;> simp (maxSteps := 1000000) (disch := omega) only [g0, g12, g13, g14, g6, g21, g22, g23, g4, wrap64, S, S1, S2, S3, S4, S5, ST, eq_self, reduceIte, reduceCtorEq, Nat.reduceEqDiff, Nat.reduceAdd]
            · rw [if_pos e] at st
              refine ⟨m' - 1, by omega, j + 1, by omega, ?_⟩
              rw [st]
              (repeat' apply And.intro) <;> first | (simp only [Value.int.injEq, true_and]; omega) | omega | rfl | assumption | (simp; done) | (simp; omega)
            · rw [if_neg e] at st
              refine ⟨m' - 1, by omega, j + 1, by omega, ?_⟩
              rw [st]
              (repeat' apply And.intro) <;> first | (simp only [Value.int.injEq, true_and]; omega) | omega | rfl | assumption | (simp; done) | (simp; omega)
          · have e : (p.drop a).take j = p.drop a := List.take_of_length_le (by omega)
            rw [e, self] at g4
            simp (maxSteps := 1000000) (disch := omega) only [g0, g12, g13, g14, g6, g21, g22, g23, g4, wrap64, S, S1, S2, S3, S4, S5, ST, eq_self, reduceIte, reduceCtorEq, Nat.reduceEqDiff, Nat.reduceAdd]
            refine ⟨m - 1, by omega, a + 1, by omega, ?_⟩
            rw [invs]
            (repeat' apply And.intro) <;> first | (simp only [Value.int.injEq, true_and]; omega) | omega | rfl | assumption | (simp; done) | (simp; omega)
      · simp (maxSteps := 1000000) (disch := omega) only [h0, h12, h13, h14, h4, S, S1, S2, S3, S4, S5, ST, eq_self, reduceIte, reduceCtorEq, Nat.reduceEqDiff, Nat.reduceAdd]
        refine hQ _ _ _ ?_
        simp (maxSteps := 1000000) (disch := omega) only [h4, S, S1, S2, S3, S4, S5, ST, eq_self, reduceIte, reduceCtorEq, Nat.reduceEqDiff, Nat.reduceAdd]
        have : a = p.length := by omega
        subst this
        simp [invR, hp, hpp]
  · refine hQ _ _ _ ?_
    simp (maxSteps := 1000000) (disch := omega) only [S, S1, S2, S3, S4, S5, ST, eq_self, reduceIte, reduceCtorEq, Nat.reduceEqDiff, Nat.reduceAdd]
    simp [invR, hp, hpp]
end Go.Proofs.Ytlfongfhbkefmaa.Ai
namespace Go.Proofs.Ytlfongfhbkefmaa.Ai
open Go
set_option linter.unusedVariables false
theorem prm_nodup {p : List Int} (hp : Prm p) : p.Nodup := by
  rw [List.Nodup, List.pairwise_iff_getElem]
  intro i j hi hj hij e
  have := (prm_range hp).2 i j hi hj (by simp [hi, hj, e])
  omega
theorem cyN_id {q : List Int} (hq : Prm q) (h : ∀ y, y < q.length → q.getD y 0 = y) : cyN q = q.length := by
  rw [cyN_cls hq]
  have one : ∀ {u v : Nat}, Eqp q u v → u < q.length → u = v := by
    intro u v hu
    induction hu with
    | refl => intro _; rfl
    | edge u hu => intro _; rw [h u hu]; simp
    | symm h0 ih => intro hv; exact (ih ((eqp_in hq h0).2 hv)).symm
    | trans h1 h2 i1 i2 =>
      intro hu
      have e := i1 hu
      subst e
      exact i2 hu
  unfold cls
  have : ∀ l : List Nat, (∀ x ∈ l, x < q.length) → l.countP (fun x => @decide (Mn (Eqp q) x) (Classical.propDecidable _)) = l.length := by
    intro l hl
    rw [List.countP_eq_length]
    intro x hx
    simp only [decide_eq_true_eq]
    intro y hy
    exact Nat.le_of_eq (one hy (hl x hx))
  rw [this _ (fun x hx => List.mem_range.1 hx), List.length_range]
theorem invL_id : ∀ (q : List Int) (k : Nat), (∀ y, y < q.length → q.getD y 0 = ((k + y : Nat) : Int)) → invL q = 0
  | [], _, _ => rfl
  | x :: q, k, h => by
    have h0 := h 0 (by simp)
    have hx : x = k := by simpa using h0
    have hq : ∀ y, y < q.length → q.getD y 0 = ((k + 1 + y : Nat) : Int) := fun y hy => by
      have := h (y + 1) (by simpa using hy)
      rw [show k + (y + 1) = k + 1 + y by omega] at this
      simpa using this
    have ih := invL_id q (k + 1) hq
    have : ltC x q = 0 := by
      unfold ltC
      rw [List.countP_eq_zero]
      intro y hy
      obtain ⟨i, hi, rfl⟩ := List.mem_iff_getElem.1 hy
      have := hq i hi
      have e : q.getD i 0 = q[i] := by simp [hi]
      rw [e] at this
      simp only [decide_eq_true_eq]; omega
    simp only [invL, this, ih]
/-- sorting by swaps -/
theorem srt_all {p : List Int} (hp : Prm p) : ∀ x, x ≤ p.length → (srtSt p x).1.length + cyN p = cyN (srtSt p x).2 ∧ (invL (srtSt p x).2 + invL p + (srtSt p x).1.length) % 2 = 0 ∧ plcSt p (srtSt p x).1 = (srtSt p x).2 ∧ ∀ s ∈ (srtSt p x).1, swOk p.length s
  | 0, _ => ⟨by simp [srtSt], by simp [srtSt]; omega, rfl, by simp [srtSt]⟩
  | x + 1, hx => by
    obtain ⟨i1, i2, i3, i4⟩ := srt_all hp x (by omega)
    have ok := srt_ok hp x (by omega)
    obtain ⟨i, h1, h2, h3, h4, h5⟩ := ok.place (by omega)
    obtain ⟨j, _, _, j3, _, j5⟩ := srt_step hp (x := x) (by omega)
    have hij : i = j := by rw [h3] at j3; omega
    subst hij
    rw [j5]
    by_cases hc : i = x
    · rw [if_pos hc]; exact ⟨i1, i2, i3, i4⟩
    · rw [if_neg hc]
      have hl := ok.len
      have hh := cyN_home ok.prm (x := x) (i := i) (by omega) (by omega) (by omega) ok.fix h4
      have hv := invL_swp (prm_nodup ok.prm) (a := x) (b := i) (by omega) (by omega)
      refine ⟨?_, ?_, ?_, fun s hs => ?_⟩
      · show ((srtSt p x).1 ++ [((x : Int), (i : Int))]).length + cyN p = cyN (swp (srtSt p x).2 x i)
        rw [hh, List.length_append]; simp; omega
      · show (invL (swp (srtSt p x).2 x i) + invL p + ((srtSt p x).1 ++ [((x : Int), (i : Int))]).length) % 2 = 0
        rw [List.length_append]; simp; omega
      · show plcSt p ((srtSt p x).1 ++ [((x : Int), (i : Int))]) = swp (srtSt p x).2 x i
        rw [plcSt_snoc, i3]; simp
      · rcases List.mem_append.1 hs with q | q
        · exact i4 s q
        · rw [List.mem_singleton] at q
          subst q
          unfold swOk
          simp only; omega
theorem invs_invL (p : List Int) : invs p p.length = invL p := by
  have key : ∀ k, k ≤ p.length → invs p k + invL (p.drop k) = invL p := by
    intro k
    induction k with
    | zero => intro _; simp [invs]
    | succ k ih =>
      intro hk
      have := ih (by omega)
      rw [List.drop_eq_getElem_cons (by omega)] at this
      have e : p.getD k 0 = p[k] := by simp [show k < p.length by omega]
      simp only [invs, invL] at this ⊢
      have e2 : invRow (p.getD k 0) (p.drop (k + 1)) = ltC p[k] (p.drop (k + 1)) := by
        rw [e]; unfold invRow ltC; rw [List.countP_eq_length_filter]
      omega
  have := key p.length (Nat.le_refl _)
  rw [List.drop_length] at this
  simpa [invL] using this
theorem cyN_le {p : List Int} (hp : Prm p) : cyN p ≤ p.length := by
  rw [cyN_cls hp]
  unfold cls
  have := List.countP_le_length (p := fun x => @decide (Mn (Eqp p) x) (Classical.propDecidable _)) (l := List.range p.length)
  rwa [List.length_range] at this
/-- any swaps -/
theorem plc_all2 : ∀ (ss : List (Int × Int)) {q : List Int}, Prm q → (∀ s ∈ ss, swOk q.length s) → Prm (plcSt q ss) ∧ (plcSt q ss).length = q.length ∧ (invL (plcSt q ss) + invL q + ss.length) % 2 = 0 ∧ cyN q ≤ cyN (plcSt q ss) + ss.length
  | [], q, hq, _ => ⟨hq, rfl, by simp [plcSt]; omega, by simp [plcSt]⟩
  | s :: ss, q, hq, h => by
    obtain ⟨s1, s2, s3⟩ := h s (by simp)
    have ha : s.1.toNat < q.length := by omega
    have hb : s.2.toNat < q.length := by omega
    have hq' := swp_prm hq ha hb
    obtain ⟨i1, i2, i3, i4⟩ := plc_all2 ss hq' (fun t ht => by rw [swp_len]; exact h t (by simp [ht]))
    have hv := invL_swp (prm_nodup hq) (a := s.1.toNat) (b := s.2.toNat) (by omega) hb
    have hc := cyN_swp hq ha hb
    have e : plcSt q (s :: ss) = plcSt (swp q s.1.toNat s.2.toNat) ss := rfl
    rw [e]
    refine ⟨i1, by rw [i2, swp_len], ?_, ?_⟩
    · rw [List.length_cons]; omega
    · rw [List.length_cons]; omega
/-- the law, sorted -/
theorem prm_law {p : List Int} (hp : Prm p) : plcOk p (sortR p) ∧ (∀ y, y < p.length → (placeR p (sortR p)).getD y 0 = y) ∧ (placeR p (sortR p)).length = p.length ∧ ((sortR p).length : Int) = swapR p ∧ swapR p = (p.length : Int) - (cycR p).length ∧ (swapR p + invR p) % 2 = 0 ∧ 0 ≤ swapR p ∧ swapR p ≤ 8 ∧ 0 ≤ invR p ∧ invR p ≤ 64 := by
  obtain ⟨i1, i2, i3, i4⟩ := srt_all hp p.length (Nat.le_refl _)
  have ok := srt_ok hp p.length (Nat.le_refl _)
  have hs : sortR p = (srtSt p p.length).1 := by unfold sortR; rw [if_pos hp]
  have hok : plcOk p (sortR p) := ⟨hp, by rw [hs]; exact i4⟩
  have hpl : placeR p (sortR p) = (srtSt p p.length).2 := by unfold placeR; rw [if_pos hok, hs, i3]
  have hid : ∀ y, y < (srtSt p p.length).2.length → (srtSt p p.length).2.getD y 0 = y := fun y hy => ok.fix y (by rw [← ok.len]; exact hy)
  have hcy := cyN_id ok.prm hid
  have hin := invL_id (srtSt p p.length).2 0 (fun y hy => by rw [hid y hy]; simp)
  have hsw : swapR p = (p.length : Int) - (cyN p : Nat) := by unfold swapR cyN; rw [if_pos hp]
  have hiv : invR p = ((invL p : Nat) : Int) := by unfold invR; rw [if_pos hp, invs_invL]
  have hcr : cycR p = (cycSt p p.length).1 := by unfold cycR; rw [if_pos hp]
  have hbd := invs_bd hp p.length (Nat.le_refl _)
  rw [invs_invL] at hbd
  have hle := cyN_le hp
  have h8 := hp.1
  rw [hpl]
  rw [hcy, ok.len] at i1
  rw [hin] at i2
  refine ⟨hok, fun y hy => ok.fix y hy, ok.len, ?_, ?_, ?_, ?_, ?_, ?_, ?_⟩
  · rw [hs, hsw]; omega
  · rw [hsw, hcr]; rfl
  · rw [hsw, hiv]; omega
  · omega
  · omega
  · omega
  · omega
theorem prm_moved {q : List Int} {ss : List (Int × Int)} (h : plcOk q ss) : Prm (placeR q ss) ∧ (swapR q + swapR (placeR q ss) + (ss.length : Int)) % 2 = 0 ∧ swapR (placeR q ss) ≤ swapR q + (ss.length : Int) := by
  obtain ⟨i1, i2, i3, i4⟩ := plc_all2 ss h.1 h.2
  have hpl : placeR q ss = plcSt q ss := by unfold placeR; rw [if_pos h]
  rw [hpl]
  have hs1 : swapR q = (q.length : Int) - (cyN q : Nat) := by unfold swapR cyN; rw [if_pos h.1]
  have hs2 : swapR (plcSt q ss) = ((plcSt q ss).length : Int) - (cyN (plcSt q ss) : Nat) := by unfold swapR cyN; rw [if_pos i1]
  have l1 := (prm_law h.1).2.2.2.2.2.1
  have l2 := (prm_law i1).2.2.2.2.2.1
  have v1 : invR q = ((invL q : Nat) : Int) := by unfold invR; rw [if_pos h.1, invs_invL]
  have v2 : invR (plcSt q ss) = ((invL (plcSt q ss) : Nat) : Int) := by unfold invR; rw [if_pos i1, invs_invL]
  refine ⟨i1, ?_, ?_⟩
  · rw [v1] at l1
    rw [v2] at l2
    omega
  · rw [hs1, hs2, i2]; omega
end Go.Proofs.Ytlfongfhbkefmaa.Ai
namespace Go.Proofs.Ytlfongfhbkefmaa.Ai
open Go
def ords125 : List (Nat × List (Nat × Bool)) := []
def cd125 : Cd := (.seq (.reg [⟨⟨some 4, Op.assign (Operand.const (Value.int IntKind.i64 0)), none⟩, []⟩]) (.seq (.seq (.reg [⟨⟨some 6, Op.move (Operand.tmp 0), none⟩, []⟩,
  ⟨⟨some 7, Op.call { callee := (Callee.builtin Builtin.len), args := #[(Operand.tmp 6)], argTypes := #[38] }, none⟩, []⟩,
  ⟨⟨some 8, Op.move (Operand.const (Value.int IntKind.i64 0)), none⟩, []⟩]) (.block 0 (.loop (.seq (.reg [⟨⟨some 9, Op.binOp BinOp.lss 3 (Operand.tmp 8) (Operand.tmp 7) 3, none⟩, []⟩]) (.seq (.cond (Operand.tmp 9) .skip (.exit 0)) (.seq (.block 1 (.seq (.reg [⟨⟨some 10, Op.move (Operand.tmp 8), none⟩, []⟩,
  ⟨⟨some 5, Op.assign (Operand.tmp 10), none⟩, []⟩]) (.seq (.reg [⟨⟨some 11, Op.move (Operand.tmp 1), none⟩, []⟩,
  ⟨⟨some 12, Op.move (Operand.tmp 0), none⟩, []⟩,
  ⟨⟨some 13, Op.move (Operand.tmp 5), none⟩, []⟩,
  ⟨⟨some 14, Op.indexAddr 38 (Operand.tmp 12) (Operand.tmp 13), none⟩, []⟩,
  ⟨⟨some 15, Op.load 3 (Operand.tmp 14), none⟩, []⟩,
  ⟨⟨some 16, Op.binOp BinOp.eql 3 (Operand.tmp 11) (Operand.tmp 15) 3, none⟩, []⟩]) (.cond (Operand.tmp 16) (.seq (.reg [⟨⟨some 17, Op.move (Operand.tmp 5), none⟩, []⟩,
  ⟨⟨some 4, Op.assign (Operand.tmp 17), none⟩, []⟩]) .ret) .skip)))) (.reg [⟨⟨some 18, Op.binOp BinOp.add 3 (Operand.tmp 8) (Operand.const (Value.int IntKind.i64 1)) 3, none⟩, []⟩,
  ⟨⟨some 8, Op.move (Operand.tmp 18), none⟩, []⟩]))))))) (.seq (.reg [⟨⟨some 4, Op.assign (Operand.const (Value.int IntKind.i64 (-1))), none⟩, []⟩]) .ret)))
theorem sl125 : slim Try.f125.ntmps ords125 (Try.f125.body.getD .skip) = some cd125 := by kernel_rfl
theorem in125 {args : List Value} {H : AH} {R : Value → AH → Prop} (hl : args.length = 2) (h : ∀ (Q : Exit → Sl → AH → Prop), (∀ e s H, endA Try.prog [ResultVar.tmp 4] R e s H → Q e s H) → wpC Try.prog cd125 Q (enterA args) H) : ACalls Try.prog 125 args H R :=
  ACalls.intro (by kernel_rfl) Try.func125 rfl (by kernel_rfl) sl125 hl (of_decide_eq_true (by kernel_rfl)) (by kernel_rfl) h
end Go.Proofs.Ytlfongfhbkefmaa.Ai
namespace Go.Proofs.Ytlfongfhbkefmaa.Ai
open Go Go.RowKit
set_option linter.unusedVariables false
set_option linter.unusedSimpArgs false
/-- the place of a number, or -1 -/
theorem Index_c (v : Value) (xs : List Int) (x : Int) (H : AH) (hr : Row 3 H v xs) (hlen : xs.length ≤ 1099511627776) :
    ACalls Try.prog 125 [v, .int .i64 x] H fun r H' => r = .int .i64 (idxP (fun y => decide (x = y)) xs 0) ∧ H = H' := by
  refine in125 rfl ?_
  intro Q hQ
  simp (maxSteps := 1000000) (disch := omega) only [cd125, hr.len Try.underlying38, S, S1, S2, S3, S4, S5, ST, eq_self, reduceIte, reduceCtorEq, Nat.reduceEqDiff, Nat.reduceAdd]
  refine LoopH.by (fun m s H' => ∃ i, m + i = xs.length ∧ s 0 = v ∧ s 1 = .int .i64 x ∧ s 7 = .int .i64 (xs.length : Int) ∧ s 8 = .int .i64 ((i : Nat) : Int) ∧ H = H' ∧ idxP (fun y => decide (x = y)) xs 0 = idxP (fun y => decide (x = y)) (xs.drop i) i) xs.length ?_ ?_
  · exact ⟨0, by simp, rfl, rfl, rfl, rfl, rfl, by simp⟩
  · rintro m s H' ⟨i, hm, h0, h1, h7, h8, rfl, hn⟩
    simp (maxSteps := 1000000) (disch := omega) only [h0, h1, h7, h8, S, S1, S2, S3, S4, S5, ST, eq_self, reduceIte, reduceCtorEq, Nat.reduceEqDiff, Nat.reduceAdd]
    refine brD.intro (fun g => ?_) (fun g => ?_) <;> simp (maxSteps := 1000000) (disch := omega) only [h0, h1, h8, h7, hr.ix Try.underlying38 cs3, hr.cell, Int.toNat_natCast, S, S1, S2, S3, S4, S5, ST, eq_self, reduceIte, reduceCtorEq, Nat.reduceEqDiff, Nat.reduceAdd]
    · have hi : i < xs.length := by omega
      rw [idxP_step _ xs i hi] at hn
      refine brD.intro (fun e => ?_) (fun e => ?_) <;> simp (maxSteps := 1000000) (disch := omega) only [h0, h1, h7, h8, wrap64, S, S1, S2, S3, S4, S5, ST, eq_self, reduceIte, reduceCtorEq, Nat.reduceEqDiff, Nat.reduceAdd]
      · refine hQ _ _ _ ?_
        simp (maxSteps := 1000000) (disch := omega) only [S, S1, S2, S3, S4, S5, ST, eq_self, reduceIte, reduceCtorEq, Nat.reduceEqDiff, Nat.reduceAdd]
        rw [hn, if_pos (by simpa using e)]
      · rw [if_neg (by simpa using e)] at hn
        refine ⟨m - 1, by omega, i + 1, by omega, ?_⟩
        (repeat' apply And.intro) <;> first | exact hn | (simp only [Value.int.injEq, true_and]; omega) | omega | rfl | assumption | (simp; done) | (simp; omega)
    · refine hQ _ _ _ ?_
      simp (maxSteps := 1000000) (disch := omega) only [S, S1, S2, S3, S4, S5, ST, eq_self, reduceIte, reduceCtorEq, Nat.reduceEqDiff, Nat.reduceAdd]
      rw [hn, List.drop_of_length_le (by omega)]; rfl
end Go.Proofs.Ytlfongfhbkefmaa.Ai
namespace Go.Proofs.Ytlfongfhbkefmaa.Ai
open Go
def ords124 : List (Nat × List (Nat × Bool)) := []
def cd124 : Cd := (.seq (.reg [⟨⟨some 4, Op.alloc 81, none⟩, []⟩]) (.seq (.reg [⟨⟨some 5, Op.move (Operand.tmp 0), none⟩, []⟩,
  ⟨⟨some 6, Op.move (Operand.tmp 1), none⟩, []⟩,
  ⟨⟨some 7, Op.call { callee := (Callee.builtin Builtin.min), args := #[(Operand.tmp 5), (Operand.tmp 6)], argTypes := #[3, 3] }, none⟩, []⟩,
  ⟨⟨some 8, Op.move (Operand.tmp 0), none⟩, []⟩,
  ⟨⟨some 9, Op.move (Operand.tmp 1), none⟩, []⟩,
  ⟨⟨some 10, Op.call { callee := (Callee.builtin Builtin.max), args := #[(Operand.tmp 8), (Operand.tmp 9)], argTypes := #[3, 3] }, none⟩, []⟩,
  ⟨⟨some 11, Op.build 81 #[(0, (Operand.tmp 7)), (1, (Operand.tmp 10))], none⟩, []⟩,
  ⟨⟨none, Op.store 81 (Operand.tmp 4) (Operand.tmp 11), none⟩, []⟩]) .ret))
theorem sl124 : slim Try.f124.ntmps ords124 (Try.f124.body.getD .skip) = some cd124 := by kernel_rfl
set_option maxRecDepth 20000 in
theorem in124 {args : List Value} {H : AH} {R : Value → AH → Prop} (hl : args.length = 2) (h : ∀ (Q : Exit → Sl → AH → Prop), (∀ e s H, endA Try.prog [ResultVar.cell 4 81] R e s H → Q e s H) → wpC Try.prog cd124 Q (enterA args) H) : ACalls Try.prog 124 args H R :=
  ACalls.intro (by kernel_rfl) Try.func124 rfl (by kernel_rfl) sl124 hl (of_decide_eq_true (by kernel_rfl)) (by kernel_rfl) h
end Go.Proofs.Ytlfongfhbkefmaa.Ai
namespace Go.Proofs.Ytlfongfhbkefmaa.Ai
open Go Go.RowKit
set_option linter.unusedVariables false
set_option linter.unusedSimpArgs false
theorem pair_c (a b : Int) (H : AH) : ACalls Try.prog 124 [.int .i64 a, .int .i64 b] H fun r H' => r = .agg (List.toArray [.int .i64 (minI a b), .int .i64 (maxI a b)]) ∧ H <+: H' := by
  refine in124 rfl ?_
  intro Q hQ
  have st := store_a2 H [.int .i64 0, .int .i64 0] rfl
  simp (maxSteps := 1000000) (disch := omega) only [cd124, alloc_a2, build_a2, st, S, S1, S2, S3, S4, S5, ST, eq_self, reduceIte, reduceCtorEq, Nat.reduceEqDiff, Nat.reduceAdd]
  refine hQ _ _ _ (end_cell _ _ _ _ _ _ (.agg (List.toArray [.int .i64 (minI a b), .int .i64 (maxI a b)])) ?_ rfl ⟨rfl, List.prefix_append _ _⟩)
  simp only [S, S1, S2, S3, S4, S5, ST, eq_self, reduceIte, reduceCtorEq, Nat.reduceEqDiff, Nat.reduceAdd]
  exact load_a2 ..
end Go.Proofs.Ytlfongfhbkefmaa.Ai
namespace Go.Proofs.Ytlfongfhbkefmaa.Ai
open Go
def ords42 : List (Nat × List (Nat × Bool)) := []
def cd42 : Cd := (.seq (.reg [⟨⟨some 2, Op.assign (Operand.const (Value.slice none 0 0)), none⟩, []⟩,
  ⟨⟨some 3, Op.assign (Operand.const (Value.bool false)), none⟩, []⟩]) (.seq (.reg [⟨⟨some 7, Op.buildSlice 22 0 #[], none⟩, []⟩,
  ⟨⟨some 4, Op.assign (Operand.tmp 7), none⟩, []⟩]) (.seq (.seq (.reg [⟨⟨some 8, Op.move (Operand.tmp 0), none⟩, []⟩,
  ⟨⟨some 9, Op.call { callee := (Callee.value (Operand.func 127)), args := #[(Operand.tmp 8)], argTypes := #[38] }, none⟩, []⟩,
  ⟨⟨some 10, Op.unOp UnOp.not 4 (Operand.tmp 9), none⟩, []⟩]) (.cond (Operand.tmp 10) (.seq (.reg [⟨⟨some 11, Op.move (Operand.tmp 4), none⟩, []⟩,
  ⟨⟨some 2, Op.assign (Operand.tmp 11), none⟩, []⟩,
  ⟨⟨some 3, Op.assign (Operand.const (Value.bool false)), none⟩, []⟩]) .ret) .skip)) (.seq (.seq (.reg [⟨⟨some 5, Op.assign (Operand.const (Value.int IntKind.i64 0)), none⟩, []⟩]) (.block 0 (.loop (.seq (.seq (.reg [⟨⟨some 12, Op.move (Operand.tmp 5), none⟩, []⟩,
  ⟨⟨some 13, Op.move (Operand.tmp 0), none⟩, []⟩,
  ⟨⟨some 14, Op.call { callee := (Callee.builtin Builtin.len), args := #[(Operand.tmp 13)], argTypes := #[38] }, none⟩, []⟩,
  ⟨⟨some 15, Op.binOp BinOp.lss 3 (Operand.tmp 12) (Operand.tmp 14) 3, none⟩, []⟩]) (.cond (Operand.tmp 15) .skip (.exit 0))) (.seq (.block 1 (.seq (.reg [⟨⟨some 18, Op.move (Operand.tmp 0), none⟩, []⟩,
  ⟨⟨some 19, Op.move (Operand.tmp 5), none⟩, []⟩,
  ⟨⟨some 20, Op.call { callee := (Callee.value (Operand.func 128)), args := #[(Operand.tmp 18), (Operand.tmp 19)], argTypes := #[38, 3] }, none⟩, []⟩,
  ⟨⟨some 6, Op.assign (Operand.tmp 20), none⟩, []⟩]) (.seq (.reg [⟨⟨some 21, Op.move (Operand.tmp 6), none⟩, []⟩,
  ⟨⟨some 22, Op.move (Operand.tmp 5), none⟩, []⟩,
  ⟨⟨some 23, Op.binOp BinOp.neq 3 (Operand.tmp 21) (Operand.tmp 22) 3, none⟩, []⟩]) (.cond (Operand.tmp 23) (.seq (.reg [⟨⟨some 24, Op.move (Operand.tmp 4), none⟩, []⟩,
  ⟨⟨some 25, Op.move (Operand.tmp 5), none⟩, []⟩,
  ⟨⟨some 26, Op.move (Operand.tmp 6), none⟩, []⟩,
  ⟨⟨some 27, Op.build 81 #[(0, (Operand.tmp 25)), (1, (Operand.tmp 26))], none⟩, []⟩,
  ⟨⟨some 28, Op.buildSlice 22 1 #[(0, (Operand.tmp 27))], none⟩, []⟩,
  ⟨⟨some 29, Op.call { callee := (Callee.builtin Builtin.append), args := #[(Operand.tmp 24), (Operand.tmp 28)], argTypes := #[22, 22] }, none⟩, []⟩,
  ⟨⟨some 4, Op.assign (Operand.tmp 29), none⟩, []⟩]) (.reg [⟨⟨some 30, Op.move (Operand.tmp 0), none⟩, []⟩,
  ⟨⟨some 31, Op.move (Operand.tmp 5), none⟩, []⟩,
  ⟨⟨some 32, Op.move (Operand.tmp 6), none⟩, []⟩,
  ⟨⟨some 33, Op.call { callee := (Callee.value (Operand.func 129)), args := #[(Operand.tmp 30), (Operand.tmp 31), (Operand.tmp 32)], argTypes := #[38, 3, 3] }, none⟩, []⟩,
  ⟨⟨some 0, Op.assign (Operand.tmp 33), none⟩, []⟩])) .skip)))) (.reg [⟨⟨some 16, Op.move (Operand.tmp 5), none⟩, []⟩,
  ⟨⟨some 17, Op.binOp BinOp.add 3 (Operand.tmp 16) (Operand.const (Value.int IntKind.i64 1)) 3, none⟩, []⟩,
  ⟨⟨some 5, Op.assign (Operand.tmp 17), none⟩, []⟩])))))) (.seq (.reg [⟨⟨some 34, Op.move (Operand.tmp 4), none⟩, []⟩,
  ⟨⟨some 2, Op.assign (Operand.tmp 34), none⟩, []⟩,
  ⟨⟨some 3, Op.assign (Operand.const (Value.bool true)), none⟩, []⟩]) .ret)))))
theorem sl42 : slim Try.f42.ntmps ords42 (Try.f42.body.getD .skip) = some cd42 := by kernel_rfl
theorem in42 {args : List Value} {H : AH} {R : Value → AH → Prop} (hl : args.length = 1) (h : ∀ (Q : Exit → Sl → AH → Prop), (∀ e s H, endA Try.prog [ResultVar.tmp 2, ResultVar.tmp 3] R e s H → Q e s H) → wpC Try.prog cd42 Q (enterA args) H) : ACalls Try.prog 42 args H R :=
  ACalls.intro (by kernel_rfl) Try.func42 rfl (by kernel_rfl) sl42 hl (of_decide_eq_true (by kernel_rfl)) (by kernel_rfl) h
def ords41 : List (Nat × List (Nat × Bool)) := [(9, [(0, false), (1, false), (2, false), (4, false), (5, false), (3, true), (6, true), (7, true), (8, true)])]
def cd41 : Cd := (.seq (.reg [⟨⟨some 2, Op.assign (Operand.const (Value.slice none 0 0)), none⟩, []⟩,
  ⟨⟨some 3, Op.assign (Operand.const (Value.bool false)), none⟩, []⟩]) (.seq (.seq (.reg [⟨⟨some 8, Op.move (Operand.tmp 0), none⟩, []⟩,
  ⟨⟨some 9, Op.call { callee := (Callee.value (Operand.func 56)), args := #[(Operand.tmp 8)], argTypes := #[38] }, none⟩, []⟩,
  ⟨⟨some 10, Op.unOp UnOp.not 4 (Operand.tmp 9), none⟩, []⟩]) (.cond (Operand.tmp 10) (.seq (.reg [⟨⟨some 2, Op.assign (Operand.const (Value.slice none 0 0)), none⟩, []⟩,
  ⟨⟨some 3, Op.assign (Operand.const (Value.bool false)), none⟩, []⟩]) .ret) .skip)) (.seq (.reg [⟨⟨some 11, Op.buildSlice 22 0 #[], none⟩, []⟩,
  ⟨⟨some 12, Op.move (Operand.tmp 0), none⟩, []⟩,
  ⟨⟨some 4, Op.assign (Operand.tmp 11), none⟩, []⟩,
  ⟨⟨some 5, Op.assign (Operand.tmp 12), none⟩, []⟩]) (.seq (.seq (.reg [⟨⟨some 13, Op.move (Operand.tmp 0), none⟩, []⟩,
  ⟨⟨some 14, Op.call { callee := (Callee.builtin Builtin.len), args := #[(Operand.tmp 13)], argTypes := #[38] }, none⟩, []⟩,
  ⟨⟨some 15, Op.move (Operand.const (Value.int IntKind.i64 0)), none⟩, []⟩]) (.block 0 (.loop (.seq (.reg [⟨⟨some 16, Op.binOp BinOp.lss 3 (Operand.tmp 15) (Operand.tmp 14) 3, none⟩, []⟩]) (.seq (.cond (Operand.tmp 16) .skip (.exit 0)) (.seq (.block 1 (.seq (.reg [⟨⟨some 17, Op.move (Operand.tmp 15), none⟩, []⟩,
  ⟨⟨some 6, Op.assign (Operand.tmp 17), none⟩, []⟩]) (.seq (.reg [⟨⟨some 18, Op.move (Operand.tmp 5), none⟩, []⟩,
  ⟨⟨some 19, Op.move (Operand.tmp 6), none⟩, []⟩,
  ⟨⟨some 20, Op.indexAddr 38 (Operand.tmp 18) (Operand.tmp 19), none⟩, []⟩,
  ⟨⟨some 21, Op.load 3 (Operand.tmp 20), none⟩, []⟩,
  ⟨⟨some 22, Op.move (Operand.tmp 6), none⟩, []⟩,
  ⟨⟨some 23, Op.binOp BinOp.neq 3 (Operand.tmp 21) (Operand.tmp 22) 3, none⟩, []⟩]) (.cond (Operand.tmp 23) (.seq (.reg [⟨⟨some 24, Op.move (Operand.tmp 6), none⟩, []⟩,
  ⟨⟨some 25, Op.move (Operand.tmp 5), none⟩, []⟩,
  ⟨⟨some 26, Op.move (Operand.tmp 6), none⟩, []⟩,
  ⟨⟨some 27, Op.call { callee := (Callee.value (Operand.func 125)), args := #[(Operand.tmp 25), (Operand.tmp 26)], argTypes := #[38, 3] }, none⟩, []⟩,
  ⟨⟨some 28, Op.call { callee := (Callee.value (Operand.func 124)), args := #[(Operand.tmp 24), (Operand.tmp 27)], argTypes := #[3, 3] }, none⟩, []⟩,
  ⟨⟨some 7, Op.alloc 81, none⟩, []⟩,
  ⟨⟨none, Op.store 81 (Operand.tmp 7) (Operand.tmp 28), none⟩, []⟩]) (.reg [⟨⟨some 29, Op.move (Operand.tmp 4), none⟩, []⟩,
  ⟨⟨some 30, Op.load 81 (Operand.tmp 7), none⟩, []⟩,
  ⟨⟨some 31, Op.buildSlice 22 1 #[(0, (Operand.tmp 30))], none⟩, []⟩,
  ⟨⟨some 33, Op.move (Operand.tmp 5), none⟩, []⟩,
  ⟨⟨some 34, Op.load 81 (Operand.tmp 7), none⟩, []⟩,
  ⟨⟨some 32, Op.call { callee := (Callee.builtin Builtin.append), args := #[(Operand.tmp 29), (Operand.tmp 31)], argTypes := #[22, 22] }, none⟩, [⟨some 34, Op.load 81 (Operand.tmp 7), none⟩]⟩,
  ⟨⟨some 35, Op.call { callee := (Callee.value (Operand.func 126)), args := #[(Operand.tmp 33), (Operand.tmp 34)], argTypes := #[38, 81] }, none⟩, []⟩,
  ⟨⟨some 4, Op.assign (Operand.tmp 32), none⟩, []⟩,
  ⟨⟨some 5, Op.assign (Operand.tmp 35), none⟩, []⟩])) .skip)))) (.reg [⟨⟨some 36, Op.binOp BinOp.add 3 (Operand.tmp 15) (Operand.const (Value.int IntKind.i64 1)) 3, none⟩, []⟩,
  ⟨⟨some 15, Op.move (Operand.tmp 36), none⟩, []⟩]))))))) (.seq (.reg [⟨⟨some 37, Op.move (Operand.tmp 4), none⟩, []⟩,
  ⟨⟨some 2, Op.assign (Operand.tmp 37), none⟩, []⟩,
  ⟨⟨some 3, Op.assign (Operand.const (Value.bool true)), none⟩, []⟩]) .ret)))))
theorem sl41 : slim Try.f41.ntmps ords41 (Try.f41.body.getD .skip) = some cd41 := by kernel_rfl
theorem in41 {args : List Value} {H : AH} {R : Value → AH → Prop} (hl : args.length = 1) (h : ∀ (Q : Exit → Sl → AH → Prop), (∀ e s H, endA Try.prog [ResultVar.tmp 2, ResultVar.tmp 3] R e s H → Q e s H) → wpC Try.prog cd41 Q (enterA args) H) : ACalls Try.prog 41 args H R :=
  ACalls.intro (by kernel_rfl) Try.func41 rfl (by kernel_rfl) sl41 hl (of_decide_eq_true (by kernel_rfl)) (by kernel_rfl) h
end Go.Proofs.Ytlfongfhbkefmaa.Ai
namespace Go.Proofs.Ytlfongfhbkefmaa.Ai
open Go Go.RowKit
set_option linter.unusedVariables false
set_option linter.unusedSimpArgs false
theorem Own.new_apart {e e' : TypeId} {H0 H H' : AH} {r v : Value} {xs : List Int} {ps : List (Int × Int)} (ho : Own e H H' r xs) (hm : MineP e' H0 H v ps) : Apart r v := by
  rcases hm.row.nil with g | g
  · exact .inl g.1
  · rcases ho with h | ⟨o, h1, h2, h3⟩
    · exact .inr (.inl h.1)
    · subst h1
      refine .inr (.inr ?_)
      show o ≠ rowO v
      omega
set_option maxRecDepth 20000 in
set_option maxHeartbeats 2000000 in
theorem SortS_c (v : Value) (p : List Int) (H : AH) (hr : Row 3 H v p) (hlen : p.length ≤ 1099511627776) (hxs : ∀ y ∈ p, I64 y) :
    ACalls Try.prog 42 [v] H fun r H' => ∃ g, r = .tuple (List.toArray [g, .bool (decide (Prm p))]) ∧ MineP 81 H H' g (sortR p) ∧ H <+: H' := by
  refine in42 rfl ?_
  intro Q hQ
  have hp0 := List.prefix_append H [AObj.cells [] 81 false]
  have hm0 : MineP 81 H (H ++ [AObj.cells [] 81 false]) (.slice (some ⟨H.length, 0, none⟩) 0 0) [] := MineP.new _ H H [] (Nat.le_refl _)
  simp (maxSteps := 1000000) (disch := omega) only [cd42, S, S1, S2, S3, S4, S5, ST, eq_self, reduceIte, reduceCtorEq, Nat.reduceEqDiff, Nat.reduceAdd]
  refine CallH.by (l9Perm_c v p _ (hr.pre hp0) hlen) ?_
  rintro _ _ ⟨rfl, rfl⟩
  simp (maxSteps := 1000000) (disch := omega) only [S, S1, S2, S3, S4, S5, ST, eq_self, reduceIte, reduceCtorEq, Nat.reduceEqDiff, Nat.reduceAdd]
  refine brD.intro (fun hp => ?_) (fun hp => ?_) <;> simp (maxSteps := 1000000) (disch := omega) only [hp, S, S1, S2, S3, S4, S5, ST, eq_self, reduceIte, reduceCtorEq, Nat.reduceEqDiff, Nat.reduceAdd]
  · have h8 := hp.1
    refine LoopH.by (fun m s H' => ∃ x, m + x = p.length ∧ s 5 = .int .i64 ((x : Nat) : Int) ∧ MineP 81 H H' (s 4) (srtSt p x).1 ∧ H <+: H' ∧ Row 3 H' (s 0) (srtSt p x).2 ∧ Apart (s 0) (s 4)) p.length ?_ ?_
    · refine ⟨0, by simp, rfl, ?_, hp0, ?_, ?_⟩
      · simp (maxSteps := 1000000) (disch := omega) only [S, S1, S2, S3, S4, S5, ST, eq_self, reduceIte, reduceCtorEq, Nat.reduceEqDiff, Nat.reduceAdd]; exact hm0
      · exact hr.pre hp0
      · exact hr.apartP hm0
    · rintro m s H' ⟨x, hm, h5, hmi, hpp, hrow, hap⟩
      have ok := srt_ok hp x (by omega)
      have hfew := ok.few
      have hql := ok.len
      have hqp := ok.prm
      generalize hw : s 4 = w at *
      generalize hu : s 0 = u at *
      simp (maxSteps := 1000000) (disch := omega) only [h5, hw, hu, hrow.len Try.underlying38, S, S1, S2, S3, S4, S5, ST, eq_self, reduceIte, reduceCtorEq, Nat.reduceEqDiff, Nat.reduceAdd]
      refine brD.intro (fun g => ?_) (fun g => ?_)
      · have hx : x < p.length := by omega
        obtain ⟨i, i1, i2, i3, i4, i5⟩ := srt_step hp hx
        simp (maxSteps := 1000000) (disch := omega) only [h5, hw, hu, S, S1, S2, S3, S4, S5, ST, eq_self, reduceIte, reduceCtorEq, Nat.reduceEqDiff, Nat.reduceAdd]
        refine CallH.by (l9At_c u _ (x : Nat) H' hrow (by omega) (hqp.2 x (by omega))) ?_
        rintro _ _ ⟨rfl, rfl⟩
        simp (maxSteps := 1000000) (disch := omega) only [h5, hw, hu, i3, S, S1, S2, S3, S4, S5, ST, eq_self, reduceIte, reduceCtorEq, Nat.reduceEqDiff, Nat.reduceAdd]
        refine brD.intro (fun hc => ?_) (fun hc => ?_)
        · have hne : i ≠ x := by omega
          rw [if_neg hne] at i5
          obtain ⟨v', H2, k1, k2, k3, k4, k5, k6⟩ := own1_22 hmi hpp (by omega) ((x : Nat) : Int) ((i : Nat) : Int)
          have hrow2 := hrow.kept hap k4
          simp (maxSteps := 1000000) (disch := omega) only [h5, hw, hu, build_a2, k1, S, S1, S2, S3, S4, S5, ST, eq_self, reduceIte, reduceCtorEq, Nat.reduceEqDiff, Nat.reduceAdd]
          refine CallH.by (l9Swap_c u _ x i H2 hrow2 (by omega) (by omega) (by omega)) ?_
          rintro r H3 ⟨ho3, hp3⟩
          have kap := ho3.new_apart k2
          have kmi := k2.pre hp3
          have kpp := k3.trans hp3
          have krow := ho3.row
          simp (maxSteps := 1000000) (disch := omega) only [h5, hw, hu, wrap64, S, S1, S2, S3, S4, S5, ST, eq_self, reduceIte, reduceCtorEq, Nat.reduceEqDiff, Nat.reduceAdd]
          refine ⟨m - 1, by omega, x + 1, ?_⟩
          rw [i5]
          (repeat' first | exact kap | exact kmi | exact kpp | exact krow | apply And.intro) <;> first | (simp only [Value.int.injEq, true_and]; omega) | omega | rfl | assumption | (simp; done) | (simp; omega)
        · have hne : i = x := by omega
          rw [if_pos hne] at i5
          simp (maxSteps := 1000000) (disch := omega) only [h5, hw, hu, wrap64, S, S1, S2, S3, S4, S5, ST, eq_self, reduceIte, reduceCtorEq, Nat.reduceEqDiff, Nat.reduceAdd]
          refine ⟨m - 1, by omega, x + 1, ?_⟩
          rw [i5]
          (repeat' first | exact hmi | exact hpp | exact hrow | exact hap | apply And.intro) <;> first | (simp only [Value.int.injEq, true_and]; omega) | omega | rfl | assumption | (simp; done) | (simp; omega)
      · simp (maxSteps := 1000000) (disch := omega) only [hw, S, S1, S2, S3, S4, S5, ST, eq_self, reduceIte, reduceCtorEq, Nat.reduceEqDiff, Nat.reduceAdd]
        refine hQ _ _ _ ?_
        simp (maxSteps := 1000000) (disch := omega) only [hw, hmi.row.tup, S, S1, S2, S3, S4, S5, ST, eq_self, reduceIte, reduceCtorEq, Nat.reduceEqDiff, Nat.reduceAdd]
        have hx : x = p.length := by omega
        subst hx
        exact ⟨w, by simp [hp], by simpa [sortR, hp] using hmi, hpp⟩
  · refine hQ _ _ _ ?_
    simp (maxSteps := 1000000) (disch := omega) only [S, S1, S2, S3, S4, S5, ST, eq_self, reduceIte, reduceCtorEq, Nat.reduceEqDiff, Nat.reduceAdd]
    exact ⟨.slice (some ⟨H.length, 0, none⟩) 0 0, by simp [hp], by simpa [sortR, hp] using hm0, hp0⟩
set_option maxRecDepth 20000 in
set_option maxHeartbeats 2000000 in
theorem SortI_c (v : Value) (p : List Int) (H : AH) (hr : Row 3 H v p) (hlen : p.length ≤ 1099511627776) (hxs : ∀ y ∈ p, I64 y) :
    ACalls Try.prog 41 [v] H fun r H' => ∃ g, r = .tuple (List.toArray [g, .bool (decide (Prm p))]) ∧ MineP 81 H H' g (sortR p) ∧ H <+: H' := by
  refine in41 rfl ?_
  intro Q hQ
  simp (maxSteps := 1000000) (disch := omega) only [cd41, S, S1, S2, S3, S4, S5, ST, eq_self, reduceIte, reduceCtorEq, Nat.reduceEqDiff, Nat.reduceAdd]
  refine CallH.by (PermI_c v p H hr hlen hxs) ?_
  rintro _ H0 ⟨rfl, hq0⟩
  have hr0 := hr.pre hq0
  simp (maxSteps := 1000000) (disch := omega) only [S, S1, S2, S3, S4, S5, ST, eq_self, reduceIte, reduceCtorEq, Nat.reduceEqDiff, Nat.reduceAdd]
  refine brD.intro (fun hp => ?_) (fun hp => ?_) <;> simp (maxSteps := 1000000) (disch := omega) only [hp, hr0.len Try.underlying38, S, S1, S2, S3, S4, S5, ST, eq_self, reduceIte, reduceCtorEq, Nat.reduceEqDiff, Nat.reduceAdd]
  · have h8 := hp.1
    have hp0 := pre_app hq0 [AObj.cells [] 81 false]
    have hm0 : MineP 81 H (H0 ++ [AObj.cells [] 81 false]) (.slice (some ⟨H0.length, 0, none⟩) 0 0) [] := MineP.new _ H H0 [] hq0.length_le
    refine LoopH.by (fun m s H' => ∃ x, m + x = p.length ∧ s 14 = .int .i64 (p.length : Int) ∧ s 15 = .int .i64 ((x : Nat) : Int) ∧ MineP 81 H H' (s 4) (srtSt p x).1 ∧ H <+: H' ∧ Row 3 H' (s 5) (srtSt p x).2 ∧ Apart (s 5) (s 4)) p.length ?_ ?_
    · refine ⟨0, by simp, rfl, rfl, ?_, hp0, ?_, ?_⟩
      · simp (maxSteps := 1000000) (disch := omega) only [S, S1, S2, S3, S4, S5, ST, eq_self, reduceIte, reduceCtorEq, Nat.reduceEqDiff, Nat.reduceAdd]; exact hm0
      · simp (maxSteps := 1000000) (disch := omega) only [S, S1, S2, S3, S4, S5, ST, eq_self, reduceIte, reduceCtorEq, Nat.reduceEqDiff, Nat.reduceAdd]; exact hr.pre hp0
      · simp (maxSteps := 1000000) (disch := omega) only [S, S1, S2, S3, S4, S5, ST, eq_self, reduceIte, reduceCtorEq, Nat.reduceEqDiff, Nat.reduceAdd]; exact hr.apartP hm0
    · rintro m s H' ⟨x, hm, h14, h15, hmi, hpp, hrow, hap⟩
      have ok := srt_ok hp x (by omega)
      have hfew := ok.few
      have hql := ok.len
      have hqp := ok.prm
      generalize hw : s 4 = w at *
      generalize hu : s 5 = u at *
      simp (maxSteps := 1000000) (disch := omega) only [h14, h15, hw, hu, S, S1, S2, S3, S4, S5, ST, eq_self, reduceIte, reduceCtorEq, Nat.reduceEqDiff, Nat.reduceAdd]
      refine brD.intro (fun g => ?_) (fun g => ?_)
      · have hx : x < p.length := by omega
        obtain ⟨i, i1, i2, i3, i4, i5⟩ := srt_step hp hx
        simp (maxSteps := 1000000) (disch := omega) only [h14, h15, hw, hu, hrow.ix Try.underlying38 cs3, hrow.cell, Int.toNat_natCast, S, S1, S2, S3, S4, S5, ST, eq_self, reduceIte, reduceCtorEq, Nat.reduceEqDiff, Nat.reduceAdd]
        refine brD.intro (fun hc => ?_) (fun hc => ?_)
        · have hne : i ≠ x := fun e => hc (i4.2 e)
          rw [if_neg hne] at i5
          simp (maxSteps := 1000000) (disch := omega) only [h14, h15, hw, hu, S, S1, S2, S3, S4, S5, ST, eq_self, reduceIte, reduceCtorEq, Nat.reduceEqDiff, Nat.reduceAdd]
          refine CallH.by (Index_c u _ (x : Nat) H' hrow (by omega)) ?_
          rintro _ _ ⟨rfl, rfl⟩
          have i3' : idxP (fun y => decide (((x : Nat) : Int) = y)) (srtSt p x).2 0 = (i : Int) := i3
          simp (maxSteps := 1000000) (disch := omega) only [h14, h15, hw, hu, i3', S, S1, S2, S3, S4, S5, ST, eq_self, reduceIte, reduceCtorEq, Nat.reduceEqDiff, Nat.reduceAdd]
          refine CallH.by (pair_c ((x : Nat) : Int) ((i : Nat) : Int) H') ?_
          rintro _ H1 ⟨rfl, hp1⟩
          have mn : minI ((x : Nat) : Int) ((i : Nat) : Int) = ((x : Nat) : Int) := by unfold minI; split <;> omega
          have mx : maxI ((x : Nat) : Int) ((i : Nat) : Int) = ((i : Nat) : Int) := by unfold maxI; split <;> omega
          rw [mn, mx]
          have st := store_a2 H1 [.int .i64 0, .int .i64 0] rfl (.int .i64 ((x : Nat) : Int)) (.int .i64 ((i : Nat) : Int))
          have ld := load_a2 H1 (.int .i64 ((x : Nat) : Int)) (.int .i64 ((i : Nat) : Int))
          have pA := hp1.trans (List.prefix_append H1 [AObj.cells [.int .i64 ((x : Nat) : Int), .int .i64 ((i : Nat) : Int)] 81 false])
          have aA := at_new H1 (AObj.cells [.int .i64 ((x : Nat) : Int), .int .i64 ((i : Nat) : Int)] 81 false)
          have hl1 := hp1.length_le
          simp (maxSteps := 1000000) (disch := omega) only [h14, h15, hw, hu, alloc_a2, st, ld, S, S1, S2, S3, S4, S5, ST, eq_self, reduceIte, reduceCtorEq, Nat.reduceEqDiff, Nat.reduceAdd]
          generalize H1 ++ [AObj.cells [.int .i64 ((x : Nat) : Int), .int .i64 ((i : Nat) : Int)] 81 false] = A at *
          have hmA := hmi.pre pA
          have hrA := hrow.pre pA
          obtain ⟨v', H2, k1, k2, k3, k4, k5, k6⟩ := own1_22 hmA (hpp.trans pA) (by omega) ((x : Nat) : Int) ((i : Nat) : Int)
          have hrow2 := hrA.kept hap k4
          have a2 : H2[H1.length]? = some (AObj.cells [.int .i64 ((x : Nat) : Int), .int .i64 ((i : Nat) : Int)] 81 false) := by
            refine k4 _ _ ?_ aA
            rcases hmi.row.nil with q | q
            · exact .inl q.1
            · exact .inr (by omega)
          have ld2 := ld_a2 a2
          have ld1 := ld_a2 (at_app aA [AObj.cells [.int .i64 ((x : Nat) : Int), .int .i64 ((i : Nat) : Int)] 81 false])
          simp (maxSteps := 1000000) (disch := omega) only [h14, h15, hw, hu, k1, ld1, ld2, S, S1, S2, S3, S4, S5, ST, eq_self, reduceIte, reduceCtorEq, Nat.reduceEqDiff, Nat.reduceAdd]
          refine CallH.by (swapped_c u _ x i H2 hrow2 (by omega) (by omega) (by omega)) ?_
          rintro r H3 ⟨ho3, hp3⟩
          have kap := ho3.new_apart k2
          have kmi := k2.pre hp3
          have kpp := k3.trans hp3
          have krow := ho3.row
          simp (maxSteps := 1000000) (disch := omega) only [h14, h15, hw, hu, wrap64, S, S1, S2, S3, S4, S5, ST, eq_self, reduceIte, reduceCtorEq, Nat.reduceEqDiff, Nat.reduceAdd]
          refine ⟨m - 1, by omega, x + 1, ?_⟩
          rw [i5]
          (repeat' first | exact kap | exact kmi | exact kpp | exact krow | apply And.intro) <;> first | (simp only [Value.int.injEq, true_and]; omega) | omega | rfl | assumption | (simp; done) | (simp; omega)
        · have hne : i = x := i4.1 (Decidable.not_not.1 hc)
          rw [if_pos hne] at i5
          simp (maxSteps := 1000000) (disch := omega) only [h14, h15, hw, hu, wrap64, S, S1, S2, S3, S4, S5, ST, eq_self, reduceIte, reduceCtorEq, Nat.reduceEqDiff, Nat.reduceAdd]
          refine ⟨m - 1, by omega, x + 1, ?_⟩
          rw [i5]
          (repeat' first | exact hmi | exact hpp | exact hrow | exact hap | apply And.intro) <;> first | (simp only [Value.int.injEq, true_and]; omega) | omega | rfl | assumption | (simp; done) | (simp; omega)
      · simp (maxSteps := 1000000) (disch := omega) only [hw, S, S1, S2, S3, S4, S5, ST, eq_self, reduceIte, reduceCtorEq, Nat.reduceEqDiff, Nat.reduceAdd]
        refine hQ _ _ _ ?_
        simp (maxSteps := 1000000) (disch := omega) only [hw, hmi.row.tup, S, S1, S2, S3, S4, S5, ST, eq_self, reduceIte, reduceCtorEq, Nat.reduceEqDiff, Nat.reduceAdd]
        have hx : x = p.length := by omega
        subst hx
        exact ⟨w, by simp [hp], by simpa [sortR, hp] using hmi, hpp⟩
  · refine hQ _ _ _ ?_
    simp (maxSteps := 1000000) (disch := omega) only [S, S1, S2, S3, S4, S5, ST, eq_self, reduceIte, reduceCtorEq, Nat.reduceEqDiff, Nat.reduceAdd]
    exact ⟨.slice none 0 0, by simp [hp], .inl ⟨rfl, by simp [sortR, hp]⟩, hq0⟩
end Go.Proofs.Ytlfongfhbkefmaa.Ai
namespace Go.Proofs.Ytlfongfhbkefmaa.Ai
open Go
def ords52 : List (Nat × List (Nat × Bool)) := [(7, [(0, false), (1, false), (2, false), (3, false), (4, false), (5, false), (6, false), (7, false), (8, false), (9, false), (10, false), (11, false)])]
def cd52 : Cd := (.seq (.reg [⟨⟨some 4, Op.assign (Operand.const (Value.slice none 0 0)), none⟩, []⟩,
  ⟨⟨some 5, Op.assign (Operand.const (Value.bool false)), none⟩, []⟩]) (.seq (.seq (.reg [⟨⟨some 10, Op.move (Operand.tmp 0), none⟩, []⟩,
  ⟨⟨some 11, Op.call { callee := (Callee.value (Operand.func 127)), args := #[(Operand.tmp 10)], argTypes := #[38] }, none⟩, []⟩,
  ⟨⟨some 12, Op.unOp UnOp.not 4 (Operand.tmp 11), none⟩, []⟩]) (.cond (Operand.tmp 12) (.seq (.reg [⟨⟨some 13, Op.buildSlice 38 0 #[], none⟩, []⟩,
  ⟨⟨some 4, Op.assign (Operand.tmp 13), none⟩, []⟩,
  ⟨⟨some 5, Op.assign (Operand.const (Value.bool false)), none⟩, []⟩]) .ret) .skip)) (.seq (.reg [⟨⟨some 14, Op.move (Operand.tmp 0), none⟩, []⟩,
  ⟨⟨some 15, Op.call { callee := (Callee.value (Operand.func 82)), args := #[(Operand.tmp 14)], argTypes := #[38] }, none⟩, []⟩,
  ⟨⟨some 6, Op.assign (Operand.tmp 15), none⟩, []⟩]) (.seq (.seq (.reg [⟨⟨some 7, Op.assign (Operand.const (Value.int IntKind.i64 0)), none⟩, []⟩]) (.block 0 (.loop (.seq (.seq (.reg [⟨⟨some 16, Op.move (Operand.tmp 7), none⟩, []⟩,
  ⟨⟨some 17, Op.move (Operand.tmp 1), none⟩, []⟩,
  ⟨⟨some 18, Op.call { callee := (Callee.builtin Builtin.len), args := #[(Operand.tmp 17)], argTypes := #[22] }, none⟩, []⟩,
  ⟨⟨some 19, Op.binOp BinOp.lss 3 (Operand.tmp 16) (Operand.tmp 18) 3, none⟩, []⟩]) (.cond (Operand.tmp 19) .skip (.exit 0))) (.seq (.block 1 (.seq (.reg [⟨⟨some 22, Op.move (Operand.tmp 1), none⟩, []⟩,
  ⟨⟨some 23, Op.move (Operand.tmp 7), none⟩, []⟩,
  ⟨⟨some 24, Op.indexAddr 22 (Operand.tmp 22) (Operand.tmp 23), none⟩, []⟩,
  ⟨⟨some 25, Op.indexAddr 81 (Operand.tmp 24) (Operand.const (Value.int IntKind.i64 0)), none⟩, []⟩,
  ⟨⟨some 26, Op.load 3 (Operand.tmp 25), none⟩, []⟩,
  ⟨⟨some 27, Op.move (Operand.tmp 1), none⟩, []⟩,
  ⟨⟨some 28, Op.move (Operand.tmp 7), none⟩, []⟩,
  ⟨⟨some 29, Op.indexAddr 22 (Operand.tmp 27) (Operand.tmp 28), none⟩, []⟩,
  ⟨⟨some 30, Op.indexAddr 81 (Operand.tmp 29) (Operand.const (Value.int IntKind.i64 1)), none⟩, []⟩,
  ⟨⟨some 31, Op.load 3 (Operand.tmp 30), none⟩, []⟩,
  ⟨⟨some 8, Op.assign (Operand.tmp 26), none⟩, []⟩,
  ⟨⟨some 9, Op.assign (Operand.tmp 31), none⟩, []⟩]) (.seq (.seq (.reg [⟨⟨some 32, Op.move (Operand.tmp 8), none⟩, []⟩,
  ⟨⟨some 33, Op.binOp BinOp.lss 3 (Operand.tmp 32) (Operand.const (Value.int IntKind.i64 0)) 3, none⟩, []⟩,
  ⟨⟨some 34, Op.move (Operand.tmp 33), none⟩, []⟩,
  ⟨⟨some 35, Op.move (Operand.tmp 8), some (34, false)⟩, []⟩,
  ⟨⟨some 36, Op.move (Operand.tmp 9), some (34, false)⟩, []⟩,
  ⟨⟨some 37, Op.binOp BinOp.geq 3 (Operand.tmp 35) (Operand.tmp 36) 3, some (34, false)⟩, []⟩,
  ⟨⟨some 38, Op.pick (Operand.tmp 34) (Operand.const (Value.bool true)) (Operand.tmp 37), none⟩, []⟩,
  ⟨⟨some 39, Op.move (Operand.tmp 38), none⟩, []⟩,
  ⟨⟨some 40, Op.move (Operand.tmp 9), some (39, false)⟩, []⟩,
  ⟨⟨some 41, Op.move (Operand.tmp 0), some (39, false)⟩, []⟩,
  ⟨⟨some 42, Op.call { callee := (Callee.builtin Builtin.len), args := #[(Operand.tmp 41)], argTypes := #[38] }, some (39, false)⟩, []⟩,
  ⟨⟨some 43, Op.binOp BinOp.geq 3 (Operand.tmp 40) (Operand.tmp 42) 3, some (39, false)⟩, []⟩,
  ⟨⟨some 44, Op.pick (Operand.tmp 39) (Operand.const (Value.bool true)) (Operand.tmp 43), none⟩, []⟩]) (.cond (Operand.tmp 44) (.seq (.reg [⟨⟨some 45, Op.buildSlice 38 0 #[], none⟩, []⟩,
  ⟨⟨some 4, Op.assign (Operand.tmp 45), none⟩, []⟩,
  ⟨⟨some 5, Op.assign (Operand.const (Value.bool false)), none⟩, []⟩]) .ret) .skip)) (.reg [⟨⟨some 46, Op.move (Operand.tmp 6), none⟩, []⟩,
  ⟨⟨some 47, Op.move (Operand.tmp 8), none⟩, []⟩,
  ⟨⟨some 48, Op.move (Operand.tmp 9), none⟩, []⟩,
  ⟨⟨some 49, Op.call { callee := (Callee.value (Operand.func 129)), args := #[(Operand.tmp 46), (Operand.tmp 47), (Operand.tmp 48)], argTypes := #[38, 3, 3] }, none⟩, []⟩,
  ⟨⟨some 6, Op.assign (Operand.tmp 49), none⟩, []⟩])))) (.reg [⟨⟨some 20, Op.move (Operand.tmp 7), none⟩, []⟩,
  ⟨⟨some 21, Op.binOp BinOp.add 3 (Operand.tmp 20) (Operand.const (Value.int IntKind.i64 1)) 3, none⟩, []⟩,
  ⟨⟨some 7, Op.assign (Operand.tmp 21), none⟩, []⟩])))))) (.seq (.reg [⟨⟨some 50, Op.move (Operand.tmp 6), none⟩, []⟩,
  ⟨⟨some 4, Op.assign (Operand.tmp 50), none⟩, []⟩,
  ⟨⟨some 5, Op.assign (Operand.const (Value.bool true)), none⟩, []⟩]) .ret)))))
theorem sl52 : slim Try.f52.ntmps ords52 (Try.f52.body.getD .skip) = some cd52 := by kernel_rfl
theorem in52 {args : List Value} {H : AH} {R : Value → AH → Prop} (hl : args.length = 2) (h : ∀ (Q : Exit → Sl → AH → Prop), (∀ e s H, endA Try.prog [ResultVar.tmp 4, ResultVar.tmp 5] R e s H → Q e s H) → wpC Try.prog cd52 Q (enterA args) H) : ACalls Try.prog 52 args H R :=
  ACalls.intro (by kernel_rfl) Try.func52 rfl (by kernel_rfl) sl52 hl (of_decide_eq_true (by kernel_rfl)) (by kernel_rfl) h
def ords51 : List (Nat × List (Nat × Bool)) := []
def cd51 : Cd := (.seq (.reg [⟨⟨some 4, Op.assign (Operand.const (Value.slice none 0 0)), none⟩, []⟩,
  ⟨⟨some 5, Op.assign (Operand.const (Value.bool false)), none⟩, []⟩]) (.seq (.seq (.reg [⟨⟨some 9, Op.move (Operand.tmp 0), none⟩, []⟩,
  ⟨⟨some 10, Op.call { callee := (Callee.value (Operand.func 56)), args := #[(Operand.tmp 9)], argTypes := #[38] }, none⟩, []⟩,
  ⟨⟨some 11, Op.unOp UnOp.not 4 (Operand.tmp 10), none⟩, []⟩]) (.cond (Operand.tmp 11) (.seq (.reg [⟨⟨some 4, Op.assign (Operand.const (Value.slice none 0 0)), none⟩, []⟩,
  ⟨⟨some 5, Op.assign (Operand.const (Value.bool false)), none⟩, []⟩]) .ret) .skip)) (.seq (.reg [⟨⟨some 12, Op.move (Operand.tmp 0), none⟩, []⟩,
  ⟨⟨some 13, Op.call { callee := (Callee.value (Operand.func 87)), args := #[(Operand.tmp 12)], argTypes := #[38] }, none⟩, []⟩,
  ⟨⟨some 6, Op.assign (Operand.tmp 13), none⟩, []⟩]) (.seq (.seq (.reg [⟨⟨some 14, Op.move (Operand.tmp 1), none⟩, []⟩,
  ⟨⟨some 15, Op.call { callee := (Callee.builtin Builtin.len), args := #[(Operand.tmp 14)], argTypes := #[22] }, none⟩, []⟩,
  ⟨⟨some 16, Op.move (Operand.const (Value.int IntKind.i64 0)), none⟩, []⟩]) (.block 0 (.loop (.seq (.reg [⟨⟨some 17, Op.binOp BinOp.lss 3 (Operand.tmp 16) (Operand.tmp 15) 3, none⟩, []⟩]) (.seq (.cond (Operand.tmp 17) .skip (.exit 0)) (.seq (.block 1 (.seq (.reg [⟨⟨some 18, Op.indexAddr 22 (Operand.tmp 14) (Operand.tmp 16), none⟩, []⟩,
  ⟨⟨some 19, Op.load 81 (Operand.tmp 18), none⟩, []⟩,
  ⟨⟨some 8, Op.alloc 81, none⟩, []⟩,
  ⟨⟨none, Op.store 81 (Operand.tmp 8) (Operand.tmp 19), none⟩, []⟩]) (.seq (.seq (.reg [⟨⟨some 20, Op.indexAddr 81 (Operand.tmp 8) (Operand.const (Value.int IntKind.i64 0)), none⟩, []⟩,
  ⟨⟨some 21, Op.load 3 (Operand.tmp 20), none⟩, []⟩,
  ⟨⟨some 22, Op.binOp BinOp.lss 3 (Operand.tmp 21) (Operand.const (Value.int IntKind.i64 0)) 3, none⟩, []⟩,
  ⟨⟨some 23, Op.move (Operand.tmp 22), none⟩, []⟩,
  ⟨⟨some 24, Op.indexAddr 81 (Operand.tmp 8) (Operand.const (Value.int IntKind.i64 1)), some (23, false)⟩, []⟩,
  ⟨⟨some 25, Op.load 3 (Operand.tmp 24), some (23, false)⟩, []⟩,
  ⟨⟨some 26, Op.indexAddr 81 (Operand.tmp 8) (Operand.const (Value.int IntKind.i64 0)), some (23, false)⟩, []⟩,
  ⟨⟨some 27, Op.load 3 (Operand.tmp 26), some (23, false)⟩, []⟩,
  ⟨⟨some 28, Op.binOp BinOp.leq 3 (Operand.tmp 25) (Operand.tmp 27) 3, some (23, false)⟩, []⟩,
  ⟨⟨some 29, Op.pick (Operand.tmp 23) (Operand.const (Value.bool true)) (Operand.tmp 28), none⟩, []⟩,
  ⟨⟨some 30, Op.move (Operand.tmp 29), none⟩, []⟩,
  ⟨⟨some 31, Op.indexAddr 81 (Operand.tmp 8) (Operand.const (Value.int IntKind.i64 1)), some (30, false)⟩, []⟩,
  ⟨⟨some 32, Op.load 3 (Operand.tmp 31), some (30, false)⟩, []⟩,
  ⟨⟨some 33, Op.move (Operand.tmp 0), some (30, false)⟩, []⟩,
  ⟨⟨some 34, Op.call { callee := (Callee.builtin Builtin.len), args := #[(Operand.tmp 33)], argTypes := #[38] }, some (30, false)⟩, []⟩,
  ⟨⟨some 35, Op.binOp BinOp.geq 3 (Operand.tmp 32) (Operand.tmp 34) 3, some (30, false)⟩, []⟩,
  ⟨⟨some 36, Op.pick (Operand.tmp 30) (Operand.const (Value.bool true)) (Operand.tmp 35), none⟩, []⟩]) (.cond (Operand.tmp 36) (.seq (.reg [⟨⟨some 4, Op.assign (Operand.const (Value.slice none 0 0)), none⟩, []⟩,
  ⟨⟨some 5, Op.assign (Operand.const (Value.bool false)), none⟩, []⟩]) .ret) .skip)) (.reg [⟨⟨some 37, Op.move (Operand.tmp 6), none⟩, []⟩,
  ⟨⟨some 38, Op.load 81 (Operand.tmp 8), none⟩, []⟩,
  ⟨⟨some 39, Op.call { callee := (Callee.value (Operand.func 126)), args := #[(Operand.tmp 37), (Operand.tmp 38)], argTypes := #[38, 81] }, none⟩, []⟩,
  ⟨⟨some 6, Op.assign (Operand.tmp 39), none⟩, []⟩])))) (.reg [⟨⟨some 40, Op.binOp BinOp.add 3 (Operand.tmp 16) (Operand.const (Value.int IntKind.i64 1)) 3, none⟩, []⟩,
  ⟨⟨some 16, Op.move (Operand.tmp 40), none⟩, []⟩]))))))) (.seq (.reg [⟨⟨some 41, Op.move (Operand.tmp 6), none⟩, []⟩,
  ⟨⟨some 4, Op.assign (Operand.tmp 41), none⟩, []⟩,
  ⟨⟨some 5, Op.assign (Operand.const (Value.bool true)), none⟩, []⟩]) .ret)))))
theorem sl51 : slim Try.f51.ntmps ords51 (Try.f51.body.getD .skip) = some cd51 := by kernel_rfl
theorem in51 {args : List Value} {H : AH} {R : Value → AH → Prop} (hl : args.length = 2) (h : ∀ (Q : Exit → Sl → AH → Prop), (∀ e s H, endA Try.prog [ResultVar.tmp 4, ResultVar.tmp 5] R e s H → Q e s H) → wpC Try.prog cd51 Q (enterA args) H) : ACalls Try.prog 51 args H R :=
  ACalls.intro (by kernel_rfl) Try.func51 rfl (by kernel_rfl) sl51 hl (of_decide_eq_true (by kernel_rfl)) (by kernel_rfl) h
end Go.Proofs.Ytlfongfhbkefmaa.Ai
namespace Go.Proofs.Ytlfongfhbkefmaa.Ai
open Go Go.RowKit
set_option linter.unusedVariables false
set_option linter.unusedSimpArgs false
theorem plc_bad {p : List Int} {ss : List (Int × Int)} {i : Nat} (hi : i < ss.length) (h : ¬ swOk p.length (ss.getD i (0, 0))) : ¬ plcOk p ss := by
  intro hh
  refine h (hh.2 _ ?_)
  simp [hi]
theorem plc_all {p : List Int} {ss : List (Int × Int)} (hp : Prm p) (h : ∀ j, j < ss.length → swOk p.length (ss.getD j (0, 0))) : plcOk p ss := by
  refine ⟨hp, fun s hs => ?_⟩
  obtain ⟨i, hi, e⟩ := List.getElem_of_mem hs
  have := h i hi
  rw [show ss.getD i (0, 0) = s from by simp [hi, e]] at this
  exact this
set_option maxRecDepth 20000 in
set_option maxHeartbeats 2000000 in
theorem PlaceS_c (v w : Value) (p : List Int) (ss : List (Int × Int)) (H : AH) (hr : Row 3 H v p) (hlen : p.length ≤ 1099511627776) (hxs : ∀ y ∈ p, I64 y) (hr2 : RowP 81 H w ss) (hlen2 : ss.length ≤ 1099511627776) (hss : ∀ s ∈ ss, I64 s.1 ∧ I64 s.2) :
    ACalls Try.prog 52 [v, w] H fun r H' => ∃ g, r = .tuple (List.toArray [g, .bool (decide (plcOk p ss))]) ∧ Mine 3 H H' g (placeR p ss) ∧ H <+: H' := by
  refine in52 rfl ?_
  intro Q hQ
  simp (maxSteps := 1000000) (disch := omega) only [cd52, S, S1, S2, S3, S4, S5, ST, eq_self, reduceIte, reduceCtorEq, Nat.reduceEqDiff, Nat.reduceAdd]
  refine CallH.by (l9Perm_c v p _ hr hlen) ?_
  rintro _ _ ⟨rfl, rfl⟩
  simp (maxSteps := 1000000) (disch := omega) only [S, S1, S2, S3, S4, S5, ST, eq_self, reduceIte, reduceCtorEq, Nat.reduceEqDiff, Nat.reduceAdd]
  refine brD.intro (fun hp => ?_) (fun hp => ?_) <;> simp (maxSteps := 1000000) (disch := omega) only [hp, S, S1, S2, S3, S4, S5, ST, eq_self, reduceIte, reduceCtorEq, Nat.reduceEqDiff, Nat.reduceAdd]
  · have h8 := hp.1
    refine CallH.by (l1Own_c v p H hr hlen) ?_
    rintro u0 H0 ⟨ho0, hp0⟩
    simp (maxSteps := 1000000) (disch := omega) only [S, S1, S2, S3, S4, S5, ST, eq_self, reduceIte, reduceCtorEq, Nat.reduceEqDiff, Nat.reduceAdd]
    refine LoopH.by (fun m s H' => ∃ i, m + i = ss.length ∧ s 0 = v ∧ s 1 = w ∧ s 7 = .int .i64 ((i : Nat) : Int) ∧ Own 3 H H' (s 6) (plcSt p (ss.take i)) ∧ H <+: H' ∧ ∀ j, j < i → swOk p.length (ss.getD j (0, 0))) ss.length ?_ ?_
    · refine ⟨0, by simp, rfl, rfl, rfl, ?_, hp0, by omega⟩
      simp (maxSteps := 1000000) (disch := omega) only [S, S1, S2, S3, S4, S5, ST, eq_self, reduceIte, reduceCtorEq, Nat.reduceEqDiff, Nat.reduceAdd]; exact ho0
    · rintro m s H' ⟨i, hm, h0, h1, h7, ho, hpp, hall⟩
      have hr' := hr.pre hpp
      have hr2' := hr2.pre hpp
      have hl := plcSt_len (ss.take i) p
      generalize hw : s 6 = u at *
      simp (maxSteps := 1000000) (disch := omega) only [h0, h1, h7, hw, hr2'.len Try.underlying22, S, S1, S2, S3, S4, S5, ST, eq_self, reduceIte, reduceCtorEq, Nat.reduceEqDiff, Nat.reduceAdd]
      refine brD.intro (fun g => ?_) (fun g => ?_)
      · have hi : i < ss.length := by omega
        have hst := plcSt_step p ss i hi
        have hbad := fun h => plc_bad (p := p) hi h
        have hstep : swOk p.length (ss.getD i (0, 0)) → ∀ j, j < i + 1 → swOk p.length (ss.getD j (0, 0)) := by
          intro h j hj
          by_cases e : j = i
          · subst e; exact h
          · exact hall j (by omega)
        simp (maxSteps := 1000000) (disch := omega) only [h0, h1, h7, hw, hr2'.ix Try.underlying22 cs81, Int.toNat_natCast, hr2'.cell0 hi, hr2'.cell1 hi, S, S1, S2, S3, S4, S5, ST, eq_self, reduceIte, reduceCtorEq, Nat.reduceEqDiff, Nat.reduceAdd]
        generalize hsi : ss.getD i (0, 0) = sw at *
        obtain ⟨a, b⟩ := sw
        have fail : ¬ swOk p.length (a, b) → placeR p ss = [] ∧ decide (plcOk p ss) = false := fun h => ⟨if_neg (hbad h), decide_eq_false (hbad h)⟩
        refine brD.intro (fun e1 => ?_) (fun e1 => ?_) <;> simp (maxSteps := 1000000) (disch := omega) only [e1, h0, h1, h7, hw, hr'.len Try.underlying38, S, S1, S2, S3, S4, S5, ST, eq_self, reduceIte, reduceCtorEq, Nat.reduceEqDiff, Nat.reduceAdd]
        · refine hQ _ _ _ ?_
          simp (maxSteps := 1000000) (disch := omega) only [S, S1, S2, S3, S4, S5, ST, eq_self, reduceIte, reduceCtorEq, Nat.reduceEqDiff, Nat.reduceAdd]
          obtain ⟨f1, f2⟩ := fail (fun h => by have := h.1; simp at this; omega)
          rw [f1, f2]
          exact ⟨.slice (some ⟨H'.length, 0, none⟩) 0 0, rfl, (Own.mine (.inr ⟨H'.length, rfl, hpp.length_le, at_new ..⟩)), pre_app hpp _⟩
        · refine brD.intro (fun e2 => ?_) (fun e2 => ?_) <;> simp (maxSteps := 1000000) (disch := omega) only [e1, e2, h0, h1, h7, hw, hr'.len Try.underlying38, S, S1, S2, S3, S4, S5, ST, eq_self, reduceIte, reduceCtorEq, Nat.reduceEqDiff, Nat.reduceAdd]
          · refine hQ _ _ _ ?_
            simp (maxSteps := 1000000) (disch := omega) only [S, S1, S2, S3, S4, S5, ST, eq_self, reduceIte, reduceCtorEq, Nat.reduceEqDiff, Nat.reduceAdd]
            obtain ⟨f1, f2⟩ := fail (fun h => by have := h.2.1; simp at this; omega)
            rw [f1, f2]
            exact ⟨.slice (some ⟨H'.length, 0, none⟩) 0 0, rfl, (Own.mine (.inr ⟨H'.length, rfl, hpp.length_le, at_new ..⟩)), pre_app hpp _⟩
          · refine brD.intro (fun e3 => ?_) (fun e3 => ?_) <;> simp (maxSteps := 1000000) (disch := omega) only [e1, e2, e3, h0, h1, h7, hw, hr'.len Try.underlying38, S, S1, S2, S3, S4, S5, ST, eq_self, reduceIte, reduceCtorEq, Nat.reduceEqDiff, Nat.reduceAdd]
            · refine hQ _ _ _ ?_
              simp (maxSteps := 1000000) (disch := omega) only [S, S1, S2, S3, S4, S5, ST, eq_self, reduceIte, reduceCtorEq, Nat.reduceEqDiff, Nat.reduceAdd]
              obtain ⟨f1, f2⟩ := fail (fun h => by have := h.2.2; simp at this; omega)
              rw [f1, f2]
              exact ⟨.slice (some ⟨H'.length, 0, none⟩) 0 0, rfl, (Own.mine (.inr ⟨H'.length, rfl, hpp.length_le, at_new ..⟩)), pre_app hpp _⟩
            · obtain ⟨an, rfl⟩ := Int.eq_ofNat_of_zero_le (show 0 ≤ a by omega)
              obtain ⟨bn, rfl⟩ := Int.eq_ofNat_of_zero_le (show 0 ≤ b by omega)
              have kok := hstep ⟨by simp, by simp; omega, by simp; omega⟩
              refine CallH.by (l9Swap_c u _ an bn H' ho.row (by omega) (by omega) (by omega)) ?_
              rintro r H3 ⟨ho3, hp3⟩
              have ko := ho3.base hpp
              have kpp := hpp.trans hp3
              simp only [Int.toNat_natCast] at hst
              simp (maxSteps := 1000000) (disch := omega) only [h0, h1, h7, hw, wrap64, S, S1, S2, S3, S4, S5, ST, eq_self, reduceIte, reduceCtorEq, Nat.reduceEqDiff, Nat.reduceAdd]
              refine ⟨m - 1, by omega, i + 1, ?_⟩
              rw [hst]
              (repeat' first | exact ko | exact kpp | exact kok | apply And.intro) <;> first | (simp only [Value.int.injEq, true_and]; omega) | omega | rfl | assumption | (simp; done) | (simp; omega)
      · simp (maxSteps := 1000000) (disch := omega) only [hw, S, S1, S2, S3, S4, S5, ST, eq_self, reduceIte, reduceCtorEq, Nat.reduceEqDiff, Nat.reduceAdd]
        refine hQ _ _ _ ?_
        simp (maxSteps := 1000000) (disch := omega) only [hw, ho.row.tup, S, S1, S2, S3, S4, S5, ST, eq_self, reduceIte, reduceCtorEq, Nat.reduceEqDiff, Nat.reduceAdd]
        have hx : i = ss.length := by omega
        subst hx
        rw [List.take_length] at ho
        have hok := plc_all hp hall
        exact ⟨u, by simp [hok], by simpa [placeR, hok] using ho.mine, hpp⟩
  · refine hQ _ _ _ ?_
    simp (maxSteps := 1000000) (disch := omega) only [S, S1, S2, S3, S4, S5, ST, eq_self, reduceIte, reduceCtorEq, Nat.reduceEqDiff, Nat.reduceAdd]
    have hok : ¬ plcOk p ss := fun h => hp h.1
    exact ⟨.slice (some ⟨H.length, 0, none⟩) 0 0, by simp [hok], by rw [placeR, if_neg hok]; exact (Own.mine (.inr ⟨H.length, rfl, Nat.le_refl _, at_new ..⟩)), List.prefix_append _ _⟩
set_option maxRecDepth 20000 in
set_option maxHeartbeats 2000000 in
theorem PlaceI_c (v w : Value) (p : List Int) (ss : List (Int × Int)) (H : AH) (hr : Row 3 H v p) (hlen : p.length ≤ 1099511627776) (hxs : ∀ y ∈ p, I64 y) (hr2 : RowP 81 H w ss) (hlen2 : ss.length ≤ 1099511627776) (hss : ∀ s ∈ ss, I64 s.1 ∧ I64 s.2) :
    ACalls Try.prog 51 [v, w] H fun r H' => ∃ g, r = .tuple (List.toArray [g, .bool (decide (plcOk p ss))]) ∧ Mine 3 H H' g (placeR p ss) ∧ H <+: H' := by
  refine in51 rfl ?_
  intro Q hQ
  simp (maxSteps := 1000000) (disch := omega) only [cd51, S, S1, S2, S3, S4, S5, ST, eq_self, reduceIte, reduceCtorEq, Nat.reduceEqDiff, Nat.reduceAdd]
  refine CallH.by (PermI_c v p H hr hlen hxs) ?_
  rintro _ H0 ⟨rfl, hq0⟩
  have hr0 := hr.pre hq0
  simp (maxSteps := 1000000) (disch := omega) only [S, S1, S2, S3, S4, S5, ST, eq_self, reduceIte, reduceCtorEq, Nat.reduceEqDiff, Nat.reduceAdd]
  refine brD.intro (fun hp => ?_) (fun hp => ?_) <;> simp (maxSteps := 1000000) (disch := omega) only [hp, S, S1, S2, S3, S4, S5, ST, eq_self, reduceIte, reduceCtorEq, Nat.reduceEqDiff, Nat.reduceAdd]
  · have h8 := hp.1
    refine CallH.by (Clone_c v p H0 hr0 hlen) ?_
    rintro u0 H1 ⟨ho0', hp1⟩
    have ho0 := ho0'.base hq0
    have hp0 := hq0.trans hp1
    simp (maxSteps := 1000000) (disch := omega) only [(hr2.pre hp0).len Try.underlying22, S, S1, S2, S3, S4, S5, ST, eq_self, reduceIte, reduceCtorEq, Nat.reduceEqDiff, Nat.reduceAdd]
    refine LoopH.by (fun m s H' => ∃ i, m + i = ss.length ∧ s 0 = v ∧ s 14 = w ∧ s 15 = .int .i64 (ss.length : Int) ∧ s 16 = .int .i64 ((i : Nat) : Int) ∧ Own 3 H H' (s 6) (plcSt p (ss.take i)) ∧ H <+: H' ∧ ∀ j, j < i → swOk p.length (ss.getD j (0, 0))) ss.length ?_ ?_
    · refine ⟨0, by simp, rfl, rfl, rfl, rfl, ?_, hp0, by omega⟩
      simp (maxSteps := 1000000) (disch := omega) only [S, S1, S2, S3, S4, S5, ST, eq_self, reduceIte, reduceCtorEq, Nat.reduceEqDiff, Nat.reduceAdd]; exact ho0
    · rintro m s H' ⟨i, hm, h0, h14, h15, h16, ho, hpp, hall⟩
      have hr' := hr.pre hpp
      have hr2' := hr2.pre hpp
      have hl := plcSt_len (ss.take i) p
      generalize hw : s 6 = u at *
      simp (maxSteps := 1000000) (disch := omega) only [h0, h14, h15, h16, hw, S, S1, S2, S3, S4, S5, ST, eq_self, reduceIte, reduceCtorEq, Nat.reduceEqDiff, Nat.reduceAdd]
      refine brD.intro (fun g => ?_) (fun g => ?_)
      · have hi : i < ss.length := by omega
        have hst := plcSt_step p ss i hi
        have hbad := fun h => plc_bad (p := p) hi h
        have hstep : swOk p.length (ss.getD i (0, 0)) → ∀ j, j < i + 1 → swOk p.length (ss.getD j (0, 0)) := by
          intro h j hj
          by_cases e : j = i
          · subst e; exact h
          · exact hall j (by omega)
        have ldi := hr2'.ld ag81 cs81 hi
        generalize hsi : ss.getD i (0, 0) = sw at *
        obtain ⟨a, b⟩ := sw
        have st := store_a2 H' [.int .i64 0, .int .i64 0] rfl (.int .i64 a) (.int .i64 b)
        have pA := List.prefix_append H' [AObj.cells [.int .i64 a, .int .i64 b] 81 false]
        have aA := at_new H' (AObj.cells [.int .i64 a, .int .i64 b] 81 false)
        simp (maxSteps := 1000000) (disch := omega) only [h0, h14, h15, h16, hw, hr2'.ix Try.underlying22 cs81, Int.toNat_natCast, ldi, alloc_a2, st, S, S1, S2, S3, S4, S5, ST, eq_self, reduceIte, reduceCtorEq, Nat.reduceEqDiff, Nat.reduceAdd]
        generalize H' ++ [AObj.cells [.int .i64 a, .int .i64 b] 81 false] = A at *
        have hppA := hpp.trans pA
        have hrA := hr'.pre pA
        have c0 : cellA A H'.length 0 = some (.int .i64 a) := by rw [cell_of aA]; rfl
        have c1 : cellA A H'.length 1 = some (.int .i64 b) := by rw [cell_of aA]; rfl
        have ld := ld_a2 aA
        have fail : ¬ swOk p.length (a, b) → placeR p ss = [] ∧ decide (plcOk p ss) = false := fun h => ⟨if_neg (hbad h), decide_eq_false (hbad h)⟩
        simp (maxSteps := 1000000) (disch := omega) only [h0, h14, h15, h16, hw, c0, c1, ld, hrA.len Try.underlying38, S, S1, S2, S3, S4, S5, ST, eq_self, reduceIte, reduceCtorEq, Nat.reduceEqDiff, Nat.reduceAdd]
        refine brD.intro (fun e1 => ?_) (fun e1 => ?_) <;> simp (maxSteps := 1000000) (disch := omega) only [e1, h0, h14, h15, h16, hw, c0, c1, ld, hrA.len Try.underlying38, S, S1, S2, S3, S4, S5, ST, eq_self, reduceIte, reduceCtorEq, Nat.reduceEqDiff, Nat.reduceAdd]
        · refine hQ _ _ _ ?_
          simp (maxSteps := 1000000) (disch := omega) only [S, S1, S2, S3, S4, S5, ST, eq_self, reduceIte, reduceCtorEq, Nat.reduceEqDiff, Nat.reduceAdd]
          obtain ⟨f1, f2⟩ := fail (fun h => by have := h.1; simp at this; omega)
          rw [f1, f2]
          exact ⟨.slice none 0 0, rfl, .inl ⟨rfl, rfl⟩, hppA⟩
        · refine brD.intro (fun e2 => ?_) (fun e2 => ?_) <;> simp (maxSteps := 1000000) (disch := omega) only [e1, e2, h0, h14, h15, h16, hw, c0, c1, ld, hrA.len Try.underlying38, S, S1, S2, S3, S4, S5, ST, eq_self, reduceIte, reduceCtorEq, Nat.reduceEqDiff, Nat.reduceAdd]
          · refine hQ _ _ _ ?_
            simp (maxSteps := 1000000) (disch := omega) only [S, S1, S2, S3, S4, S5, ST, eq_self, reduceIte, reduceCtorEq, Nat.reduceEqDiff, Nat.reduceAdd]
            obtain ⟨f1, f2⟩ := fail (fun h => by have := h.2.1; simp at this; omega)
            rw [f1, f2]
            exact ⟨.slice none 0 0, rfl, .inl ⟨rfl, rfl⟩, hppA⟩
          · refine brD.intro (fun e3 => ?_) (fun e3 => ?_) <;> simp (maxSteps := 1000000) (disch := omega) only [e1, e2, e3, h0, h14, h15, h16, hw, c0, c1, ld, hrA.len Try.underlying38, S, S1, S2, S3, S4, S5, ST, eq_self, reduceIte, reduceCtorEq, Nat.reduceEqDiff, Nat.reduceAdd]
            · refine hQ _ _ _ ?_
              simp (maxSteps := 1000000) (disch := omega) only [S, S1, S2, S3, S4, S5, ST, eq_self, reduceIte, reduceCtorEq, Nat.reduceEqDiff, Nat.reduceAdd]
              obtain ⟨f1, f2⟩ := fail (fun h => by have := h.2.2; simp at this; omega)
              rw [f1, f2]
              exact ⟨.slice none 0 0, rfl, .inl ⟨rfl, rfl⟩, hppA⟩
            · obtain ⟨an, rfl⟩ := Int.eq_ofNat_of_zero_le (show 0 ≤ a by omega)
              obtain ⟨bn, rfl⟩ := Int.eq_ofNat_of_zero_le (show 0 ≤ b by omega)
              have kok := hstep ⟨by simp, by simp; omega, by simp; omega⟩
              refine CallH.by (swapped_c u _ an bn A (ho.row.pre pA) (by omega) (by omega) (by omega)) ?_
              rintro r H3 ⟨ho3, hp3⟩
              have ko := ho3.base hppA
              have kpp := hppA.trans hp3
              simp only [Int.toNat_natCast] at hst
              simp (maxSteps := 1000000) (disch := omega) only [h0, h14, h15, h16, hw, wrap64, S, S1, S2, S3, S4, S5, ST, eq_self, reduceIte, reduceCtorEq, Nat.reduceEqDiff, Nat.reduceAdd]
              refine ⟨m - 1, by omega, i + 1, ?_⟩
              rw [hst]
              (repeat' first | exact ko | exact kpp | exact kok | apply And.intro) <;> first | (simp only [Value.int.injEq, true_and]; omega) | omega | rfl | assumption | (simp; done) | (simp; omega)
      · simp (maxSteps := 1000000) (disch := omega) only [hw, S, S1, S2, S3, S4, S5, ST, eq_self, reduceIte, reduceCtorEq, Nat.reduceEqDiff, Nat.reduceAdd]
        refine hQ _ _ _ ?_
        simp (maxSteps := 1000000) (disch := omega) only [hw, ho.row.tup, S, S1, S2, S3, S4, S5, ST, eq_self, reduceIte, reduceCtorEq, Nat.reduceEqDiff, Nat.reduceAdd]
        have hx : i = ss.length := by omega
        subst hx
        rw [List.take_length] at ho
        have hok := plc_all hp hall
        exact ⟨u, by simp [hok], by simpa [placeR, hok] using ho.mine, hpp⟩
  · refine hQ _ _ _ ?_
    simp (maxSteps := 1000000) (disch := omega) only [S, S1, S2, S3, S4, S5, ST, eq_self, reduceIte, reduceCtorEq, Nat.reduceEqDiff, Nat.reduceAdd]
    have hok : ¬ plcOk p ss := fun h => hp h.1
    exact ⟨.slice none 0 0, by simp [hok], by rw [placeR, if_neg hok]; exact .inl ⟨rfl, rfl⟩, hq0⟩
end Go.Proofs.Ytlfongfhbkefmaa.Ai
