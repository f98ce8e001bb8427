/- TokenSpace, both sides. -/
import Derived.Test.YthhnpchjjbjabaaAll9
import Derived.Test.YthhnpchjjbjabaaPmS
import Derived.Test.YthhnpchjjbjabaaProg
import Derived.Test.YthhnpchjjbjabaaAiM2
import Derived.KernelRfl
/- Slim code of this translation. By the kernel. -/
namespace Go.Proofs.Ythhnpchjjbjabaa.Ai
open Go

/- loop.example/g01128/impl.TokenSpace$1 -/
def ords79 : List (Nat × List (Nat × Bool)) := [(2, [(0, false), (1, false), (2, false), (3, false), (4, false), (5, false), (6, false), (7, false), (8, false), (9, false), (10, false), (11, true), (12, false), (13, false)])]
def cd79 : Cd := (.seq (.reg [⟨⟨some 5, Op.assign (Operand.const (Value.bool false)), none⟩, []⟩]) (.seq (.reg [⟨⟨some 7, Op.move (Operand.tmp 0), none⟩, []⟩,
  ⟨⟨some 8, Op.move (Operand.tmp 1), none⟩, []⟩,
  ⟨⟨some 9, Op.call { callee := (Callee.value (Operand.func 80)), args := #[(Operand.tmp 7), (Operand.tmp 8)], argTypes := #[32, 32] }, none⟩, []⟩,
  ⟨⟨some 6, Op.assign (Operand.tmp 9), none⟩, []⟩]) (.seq (.reg [⟨⟨some 10, Op.move (Operand.tmp 6), none⟩, []⟩,
  ⟨⟨some 11, Op.call { callee := (Callee.builtin Builtin.len), args := #[(Operand.tmp 10)], argTypes := #[32] }, none⟩, []⟩,
  ⟨⟨some 12, Op.binOp BinOp.eql 3 (Operand.tmp 11) (Operand.const (Value.int IntKind.i64 2)) 3, none⟩, []⟩,
  ⟨⟨some 13, Op.move (Operand.tmp 12), none⟩, []⟩,
  ⟨⟨some 14, Op.load 28 (Operand.tmp 2), some (13, true)⟩, []⟩,
  ⟨⟨some 15, Op.move (Operand.tmp 6), some (13, true)⟩, []⟩,
  ⟨⟨some 16, Op.indexAddr 32 (Operand.tmp 15) (Operand.const (Value.int IntKind.i64 0)), some (13, true)⟩, []⟩,
  ⟨⟨some 17, Op.load 3 (Operand.tmp 16), some (13, true)⟩, []⟩,
  ⟨⟨some 18, Op.move (Operand.tmp 6), some (13, true)⟩, []⟩,
  ⟨⟨some 19, Op.indexAddr 32 (Operand.tmp 18) (Operand.const (Value.int IntKind.i64 1)), some (13, true)⟩, []⟩,
  ⟨⟨some 20, Op.load 3 (Operand.tmp 19), some (13, true)⟩, []⟩,
  ⟨⟨some 21, Op.call { callee := (Callee.value (Operand.func 81)), args := #[(Operand.tmp 14), (Operand.tmp 17), (Operand.tmp 20)], argTypes := #[28, 3, 3] }, some (13, true)⟩, []⟩,
  ⟨⟨some 22, Op.pick (Operand.tmp 13) (Operand.tmp 21) (Operand.const (Value.bool false)), none⟩, []⟩,
  ⟨⟨some 5, Op.assign (Operand.tmp 22), none⟩, []⟩]) .ret)))
theorem sl79 : slim Try.f79.ntmps ords79 (Try.f79.body.getD .skip) = some cd79 := by kernel_rfl
theorem in79 {args : List Value} {H : AH} {R : Value → AH → Prop} (hl : args.length = 3) (h : ∀ (Q : Exit → Sl → AH → Prop), (∀ e s H, endA Try.prog [ResultVar.tmp 5] R e s H → Q e s H) → wpC Try.prog cd79 Q (enterA args) H) : ACalls Try.prog 79 args H R :=
  ACalls.intro (by kernel_rfl) Try.func79 rfl (by kernel_rfl) sl79 hl (of_decide_eq_true (by kernel_rfl)) (by kernel_rfl) h

/- loop.example/g01128/impl.TokenSpace -/
def ords29 : List (Nat × List (Nat × Bool)) := []
def cd29 : Cd := (.seq (.reg [⟨⟨some 1, Op.box 28 (Operand.tmp 0), none⟩, []⟩,
  ⟨⟨some 2, Op.alloc 40, none⟩, []⟩,
  ⟨⟨some 3, Op.assign (Operand.const (Value.bool false)), none⟩, []⟩]) (.seq (.seq (.reg [⟨⟨some 4, Op.load 28 (Operand.tmp 1), none⟩, []⟩,
  ⟨⟨some 5, Op.call { callee := (Callee.value (Operand.func 60)), args := #[(Operand.tmp 4)], argTypes := #[28] }, none⟩, []⟩,
  ⟨⟨some 6, Op.unOp UnOp.not 4 (Operand.tmp 5), none⟩, []⟩,
  ⟨⟨some 7, Op.move (Operand.tmp 6), none⟩, []⟩,
  ⟨⟨some 8, Op.fieldAddr 28 (Operand.tmp 1) 0, some (7, false)⟩, []⟩,
  ⟨⟨some 9, Op.load 3 (Operand.tmp 8), some (7, false)⟩, []⟩,
  ⟨⟨some 10, Op.binOp BinOp.gtr 3 (Operand.tmp 9) (Operand.const (Value.int IntKind.i64 5)) 3, some (7, false)⟩, []⟩,
  ⟨⟨some 11, Op.pick (Operand.tmp 7) (Operand.const (Value.bool true)) (Operand.tmp 10), none⟩, []⟩]) (.cond (Operand.tmp 11) (.seq (.reg [⟨⟨some 12, Op.build 40 #[], none⟩, []⟩,
  ⟨⟨none, Op.store 40 (Operand.tmp 2) (Operand.tmp 12), none⟩, []⟩,
  ⟨⟨some 3, Op.assign (Operand.const (Value.bool false)), none⟩, []⟩]) .ret) .skip)) (.seq (.reg [⟨⟨some 13, Op.fieldAddr 28 (Operand.tmp 1) 0, none⟩, []⟩,
  ⟨⟨some 14, Op.load 3 (Operand.tmp 13), none⟩, []⟩,
  ⟨⟨some 15, Op.call { callee := (Callee.value (Operand.func 78)), args := #[(Operand.tmp 14)], argTypes := #[3] }, none⟩, []⟩,
  ⟨⟨some 16, Op.makeFunc (Fn.func 79) #[] #[(Operand.tmp 1)], none⟩, []⟩,
  ⟨⟨some 17, Op.call { callee := (Callee.value (Operand.func 77)), args := #[(Operand.tmp 15), (Operand.tmp 16)], argTypes := #[38, 36] }, none⟩, []⟩,
  ⟨⟨some 18, Op.call { callee := (Callee.value (Operand.func 76)), args := #[(Operand.tmp 17)], argTypes := #[40] }, none⟩, []⟩,
  ⟨⟨some 19, Op.extract (Operand.tmp 18) 0, none⟩, []⟩,
  ⟨⟨some 20, Op.extract (Operand.tmp 18) 1, none⟩, []⟩,
  ⟨⟨none, Op.store 40 (Operand.tmp 2) (Operand.tmp 19), none⟩, []⟩,
  ⟨⟨some 3, Op.assign (Operand.tmp 20), none⟩, []⟩]) .ret)))
theorem sl29 : slim Try.f29.ntmps ords29 (Try.f29.body.getD .skip) = some cd29 := by kernel_rfl
set_option maxRecDepth 20000 in
theorem in29 {args : List Value} {H : AH} {R : Value → AH → Prop} (hl : args.length = 1) (h : ∀ (Q : Exit → Sl → AH → Prop), (∀ e s H, endA Try.prog [ResultVar.cell 2 40, ResultVar.tmp 3] R e s H → Q e s H) → wpC Try.prog cd29 Q (enterA args) H) : ACalls Try.prog 29 args H R :=
  ACalls.intro (by kernel_rfl) Try.func29 rfl (by kernel_rfl) sl29 hl (of_decide_eq_true (by kernel_rfl)) (by kernel_rfl) h

/- loop.example/g01128/spec.TokenSpace -/
def ords28 : List (Nat × List (Nat × Bool)) := [(10, [(0, false), (1, false), (2, false), (3, false), (4, false), (5, false), (6, false), (7, false), (8, false), (9, false), (10, true), (11, false)]), (11, [(0, false), (1, false), (2, false), (3, false), (4, false), (5, false), (6, false), (7, false), (8, false), (9, false), (10, false), (11, true), (12, false)])]
def cd28 : Cd := (.seq (.reg [⟨⟨some 1, Op.box 28 (Operand.tmp 0), none⟩, []⟩,
  ⟨⟨some 2, Op.alloc 40, none⟩, []⟩,
  ⟨⟨some 3, Op.assign (Operand.const (Value.bool false)), none⟩, []⟩]) (.seq (.seq (.reg [⟨⟨some 8, Op.load 28 (Operand.tmp 1), none⟩, []⟩,
  ⟨⟨some 9, Op.call { callee := (Callee.value (Operand.func 57)), args := #[(Operand.tmp 8)], argTypes := #[28] }, none⟩, []⟩,
  ⟨⟨some 10, Op.unOp UnOp.not 4 (Operand.tmp 9), none⟩, []⟩,
  ⟨⟨some 11, Op.move (Operand.tmp 10), none⟩, []⟩,
  ⟨⟨some 12, Op.fieldAddr 28 (Operand.tmp 1) 0, some (11, false)⟩, []⟩,
  ⟨⟨some 13, Op.load 3 (Operand.tmp 12), some (11, false)⟩, []⟩,
  ⟨⟨some 14, Op.binOp BinOp.gtr 3 (Operand.tmp 13) (Operand.const (Value.int IntKind.i64 5)) 3, some (11, false)⟩, []⟩,
  ⟨⟨some 15, Op.pick (Operand.tmp 11) (Operand.const (Value.bool true)) (Operand.tmp 14), none⟩, []⟩]) (.cond (Operand.tmp 15) (.seq (.reg [⟨⟨some 16, Op.build 40 #[], none⟩, []⟩,
  ⟨⟨none, Op.store 40 (Operand.tmp 2) (Operand.tmp 16), none⟩, []⟩,
  ⟨⟨some 3, Op.assign (Operand.const (Value.bool false)), none⟩, []⟩]) .ret) .skip)) (.seq (.reg [⟨⟨some 17, Op.fieldAddr 28 (Operand.tmp 1) 0, none⟩, []⟩,
  ⟨⟨some 18, Op.load 3 (Operand.tmp 17), none⟩, []⟩,
  ⟨⟨some 19, Op.buildSlice 32 0 #[], none⟩, []⟩,
  ⟨⟨some 20, Op.buildSlice 38 0 #[], none⟩, []⟩,
  ⟨⟨some 21, Op.call { callee := (Callee.value (Operand.func 73)), args := #[(Operand.tmp 18), (Operand.tmp 19), (Operand.tmp 20)], argTypes := #[3, 32, 38] }, none⟩, []⟩,
  ⟨⟨some 22, Op.buildSlice 22 0 #[], none⟩, []⟩,
  ⟨⟨some 23, Op.build 40 #[(0, (Operand.tmp 21)), (1, (Operand.tmp 22))], none⟩, []⟩,
  ⟨⟨some 4, Op.alloc 40, none⟩, []⟩,
  ⟨⟨none, Op.store 40 (Operand.tmp 4) (Operand.tmp 23), none⟩, []⟩]) (.seq (.seq (.reg [⟨⟨some 5, Op.assign (Operand.const (Value.int IntKind.i64 0)), none⟩, []⟩]) (.block 0 (.loop (.seq (.seq (.reg [⟨⟨some 24, Op.move (Operand.tmp 5), none⟩, []⟩,
  ⟨⟨some 25, Op.fieldAddr 40 (Operand.tmp 4) 0, none⟩, []⟩,
  ⟨⟨some 26, Op.load 38 (Operand.tmp 25), none⟩, []⟩,
  ⟨⟨some 27, Op.call { callee := (Callee.builtin Builtin.len), args := #[(Operand.tmp 26)], argTypes := #[38] }, none⟩, []⟩,
  ⟨⟨some 28, Op.binOp BinOp.lss 3 (Operand.tmp 24) (Operand.tmp 27) 3, none⟩, []⟩]) (.cond (Operand.tmp 28) .skip (.exit 0))) (.seq (.block 1 (.seq (.reg [⟨⟨some 31, Op.move (Operand.tmp 5), none⟩, []⟩,
  ⟨⟨some 32, Op.binOp BinOp.add 3 (Operand.tmp 31) (Operand.const (Value.int IntKind.i64 1)) 3, none⟩, []⟩,
  ⟨⟨some 6, Op.assign (Operand.tmp 32), none⟩, []⟩]) (.block 2 (.loop (.seq (.seq (.reg [⟨⟨some 33, Op.move (Operand.tmp 6), none⟩, []⟩,
  ⟨⟨some 34, Op.fieldAddr 40 (Operand.tmp 4) 0, none⟩, []⟩,
  ⟨⟨some 35, Op.load 38 (Operand.tmp 34), none⟩, []⟩,
  ⟨⟨some 36, Op.call { callee := (Callee.builtin Builtin.len), args := #[(Operand.tmp 35)], argTypes := #[38] }, none⟩, []⟩,
  ⟨⟨some 37, Op.binOp BinOp.lss 3 (Operand.tmp 33) (Operand.tmp 36) 3, none⟩, []⟩]) (.cond (Operand.tmp 37) .skip (.exit 2))) (.seq (.block 3 (.seq (.reg [⟨⟨some 40, Op.fieldAddr 40 (Operand.tmp 4) 0, none⟩, []⟩,
  ⟨⟨some 41, Op.load 38 (Operand.tmp 40), none⟩, []⟩,
  ⟨⟨some 42, Op.move (Operand.tmp 5), none⟩, []⟩,
  ⟨⟨some 43, Op.indexAddr 38 (Operand.tmp 41) (Operand.tmp 42), none⟩, []⟩,
  ⟨⟨some 44, Op.load 32 (Operand.tmp 43), none⟩, []⟩,
  ⟨⟨some 45, Op.fieldAddr 40 (Operand.tmp 4) 0, none⟩, []⟩,
  ⟨⟨some 46, Op.load 38 (Operand.tmp 45), none⟩, []⟩,
  ⟨⟨some 47, Op.move (Operand.tmp 6), none⟩, []⟩,
  ⟨⟨some 48, Op.indexAddr 38 (Operand.tmp 46) (Operand.tmp 47), none⟩, []⟩,
  ⟨⟨some 49, Op.load 32 (Operand.tmp 48), none⟩, []⟩,
  ⟨⟨some 50, Op.call { callee := (Callee.value (Operand.func 74)), args := #[(Operand.tmp 44), (Operand.tmp 49)], argTypes := #[32, 32] }, none⟩, []⟩,
  ⟨⟨some 7, Op.assign (Operand.tmp 50), none⟩, []⟩]) (.seq (.reg [⟨⟨some 51, Op.move (Operand.tmp 7), none⟩, []⟩,
  ⟨⟨some 52, Op.call { callee := (Callee.builtin Builtin.len), args := #[(Operand.tmp 51)], argTypes := #[32] }, none⟩, []⟩,
  ⟨⟨some 53, Op.binOp BinOp.eql 3 (Operand.tmp 52) (Operand.const (Value.int IntKind.i64 2)) 3, none⟩, []⟩,
  ⟨⟨some 54, Op.move (Operand.tmp 53), none⟩, []⟩,
  ⟨⟨some 55, Op.load 28 (Operand.tmp 1), some (54, true)⟩, []⟩,
  ⟨⟨some 56, Op.move (Operand.tmp 7), some (54, true)⟩, []⟩,
  ⟨⟨some 57, Op.indexAddr 32 (Operand.tmp 56) (Operand.const (Value.int IntKind.i64 0)), some (54, true)⟩, []⟩,
  ⟨⟨some 58, Op.load 3 (Operand.tmp 57), some (54, true)⟩, []⟩,
  ⟨⟨some 59, Op.move (Operand.tmp 7), some (54, true)⟩, []⟩,
  ⟨⟨some 60, Op.indexAddr 32 (Operand.tmp 59) (Operand.const (Value.int IntKind.i64 1)), some (54, true)⟩, []⟩,
  ⟨⟨some 61, Op.load 3 (Operand.tmp 60), some (54, true)⟩, []⟩,
  ⟨⟨some 62, Op.call { callee := (Callee.value (Operand.func 75)), args := #[(Operand.tmp 55), (Operand.tmp 58), (Operand.tmp 61)], argTypes := #[28, 3, 3] }, some (54, true)⟩, []⟩,
  ⟨⟨some 63, Op.pick (Operand.tmp 54) (Operand.tmp 62) (Operand.const (Value.bool false)), none⟩, []⟩]) (.cond (Operand.tmp 63) (.reg [⟨⟨some 64, Op.fieldAddr 40 (Operand.tmp 4) 1, none⟩, []⟩,
  ⟨⟨some 65, Op.load 22 (Operand.tmp 64), none⟩, []⟩,
  ⟨⟨some 66, Op.move (Operand.tmp 5), none⟩, []⟩,
  ⟨⟨some 67, Op.move (Operand.tmp 6), none⟩, []⟩,
  ⟨⟨some 68, Op.build 76 #[(0, (Operand.tmp 66)), (1, (Operand.tmp 67))], none⟩, []⟩,
  ⟨⟨some 69, Op.buildSlice 22 1 #[(0, (Operand.tmp 68))], none⟩, []⟩,
  ⟨⟨some 70, Op.call { callee := (Callee.builtin Builtin.append), args := #[(Operand.tmp 65), (Operand.tmp 69)], argTypes := #[22, 22] }, none⟩, []⟩,
  ⟨⟨some 71, Op.fieldAddr 40 (Operand.tmp 4) 1, none⟩, []⟩,
  ⟨⟨none, Op.store 22 (Operand.tmp 71) (Operand.tmp 70), none⟩, []⟩]) .skip)))) (.reg [⟨⟨some 38, Op.move (Operand.tmp 6), none⟩, []⟩,
  ⟨⟨some 39, Op.binOp BinOp.add 3 (Operand.tmp 38) (Operand.const (Value.int IntKind.i64 1)) 3, none⟩, []⟩,
  ⟨⟨some 6, Op.assign (Operand.tmp 39), none⟩, []⟩]))))))) (.reg [⟨⟨some 29, Op.move (Operand.tmp 5), none⟩, []⟩,
  ⟨⟨some 30, Op.binOp BinOp.add 3 (Operand.tmp 29) (Operand.const (Value.int IntKind.i64 1)) 3, none⟩, []⟩,
  ⟨⟨some 5, Op.assign (Operand.tmp 30), none⟩, []⟩])))))) (.seq (.reg [⟨⟨some 72, Op.load 40 (Operand.tmp 4), none⟩, []⟩,
  ⟨⟨none, Op.store 40 (Operand.tmp 2) (Operand.tmp 72), none⟩, []⟩,
  ⟨⟨some 3, Op.assign (Operand.const (Value.bool true)), none⟩, []⟩]) .ret)))))
theorem sl28 : slim Try.f28.ntmps ords28 (Try.f28.body.getD .skip) = some cd28 := by kernel_rfl
set_option maxRecDepth 20000 in
theorem in28 {args : List Value} {H : AH} {R : Value → AH → Prop} (hl : args.length = 1) (h : ∀ (Q : Exit → Sl → AH → Prop), (∀ e s H, endA Try.prog [ResultVar.cell 2 40, ResultVar.tmp 3] R e s H → Q e s H) → wpC Try.prog cd28 Q (enterA args) H) : ACalls Try.prog 28 args H R :=
  ACalls.intro (by kernel_rfl) Try.func28 rfl (by kernel_rfl) sl28 hl (of_decide_eq_true (by kernel_rfl)) (by kernel_rfl) h
end Go.Proofs.Ythhnpchjjbjabaa.Ai

namespace Go.Proofs.Ythhnpchjjbjabaa.Ai
open Go Go.RowKit
set_option linter.unusedVariables false
set_option linter.unusedSimpArgs false

theorem mkf_1S (f : Fn) (p : Option Addr) : makeFuncA f [] [.pointer p] = some (.func f #[] (List.toArray [.pointer p])) := rfl
theorem ts_near {n : Int} {es : List (Int × Int)} (hg : Grd n es) {xs ys : List Int} (h : (dfL xs ys).length = 2) :
    decide ((minI ((dfL xs ys).getD 0 0) ((dfL xs ys).getD 1 0), maxI ((dfL xs ys).getD 0 0) ((dfL xs ys).getD 1 0)) ∈ es) = nearB es ((dfL xs ys).getD 0 0) ((dfL xs ys).getD 1 0) := by
  refine near_has hg _ _ ?_
  have := dfF_nd xs ys xs.length
  rw [List.pairwise_iff_getElem] at this
  have := this 0 1 (by show 0 < (dfL xs ys).length; omega) (by show 1 < (dfL xs ys).length; omega) (by decide)
  have e0 : (dfL xs ys).getD 0 0 = (dfF xs ys xs.length)[0]'(by show 0 < (dfL xs ys).length; omega) := by
    rw [List.getD_eq_getElem?_getD, List.getElem?_eq_getElem (by omega)]; rfl
  have e1 : (dfL xs ys).getD 1 0 = (dfF xs ys xs.length)[1]'(by show 1 < (dfL xs ys).length; omega) := by
    rw [List.getD_eq_getElem?_getD, List.getElem?_eq_getElem (by omega)]; rfl
  omega

set_option maxRecDepth 20000 in
set_option maxHeartbeats 2000000 in
theorem tsClos_c (n : Int) (v a b : Value) (es : List (Int × Int)) (xs ys : List Int) (o : Nat) (H : AH) (hr : RowP 76 H v es) (hlen : es.length ≤ 1099511627776) (ho : H[o]? = some (.cells [.int .i64 n, v] 28 false)) (hg : Grd n es)
    (ha : Row 3 H a xs) (hb : Row 3 H b ys) (hl : ys.length = xs.length) (hx : xs.length ≤ 1048576) :
    ACalls Try.prog 79 [a, b, .pointer (some ⟨o, 0, none⟩)] H fun r H' => r = .bool (tsP es xs ys) ∧ H <+: H' := by
  refine in79 rfl ?_
  intro Q hQ
  simp (maxSteps := 1000000) (disch := omega) only [cd79, S, S1, S2, S3, S4, S5, ST, eq_self, reduceIte, reduceCtorEq, Nat.reduceEqDiff, Nat.reduceAdd]
  refine CallH.by (places_c a b xs ys H ha hb hx hl) ?_
  rintro d B ⟨hd, pB⟩
  have hdr := hd.row
  have cB := pre_at pB ho
  by_cases e : (dfL xs ys).length = 2
  · have e2 : ((dfL xs ys).length : Int) = 2 := by omega
    have hc0 := hdr.cell (show 0 < (dfL xs ys).length by omega)
    rw [Nat.add_zero] at hc0
    have hc1 := hdr.cell (show 1 < (dfL xs ys).length by omega)
    simp (maxSteps := 1000000) (disch := omega) only [hdr.len Try.underlying32, decide_eq_true e2, ld_agg ag28 cs28 cB, hdr.ix Try.underlying32 cs3, Int.toNat_zero, Int.toNat_one, hc0, hc1, S, S1, S2, S3, S4, S5, ST, eq_self, reduceIte, reduceCtorEq, Nat.reduceEqDiff, Nat.reduceAdd]
    refine CallH.by (has_G n v es _ _ B (hr.pre pB) hlen) ?_
    rintro _ C ⟨rfl, pC⟩
    rw [ts_near hg e]
    have ht : tsP es xs ys = nearB es ((dfL xs ys).getD 0 0) ((dfL xs ys).getD 1 0) := by unfold tsP; rw [decide_eq_true e, Bool.true_and]
    simp (maxSteps := 1000000) (disch := omega) only [decide_eq_true e2, S, S1, S2, S3, S4, S5, ST, eq_self, reduceIte, reduceCtorEq, Nat.reduceEqDiff, Nat.reduceAdd]
    refine hQ _ _ _ ?_
    simp (maxSteps := 1000000) (disch := omega) only [S, S1, S2, S3, S4, S5, ST, eq_self, reduceIte, reduceCtorEq, Nat.reduceEqDiff, Nat.reduceAdd]
    rw [ht]
    exact ⟨rfl, pB.trans pC⟩
  · have e2 : ¬ ((dfL xs ys).length : Int) = 2 := by omega
    have ht : tsP es xs ys = false := by unfold tsP; rw [decide_eq_false e, Bool.false_and]
    simp (maxSteps := 1000000) (disch := omega) only [hdr.len Try.underlying32, decide_eq_false e2, S, S1, S2, S3, S4, S5, ST, eq_self, reduceIte, reduceCtorEq, Nat.reduceEqDiff, Nat.reduceAdd]
    refine hQ _ _ _ ?_
    simp (maxSteps := 1000000) (disch := omega) only [S, S1, S2, S3, S4, S5, ST, eq_self, reduceIte, reduceCtorEq, Nat.reduceEqDiff, Nat.reduceAdd]
    rw [ht]
    exact ⟨rfl, pB⟩

set_option maxRecDepth 20000 in
set_option maxHeartbeats 4000000 in
theorem TsI_c (n : Int) (v : Value) (es : List (Int × Int)) (H : AH) (hr : RowP 76 H v es) (hlen : es.length ≤ 1099511627776) (hes : ∀ y ∈ es, I64 y.1 ∧ I64 y.2) (hn : I64 n) :
    ACalls Try.prog 29 [.agg (List.toArray [.int .i64 n, v])] H fun r H' => ∃ a b, r = .tuple (List.toArray [.agg (List.toArray [a, b]), .bool (decide (TsOk n es))]) ∧ SpIn H.length H'.length H' a b (tsL n es) (tsS n es) ∧ H <+: H' := by
  refine in29 rfl ?_
  intro Q hQ
  simp (maxSteps := 1000000) (disch := omega) only [cd29, hr.boxG, S, S1, S2, S3, S4, S5, ST, eq_self, reduceIte, reduceCtorEq, Nat.reduceEqDiff, Nat.reduceAdd]
  generalize hA0 : H ++ [AObj.cells [.int .i64 n, v] 28 false] = A0
  have pA0 : H <+: A0 := by rw [← hA0]; exact List.prefix_append _ _
  have cA0 : A0[H.length]? = some (.cells [.int .i64 n, v] 28 false) := by rw [← hA0]; exact at_new ..
  have rA0 := hr.pre pA0
  simp (maxSteps := 1000000) (disch := omega) only [alloc_sp, S, S1, S2, S3, S4, S5, ST, eq_self, reduceIte, reduceCtorEq, Nat.reduceEqDiff, Nat.reduceAdd]
  generalize hA : A0 ++ [AObj.cells [.slice none 0 0, .slice none 0 0] 40 false] = A
  have pA1 : A0 <+: A := by rw [← hA]; exact List.prefix_append _ _
  have lA0 : A0.length = H.length + 1 := by rw [← hA0]; simp
  have cS : A[A0.length]? = some (.cells [.slice none 0 0, .slice none 0 0] 40 false) := by rw [← hA]; exact at_new ..
  have lA : A.length = A0.length + 1 := by rw [← hA]; simp
  have pA := pA0.trans pA1
  have cA := pre_at pA1 cA0
  have rA := rA0.pre pA1
  simp (maxSteps := 1000000) (disch := omega) only [ld_agg ag28 cs28 cA, S, S1, S2, S3, S4, S5, ST, eq_self, reduceIte, reduceCtorEq, Nat.reduceEqDiff, Nat.reduceAdd]
  refine CallH.by (IsGraph_c n v es A rA (by omega)) ?_
  rintro _ B ⟨rfl, pB⟩
  have cB := pre_at pB cA
  have cSB := pre_at pB cS
  have pHB := pA.trans pB
  have lB := pB.length_le
  have no : ¬ TsOk n es → ∀ s : Sl, s 2 = .pointer (some ⟨A0.length, 0, none⟩) → s 3 = .bool false → endA Try.prog [.cell 2 40, .tmp 3] (fun r H' => ∃ a b, r = .tuple (List.toArray [.agg (List.toArray [a, b]), .bool (decide (TsOk n es))]) ∧ SpIn H.length H'.length H' a b (tsL n es) (tsS n es) ∧ H <+: H') .ret s (B.set A0.length (.cells [.slice none 0 0, .slice none 0 0] 40 false)) := by
    intro h s s2 s3
    have d4 := at_set (d := .cells [.slice none 0 0, .slice none 0 0] 40 false) cSB
    refine end_cell2 _ _ _ _ _ _ _ (.agg (List.toArray [.slice none 0 0, .slice none 0 0])) (.bool false) ?_ rfl s3 rfl ⟨_, _, by rw [decide_eq_false h], ⟨H.length, Nat.le_refl _, by simp; omega, ?_, ?_⟩, ?_⟩
    · simp (maxSteps := 1000000) (disch := omega) only [s2, ld_agg ag40 cs40 d4, S, S1, S2, S3, S4, S5, ST, eq_self, reduceIte, reduceCtorEq, Nat.reduceEqDiff, Nat.reduceAdd]
    · have : tsL n es = [] := by unfold tsL; rw [if_neg h]
      rw [this]; exact .inl ⟨rfl, rfl⟩
    · have : tsS n es = [] := by unfold tsS; rw [if_neg h]
      rw [this]; exact .inl ⟨rfl, rfl⟩
    · exact pre_set pHB (by omega) _
  have hstore0 := st_ss cSB rfl none none 0 0 0 0
  by_cases e : Grd n es
  rotate_left
  · simp (maxSteps := 1000000) (disch := omega) only [decide_eq_false e, bld_sp0, hstore0, S, S1, S2, S3, S4, S5, ST, eq_self, reduceIte, reduceCtorEq, Nat.reduceEqDiff, Nat.reduceAdd]
    refine hQ _ _ _ (no (fun h => e h.1) _ ?_ ?_) <;> simp (maxSteps := 1000000) (disch := omega) only [S, S1, S2, S3, S4, S5, ST, eq_self, reduceIte, reduceCtorEq, Nat.reduceEqDiff, Nat.reduceAdd]
  by_cases e5 : n ≤ 5
  rotate_left
  · have e6 : 5 < n := by omega
    simp (maxSteps := 1000000) (disch := omega) only [decide_eq_true e, cell_of cB, decide_eq_true e6, bld_sp0, hstore0, S, S1, S2, S3, S4, S5, ST, eq_self, reduceIte, reduceCtorEq, Nat.reduceEqDiff, Nat.reduceAdd]
    refine hQ _ _ _ (no (fun h => e5 h.2) _ ?_ ?_) <;> simp (maxSteps := 1000000) (disch := omega) only [S, S1, S2, S3, S4, S5, ST, eq_self, reduceIte, reduceCtorEq, Nat.reduceEqDiff, Nat.reduceAdd]
  have e6 : ¬ 5 < n := by omega
  have hok : TsOk n es := ⟨e, e5⟩
  obtain ⟨k, hk⟩ : ∃ k : Nat, n = k := ⟨n.toNat, by have := e.1; omega⟩
  subst hk
  have hk5 : k ≤ 5 := by omega
  simp (maxSteps := 1000000) (disch := omega) only [decide_eq_true e, cell_of cB, decide_eq_false e6, S, S1, S2, S3, S4, S5, ST, eq_self, reduceIte, reduceCtorEq, Nat.reduceEqDiff, Nat.reduceAdd]
  refine CallH.by (permutations_c k B (by omega)) ?_
  rintro a C ⟨hL, pC⟩
  obtain ⟨us, r1, r2, r3⟩ := hL.parts
  obtain ⟨z1, z2, z3, z4, z5⟩ := pms_ok hk5
  have hsts : Sts C a us (pms k) := ⟨r1, r2, fun i hi => (r3 i hi).row.1, fun i hi => by
    have : (pms k).getD i [] ∈ pms k := by simp [hi]
    have := z3 _ this; omega, by omega, z1⟩
  have cC := pre_at pC cB
  have cSC := pre_at pC cSB
  have rC := rA.pre (pB.trans pC)
  have hS : StepFn C 79 [.pointer (some ⟨H.length, 0, none⟩)] (pms k) (tsP es) := fun va vb x y H2 hp2 hv hw hx hy => tsClos_c (k : Int) v va vb es x y H.length H2 (rC.pre hp2) hlen (pre_at hp2 cC) e hv hw (by rw [z3 _ hx, z3 _ hy]) (by rw [z3 _ hx]; omega)
  simp (maxSteps := 1000000) (disch := omega) only [mkf_1S, S, S1, S2, S3, S4, S5, ST, eq_self, reduceIte, reduceCtorEq, Nat.reduceEqDiff, Nat.reduceAdd]
  refine CallH.by (spaceOf_c hsts z2.1 (by omega) 79 [.pointer (some ⟨H.length, 0, none⟩)] (tsP es) hS (List.prefix_refl _)) ?_
  rintro _ D ⟨st, rfl, hst, pD⟩
  have hrowD : SpRow D a st (pms k) (steps (tsP es) (pms k)) := ⟨⟨_, (hL.row).pre pD⟩, hst.row⟩
  simp (maxSteps := 1000000) (disch := omega) only [S, S1, S2, S3, S4, S5, ST, eq_self, reduceIte, reduceCtorEq, Nat.reduceEqDiff, Nat.reduceAdd]
  refine CallH.by (orNone_c a st _ _ D hrowD (by omega) (by have := ts_steps es hk5; omega)) ?_
  rintro _ E ⟨rfl, pE⟩
  have hrowE := hrowD.pre pE
  have cSE := pre_at (pD.trans pE) cSC
  have hstore := hrowE.store cSE rfl
  simp (maxSteps := 1000000) (disch := omega) only [hstore, S, S1, S2, S3, S4, S5, ST, eq_self, reduceIte, reduceCtorEq, Nat.reduceEqDiff, Nat.reduceAdd]
  have d4 := at_set (d := .cells [a, st] 40 false) cSE
  have lC := pC.length_le
  have lD := pD.length_le
  have lE := pE.length_le
  have hpL : tsL (k : Int) es = pms k := by unfold tsL; rw [if_pos hok, Int.toNat_natCast]
  have hpP : tsS (k : Int) es = steps (tsP es) (pms k) := by unfold tsS; rw [if_pos hok, Int.toNat_natCast]
  refine hQ _ _ _ (end_cell2 _ _ _ _ _ _ _ (.agg (List.toArray [a, st])) (.bool true) ?_ rfl ?_ rfl ⟨a, st, by rw [decide_eq_true hok], ⟨C.length, by omega, by simp; omega, ?_, ?_⟩, ?_⟩)
  · simp (maxSteps := 1000000) (disch := omega) only [ld_agg ag40 cs40 d4, S, S1, S2, S3, S4, S5, ST, eq_self, reduceIte, reduceCtorEq, Nat.reduceEqDiff, Nat.reduceAdd]
  · simp (maxSteps := 1000000) (disch := omega) only [S, S1, S2, S3, S4, S5, ST, eq_self, reduceIte, reduceCtorEq, Nat.reduceEqDiff, Nat.reduceAdd]
  · rw [hpL]
    rcases hL.pre (pD.trans pE) with q | ⟨o, us', q1, q2⟩
    · exact .inl q
    · refine .inr ⟨o, us', q1, (q2.move fun j y hj1 hj2 hy => ?_).wide (by omega) (Nat.le_refl _)⟩
      rw [List.getElem?_set_ne (by omega)]; exact hy
  · rw [hpP]
    have hI := InP.of (hst.pre pE)
    rcases hI with q | ⟨o, zs, q1, q2, q3, q4, q5⟩
    · exact .inl q
    · exact .inr ⟨o, zs, q1, q2, by simpa using q3, by rw [List.getElem?_set_ne (by omega)]; exact q4, q5⟩
  · exact pre_set (pHB.trans (pC.trans (pD.trans pE))) (by omega) _

set_option maxRecDepth 20000 in
set_option maxHeartbeats 8000000 in
theorem TsS_c (n : Int) (v : Value) (es : List (Int × Int)) (H : AH) (hr : RowP 76 H v es) (hlen : es.length ≤ 1099511627776) (hes : ∀ y ∈ es, I64 y.1 ∧ I64 y.2) (hn : I64 n) :
    ACalls Try.prog 28 [.agg (List.toArray [.int .i64 n, v])] H fun r H' => ∃ a b, r = .tuple (List.toArray [.agg (List.toArray [a, b]), .bool (decide (TsOk n es))]) ∧ SpIn H.length H'.length H' a b (tsL n es) (tsS n es) ∧ H <+: H' := by
  refine in28 rfl ?_
  intro Q hQ
  simp (maxSteps := 1000000) (disch := omega) only [cd28, hr.boxG, S, S1, S2, S3, S4, S5, ST, eq_self, reduceIte, reduceCtorEq, Nat.reduceEqDiff, Nat.reduceAdd]
  generalize hA0 : H ++ [AObj.cells [.int .i64 n, v] 28 false] = A0
  have pA0 : H <+: A0 := by rw [← hA0]; exact List.prefix_append _ _
  have cA0 : A0[H.length]? = some (.cells [.int .i64 n, v] 28 false) := by rw [← hA0]; exact at_new ..
  have rA0 := hr.pre pA0
  simp (maxSteps := 1000000) (disch := omega) only [alloc_sp, S, S1, S2, S3, S4, S5, ST, eq_self, reduceIte, reduceCtorEq, Nat.reduceEqDiff, Nat.reduceAdd]
  generalize hA : A0 ++ [AObj.cells [.slice none 0 0, .slice none 0 0] 40 false] = A
  have pA1 : A0 <+: A := by rw [← hA]; exact List.prefix_append _ _
  have lA0 : A0.length = H.length + 1 := by rw [← hA0]; simp
  have cS : A[A0.length]? = some (.cells [.slice none 0 0, .slice none 0 0] 40 false) := by rw [← hA]; exact at_new ..
  have lA : A.length = A0.length + 1 := by rw [← hA]; simp
  have pA := pA0.trans pA1
  have cA := pre_at pA1 cA0
  have rA := rA0.pre pA1
  simp (maxSteps := 1000000) (disch := omega) only [ld_agg ag28 cs28 cA, S, S1, S2, S3, S4, S5, ST, eq_self, reduceIte, reduceCtorEq, Nat.reduceEqDiff, Nat.reduceAdd]
  refine CallH.by (l2Good_c n v es A rA (by omega)) ?_
  rintro _ B ⟨rfl, pB⟩
  have cB := pre_at pB cA
  have cSB := pre_at pB cS
  have pHB := pA.trans pB
  have lB := pB.length_le
  have no : ¬ TsOk n es → ∀ s : Sl, s 2 = .pointer (some ⟨A0.length, 0, none⟩) → s 3 = .bool false → endA Try.prog [.cell 2 40, .tmp 3] (fun r H' => ∃ a b, r = .tuple (List.toArray [.agg (List.toArray [a, b]), .bool (decide (TsOk n es))]) ∧ SpIn H.length H'.length H' a b (tsL n es) (tsS n es) ∧ H <+: H') .ret s (B.set A0.length (.cells [.slice none 0 0, .slice none 0 0] 40 false)) := by
    intro h s s2 s3
    have d4 := at_set (d := .cells [.slice none 0 0, .slice none 0 0] 40 false) cSB
    refine end_cell2 _ _ _ _ _ _ _ (.agg (List.toArray [.slice none 0 0, .slice none 0 0])) (.bool false) ?_ rfl s3 rfl ⟨_, _, by rw [decide_eq_false h], ⟨H.length, Nat.le_refl _, by simp; omega, ?_, ?_⟩, ?_⟩
    · simp (maxSteps := 1000000) (disch := omega) only [s2, ld_agg ag40 cs40 d4, S, S1, S2, S3, S4, S5, ST, eq_self, reduceIte, reduceCtorEq, Nat.reduceEqDiff, Nat.reduceAdd]
    · have : tsL n es = [] := by unfold tsL; rw [if_neg h]
      rw [this]; exact .inl ⟨rfl, rfl⟩
    · have : tsS n es = [] := by unfold tsS; rw [if_neg h]
      rw [this]; exact .inl ⟨rfl, rfl⟩
    · exact pre_set pHB (by omega) _
  have hstore0 := st_ss cSB rfl none none 0 0 0 0
  by_cases e : Grd n es
  rotate_left
  · simp (maxSteps := 1000000) (disch := omega) only [decide_eq_false e, bld_sp0, hstore0, S, S1, S2, S3, S4, S5, ST, eq_self, reduceIte, reduceCtorEq, Nat.reduceEqDiff, Nat.reduceAdd]
    refine hQ _ _ _ (no (fun h => e h.1) _ ?_ ?_) <;> simp (maxSteps := 1000000) (disch := omega) only [S, S1, S2, S3, S4, S5, ST, eq_self, reduceIte, reduceCtorEq, Nat.reduceEqDiff, Nat.reduceAdd]
  by_cases e5 : n ≤ 5
  rotate_left
  · have e6 : 5 < n := by omega
    simp (maxSteps := 1000000) (disch := omega) only [decide_eq_true e, cell_of cB, decide_eq_true e6, bld_sp0, hstore0, S, S1, S2, S3, S4, S5, ST, eq_self, reduceIte, reduceCtorEq, Nat.reduceEqDiff, Nat.reduceAdd]
    refine hQ _ _ _ (no (fun h => e5 h.2) _ ?_ ?_) <;> simp (maxSteps := 1000000) (disch := omega) only [S, S1, S2, S3, S4, S5, ST, eq_self, reduceIte, reduceCtorEq, Nat.reduceEqDiff, Nat.reduceAdd]
  have e6 : ¬ 5 < n := by omega
  have hok : TsOk n es := ⟨e, e5⟩
  obtain ⟨k, hk⟩ : ∃ k : Nat, n = k := ⟨n.toNat, by have := e.1; omega⟩
  subst hk
  have hk5 : k ≤ 5 := by omega
  obtain ⟨z1, z2, z3, z4, z5⟩ := pms_ok hk5
  have hpL : tsL (k : Int) es = pms k := by unfold tsL; rw [if_pos hok, Int.toNat_natCast]
  have hpP : tsS (k : Int) es = steps (tsP es) (pms k) := by unfold tsS; rw [if_pos hok, Int.toNat_natCast]
  rw [hpL, hpP] at hQ
  clear no
  simp (maxSteps := 1000000) (disch := omega) only [decide_eq_true e, cell_of cB, decide_eq_false e6, S, S1, S2, S3, S4, S5, ST, eq_self, reduceIte, reduceCtorEq, Nat.reduceEqDiff, Nat.reduceAdd]
  generalize hC1 : B ++ [AObj.cells [] 3 false] = C1
  have pC1 : B <+: C1 := by rw [← hC1]; exact List.prefix_append _ _
  have cC1 : C1[B.length]? = some (.cells (ints []) 3 false) := by rw [← hC1]; exact at_new ..
  have lC1 : C1.length = B.length + 1 := by rw [← hC1]; simp
  generalize hC2 : C1 ++ [AObj.cells [] 32 false] = C2
  have pC2 : C1 <+: C2 := by rw [← hC2]; exact List.prefix_append _ _
  have cC2 : C2[C1.length]? = some (.cells [] 32 false) := by rw [← hC2]; exact at_new ..
  have lC2 : C2.length = C1.length + 1 := by rw [← hC2]; simp
  have hw0 : Row 3 C2 (.slice (some ⟨B.length, 0, none⟩) 0 0) [] := .inr ⟨B.length, 0, ints [], false, rfl, pre_at pC2 cC1, by simp, rfl⟩
  have hin0 : InU B.length C2.length 32 3 C2 C1.length [] [] := ⟨by omega, by omega, cC2, Nat.le_refl _, fun i hi => absurd hi (by simp), fun i j _ hi _ => absurd hi (by simp)⟩
  have hpw : k ^ k ≤ 5 ^ 5 := Nat.le_trans (Nat.pow_le_pow_left hk5 k) (Nat.pow_le_pow_right (by decide) hk5)
  refine CallH.by (l9All_c k (by omega) B.length k (.slice (some ⟨B.length, 0, none⟩) 0 0) [] C1.length [] [] C2 (by simp) hw0 (.inr (.inr (by show B.length ≠ C1.length; omega))) hin0 (by simp; omega)) ?_
  rintro _ D ⟨oL, us0, rfl, hU, hkD, lCD, hoD⟩
  have eP : [] ++ pmG k k [] = pms k := rfl
  rw [eP] at hU ⊢
  have pD : B <+: D := prefix_of fun j y hy => hkD j y (by have := at_lt hy; omega) (pre_at (pC1.trans pC2) hy)
  have hL : InL B.length D.length 32 3 D (.slice (some ⟨oL, 0, none⟩) (pms k).length (pms k).length) (pms k) := hU.inl
  generalize ha : Value.slice (some ⟨oL, 0, none⟩) (pms k).length (pms k).length = a at *
  obtain ⟨us, r1, r2, r3⟩ := hL.parts
  generalize hls : pms k = ls at *
  obtain ⟨pa, hpa⟩ := r1.shape
  have lD := pD.length_le
  have hb2 := bld_sp2 pa (some ⟨D.length, 0, none⟩) us.length us.length 0 0
  rw [← hpa] at hb2
  simp (maxSteps := 1000000) (disch := omega) only [hb2, alloc_sp, S, S1, S2, S3, S4, S5, ST, eq_self, reduceIte, reduceCtorEq, Nat.reduceEqDiff, Nat.reduceAdd]
  generalize hE : D ++ [AObj.cells [] 76 false] = E
  have pE : D <+: E := by rw [← hE]; exact List.prefix_append _ _
  have lE : E.length = D.length + 1 := by rw [← hE]; simp
  have m0 : MineP 76 D E (.slice (some ⟨D.length, 0, none⟩) 0 0) [] := by rw [← hE]; exact MineP.nil0 (P := Try.prog) D D (Nat.le_refl _)
  have st1 := st_ss (at_new E (.cells [.slice none 0 0, .slice none 0 0] 40 false)) rfl pa (some ⟨D.length, 0, none⟩) us.length us.length 0 0
  rw [set_new, ← hpa] at st1
  simp (maxSteps := 1000000) (disch := omega) only [st1, S, S1, S2, S3, S4, S5, ST, eq_self, reduceIte, reduceCtorEq, Nat.reduceEqDiff, Nat.reduceAdd]
  generalize hG : E ++ [AObj.cells [a, .slice (some ⟨D.length, 0, none⟩) 0 0] 40 false] = G
  have pG : E <+: G := by rw [← hG]; exact List.prefix_append _ _
  have cG : G[E.length]? = some (.cells [a, .slice (some ⟨D.length, 0, none⟩) 0 0] 40 false) := by rw [← hG]; exact at_new ..
  have lG : G.length = E.length + 1 := by rw [← hG]; simp
  have pDG := pE.trans pG
  have cSD := pre_at pD cSB
  have cGD := pre_at pD cB
  have rD := rA.pre (pB.trans pD)
  have pHD := pHB.trans pD
  have rowA : ∀ {H'}, D <+: H' → RowV 32 H' a us := fun hp => r1.pre hp
  have rowI : ∀ {H'} (i : Nat), i < ls.length → D <+: H' → Row 3 H' (us.getD i undef) (ls.getD i []) := fun i hi hp => (r3 i hi).row.1.pre hp
  have sm : ∀ i, i < ls.length → (ls.getD i []).length = k := fun i hi => z3 _ (by simp [hi])
  refine LoopH.by (fun m s H' => ∃ i st, m + i = ls.length ∧ s 1 = .pointer (some ⟨H.length, 0, none⟩) ∧ s 2 = .pointer (some ⟨A0.length, 0, none⟩) ∧ s 4 = .pointer (some ⟨E.length, 0, none⟩) ∧ s 5 = .int .i64 ((i : Nat) : Int) ∧ H'[E.length]? = some (.cells [a, st] 40 false) ∧ (rowO st = D.length ∨ G.length ≤ rowO st) ∧ st ≠ .slice none 0 0 ∧ MineP 76 D H' st (stpO (tsP es) ls i) ∧ D <+: H') ls.length ?_ ?_
  · exact ⟨0, .slice (some ⟨D.length, 0, none⟩) 0 0, by simp, rfl, rfl, rfl, rfl, cG, .inl rfl, (by intro e; cases e), m0.pre pG, pDG⟩
  rintro m s H' ⟨i, st, hm, s1, s2, s4, s5, hc5, hst, hsn, hmn, hpp⟩
  simp (maxSteps := 1000000) (disch := omega) only [s1, s2, s4, s5, cell_of hc5, (rowA hpp).len Try.underlying38, r2, S, S1, S2, S3, S4, S5, ST, eq_self, reduceIte, reduceCtorEq, Nat.reduceEqDiff, Nat.reduceAdd]
  refine brD.intro (fun g => ?_) (fun g => ?_)
  rotate_left
  · have hi : i = ls.length := by omega
    subst hi
    have hrow : SpRow H' a st ls (stpO (tsP es) ls ls.length) := ⟨⟨_, hL.row.pre hpp⟩, hmn.row⟩
    have cAH := pre_at hpp cSD
    have hstore := hrow.store cAH rfl
    simp (maxSteps := 1000000) (disch := omega) only [s1, s2, s4, ld_agg ag40 cs40 hc5, hstore, S, S1, S2, S3, S4, S5, ST, eq_self, reduceIte, reduceCtorEq, Nat.reduceEqDiff, Nat.reduceAdd]
    have d4 := at_set (d := .cells [a, st] 40 false) cAH
    have lH' := hpp.length_le
    refine hQ _ _ _ (end_cell2 _ _ _ _ _ _ _ (.agg (List.toArray [a, st])) (.bool true) ?_ rfl ?_ rfl ⟨a, st, by rw [decide_eq_true hok], ⟨D.length, by omega, by simp; omega, ?_, ?_⟩, ?_⟩)
    · simp (maxSteps := 1000000) (disch := omega) only [s2, ld_agg ag40 cs40 d4, S, S1, S2, S3, S4, S5, ST, eq_self, reduceIte, reduceCtorEq, Nat.reduceEqDiff, Nat.reduceAdd]
    · simp (maxSteps := 1000000) (disch := omega) only [S, S1, S2, S3, S4, S5, ST, eq_self, reduceIte, reduceCtorEq, Nat.reduceEqDiff, Nat.reduceAdd]
    · rcases hL.pre hpp with q | ⟨o, us', q1, q2⟩
      · exact .inl q
      · refine .inr ⟨o, us', q1, (q2.move fun j y hj1 hj2 hy => ?_).wide (by omega) (Nat.le_refl _)⟩
        rw [List.getElem?_set_ne (by omega)]; exact hy
    · rcases InP.of hmn with q | ⟨o, zs, q1, q2, q3, q4, q5⟩
      · exact .inl q
      · exact .inr ⟨o, zs, q1, q2, by simpa using q3, by rw [List.getElem?_set_ne (by omega)]; exact q4, q5⟩
    · exact pre_set (pHD.trans hpp) (by omega) _
  have hi : i < ls.length := by omega
  simp (maxSteps := 1000000) (disch := omega) only [s1, s2, s4, s5, wrap64, S, S1, S2, S3, S4, S5, ST, eq_self, reduceIte, reduceCtorEq, Nat.reduceEqDiff, Nat.reduceAdd]
  refine LoopH.by (fun m' s' H'' => ∃ j st', m' + j = ls.length - (i + 1) ∧ s' 1 = .pointer (some ⟨H.length, 0, none⟩) ∧ s' 2 = .pointer (some ⟨A0.length, 0, none⟩) ∧ s' 4 = .pointer (some ⟨E.length, 0, none⟩) ∧ s' 5 = .int .i64 ((i : Nat) : Int) ∧ s' 6 = .int .i64 ((i + 1 + j : Nat) : Int) ∧ H''[E.length]? = some (.cells [a, st'] 40 false) ∧ (rowO st' = D.length ∨ G.length ≤ rowO st') ∧ st' ≠ .slice none 0 0 ∧ MineP 76 D H'' st' (stpO (tsP es) ls i ++ stpI (tsP es) ls i j) ∧ D <+: H'') (ls.length - (i + 1)) ?_ ?_
  · refine ⟨0, st, by simp, ?_⟩
    simp only [S, S1, S2, S3, S4, S5, ST, eq_self, reduceIte, reduceCtorEq, Nat.reduceEqDiff, Nat.reduceAdd, s1, s2, s4, s5]
    have f0 : MineP 76 D H' st (stpO (tsP es) ls i ++ stpI (tsP es) ls i 0) := by rw [stpI, List.append_nil]; exact hmn
    (repeat' first | exact hc5 | exact hst | exact hsn | exact f0 | exact hpp | apply And.intro) <;> first | (simp only [Value.int.injEq, true_and]; omega) | omega | rfl | assumption | (simp; done) | (simp; omega)
  · rintro m' s' H'' ⟨j, st', hm', g1, g2, g4, g5, g6, hc5', hst', hsn', hmn', hpp'⟩
    simp (maxSteps := 1000000) (disch := omega) only [g1, g2, g4, g5, g6, cell_of hc5', (rowA hpp').len Try.underlying38, r2, S, S1, S2, S3, S4, S5, ST, eq_self, reduceIte, reduceCtorEq, Nat.reduceEqDiff, Nat.reduceAdd]
    refine brD.intro (fun q => ?_) (fun q => ?_)
    · have hj : i + 1 + j < ls.length := by omega
      have hci := (rowA hpp').cell (show i < us.length by omega)
      have hcj := (rowA hpp').cell (show i + 1 + j < us.length by omega)
      simp (maxSteps := 1000000) (disch := omega) only [g1, g2, g4, g5, g6, cell_of hc5', (rowA hpp').ix Try.underlying38 cs32, Int.toNat_natCast, hci, hcj, S, S1, S2, S3, S4, S5, ST, eq_self, reduceIte, reduceCtorEq, Nat.reduceEqDiff, Nat.reduceAdd]
      refine CallH.by (l5Changed_c _ _ _ _ H'' (rowI i hi hpp') (rowI (i + 1 + j) hj hpp') (by rw [sm i hi]; omega) (by rw [sm i hi, sm _ hj])) ?_
      rintro u K ⟨hu, pK⟩
      have hcK := pre_at pK hc5'
      have hpK := hpp'.trans pK
      have hmK := hmn'.pre pK
      have hcg := pre_at hpK cGD
      have hur := hu.row
      have hsl1 := stpO_len (tsP es) ls i
      have hsl2 := stpI_len (tsP es) ls i j
      have hmul : i * ls.length ≤ 132 * 132 := Nat.mul_le_mul (by omega) (by omega)
      have lK := hpK.length_le
      have l5 := at_lt hc5'
      have hne : ∀ o, o = E.length → o ≠ rowO st' := fun o ho => by omega
      by_cases e : (dfL (ls.getD i []) (ls.getD (i + 1 + j) [])).length = 2
      rotate_left
      · have e2 : ¬ ((dfL (ls.getD i []) (ls.getD (i + 1 + j) [])).length : Int) = 2 := by omega
        have ht : tsP es (ls.getD i []) (ls.getD (i + 1 + j) []) = false := by unfold tsP; rw [decide_eq_false e, Bool.false_and]
        have hstep : stpI (tsP es) ls i (j + 1) = stpI (tsP es) ls i j := by rw [stpI, if_neg (by rw [ht]; decide), List.append_nil]
        rw [← hstep] at hmK
        simp (maxSteps := 1000000) (disch := omega) only [hur.len Try.underlying32, decide_eq_false e2, g1, g2, g4, g5, g6, wrap64, S, S1, S2, S3, S4, S5, ST, eq_self, reduceIte, reduceCtorEq, Nat.reduceEqDiff, Nat.reduceAdd]
        refine ⟨m' - 1, by omega, j + 1, st', ?_⟩
        (repeat' first | exact hcK | exact hst' | exact hsn' | exact hmK | exact hpK | apply And.intro) <;> first | (simp only [Value.int.injEq, true_and]; omega) | omega | rfl | assumption | (simp; done) | (simp; omega)
      have e2 : ((dfL (ls.getD i []) (ls.getD (i + 1 + j) [])).length : Int) = 2 := by omega
      have hc0 := hur.cell (show 0 < (dfL (ls.getD i []) (ls.getD (i + 1 + j) [])).length by omega)
      rw [Nat.add_zero] at hc0
      have hc1 := hur.cell (show 1 < (dfL (ls.getD i []) (ls.getD (i + 1 + j) [])).length by omega)
      have htp : tsP es (ls.getD i []) (ls.getD (i + 1 + j) []) = nearB es ((dfL (ls.getD i []) (ls.getD (i + 1 + j) [])).getD 0 0) ((dfL (ls.getD i []) (ls.getD (i + 1 + j) [])).getD 1 0) := by unfold tsP; rw [decide_eq_true e, Bool.true_and]
      simp (maxSteps := 1000000) (disch := omega) only [hur.len Try.underlying32, decide_eq_true e2, g1, g2, g4, g5, g6, ld_agg ag28 cs28 hcg, hur.ix Try.underlying32 cs3, Int.toNat_zero, Int.toNat_one, hc0, hc1, S, S1, S2, S3, S4, S5, ST, eq_self, reduceIte, reduceCtorEq, Nat.reduceEqDiff, Nat.reduceAdd]
      refine CallH.by (l2Near_c (k : Int) v es _ _ K (rD.pre hpK) hlen) ?_
      rintro _ J ⟨rfl, pJ⟩
      rw [← htp]
      have hcJ := pre_at pJ hcK
      have hmJ := hmK.pre pJ
      have hpJ := hpK.trans pJ
      have lKJ := pJ.length_le
      cases ht : tsP es (ls.getD i []) (ls.getD (i + 1 + j) []) with
      | false =>
        have hstep : stpI (tsP es) ls i (j + 1) = stpI (tsP es) ls i j := by rw [stpI, if_neg (by rw [ht]; decide), List.append_nil]
        rw [← hstep] at hmJ
        simp (maxSteps := 1000000) (disch := omega) only [decide_eq_true e2, g1, g2, g4, g5, g6, wrap64, S, S1, S2, S3, S4, S5, ST, eq_self, reduceIte, reduceCtorEq, Nat.reduceEqDiff, Nat.reduceAdd]
        refine ⟨m' - 1, by omega, j + 1, st', ?_⟩
        (repeat' first | exact hcJ | exact hst' | exact hsn' | exact hmJ | exact hpJ | apply And.intro) <;> first | (simp only [Value.int.injEq, true_and]; omega) | omega | rfl | assumption | (simp; done) | (simp; omega)
      | true =>
        have hstep : stpI (tsP es) ls i (j + 1) = stpI (tsP es) ls i j ++ [((i : Int), ((i + 1 + j : Nat) : Int))] := by rw [stpI, if_pos ht]
        obtain ⟨st2, H3, k1, k2, k3, k4, k5, k6⟩ := own1_22 hmJ hpJ (by rw [List.length_append]; omega) (i : Int) ((i + 1 + j : Nat) : Int)
        have d5 : H3[E.length]? = some (.cells [a, st'] 40 false) := k4 _ _ (.inr (hne _ rfl)) hcJ
        obtain ⟨q2, hq2⟩ := k2.row.shape
        have t2 : st2.cells.toList = [st2] := by rw [hq2]; rfl
        have hst3 := st_at (P := Try.prog) (t := 22) (i := 1) (y := st2) cs22 d5 (by show 1 < 2; decide) k6 t2
        have lGJ : G.length ≤ J.length := by have := pK.length_le; omega
        simp (maxSteps := 1000000) (disch := omega) only [decide_eq_true e2, g1, g2, g4, g5, g6, cell_of hcJ, build_a2, wrap64, k1, hst3, S, S1, S2, S3, S4, S5, ST, eq_self, reduceIte, reduceCtorEq, Nat.reduceEqDiff, Nat.reduceAdd]
        have f5 : (H3.set E.length (.cells ([a, st'].set 1 st2) 40 false))[E.length]? = some (.cells [a, st2] 40 false) := by
          rw [List.getElem?_set_self (at_lt d5)]; rfl
        have fs1 : rowO st2 = D.length ∨ G.length ≤ rowO st2 := .inr (by omega)
        have fs2 : st2 ≠ .slice none 0 0 := by
          intro hh
          rw [hh] at k5
          have : rowO (Value.slice none 0 0) = 0 := rfl
          omega
        have fm : MineP 76 D (H3.set E.length (.cells ([a, st'].set 1 st2) 40 false)) st2 (stpO (tsP es) ls i ++ stpI (tsP es) ls i (j + 1)) := by
          rw [hstep, ← List.append_assoc]
          exact k2.keepL fun hl y hy => by rw [List.getElem?_set_ne (by omega)]; exact hy
        have fp : D <+: H3.set E.length (.cells ([a, st'].set 1 st2) 40 false) := pre_set k3 (by omega) _
        refine ⟨m' - 1, by omega, j + 1, st2, ?_⟩
        (repeat' first | exact f5 | exact fs1 | exact fs2 | exact fm | exact fp | apply And.intro) <;> first | (simp only [Value.int.injEq, true_and]; omega) | omega | rfl | assumption | (simp; done) | (simp; omega)
    · have hjj : j = ls.length - (i + 1) := by omega
      subst hjj
      have hstO : stpO (tsP es) ls (i + 1) = stpO (tsP es) ls i ++ stpI (tsP es) ls i (ls.length - (i + 1)) := rfl
      rw [← hstO] at hmn'
      simp (maxSteps := 1000000) (disch := omega) only [g1, g2, g4, g5, g6, wrap64, S, S1, S2, S3, S4, S5, ST, eq_self, reduceIte, reduceCtorEq, Nat.reduceEqDiff, Nat.reduceAdd]
      refine ⟨m - 1, by omega, i + 1, st', ?_⟩
      (repeat' first | exact hc5' | exact hst' | exact hsn' | exact hmn' | exact hpp' | apply And.intro) <;> first | (simp only [Value.int.injEq, true_and]; omega) | omega | rfl | assumption | (simp; done) | (simp; omega)

theorem ts_ok (n : Int) (es : List (Int × Int)) : (tsL n es).length ≤ 1099511627776 ∧ sizeL (tsL n es) ≤ 549755813888 ∧ (tsS n es).length ≤ 1099511627776 := by
  unfold tsL tsS
  split
  · rename_i hk
    have hk5 : n.toNat ≤ 5 := by have := hk.2; omega
    obtain ⟨z1, z2, z3, z4, z5⟩ := pms_ok hk5
    have h4 := ts_steps es hk5
    have h6 : ∀ (ls : List (List Int)), (∀ l ∈ ls, l.length ≤ 5) → sizeL ls ≤ ls.length * 5 := by
      intro ls
      induction ls with
      | nil => intro _; simp [sizeL]
      | cons l ls ih =>
        intro hl
        have := ih (fun x hx => hl x (by simp [hx]))
        have := hl l (by simp)
        simp only [sizeL, List.map_cons, List.sum_cons, List.length_cons, Nat.add_mul, Nat.one_mul] at *
        omega
    have h7 := h6 (pms n.toNat) (fun l hl => by rw [z3 _ hl]; omega)
    exact ⟨by omega, by omega, by omega⟩
  · simp [sizeL]
end Go.Proofs.Ythhnpchjjbjabaa.Ai
