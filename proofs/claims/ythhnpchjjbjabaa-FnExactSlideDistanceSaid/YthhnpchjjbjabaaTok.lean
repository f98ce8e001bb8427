/- Tokens on the nodes of a graph: valid boards, slides, both sides. -/
import Derived.Test.YthhnpchjjbjabaaNear
import Derived.Test.YthhnpchjjbjabaaSwp
import Derived.Test.YthhnpchjjbjabaaIndex
import Derived.Test.YthhnpchjjbjabaaAppL
import Derived.Test.YthhnpchjjbjabaaPerm
import Derived.Test.YthhnpchjjbjabaaProg
import Derived.Test.YthhnpchjjbjabaaAiM2
import Derived.KernelRfl
/- Slim code of this translation. By the kernel. -/
namespace Go.Proofs.Ythhnpchjjbjabaa.Ai
open Go

/- loop.example/g01128/impl.isTokens -/
def ords83 : List (Nat × List (Nat × Bool)) := []
def cd83 : Cd := (.seq (.reg [⟨⟨some 2, Op.box 28 (Operand.tmp 0), none⟩, []⟩,
  ⟨⟨some 4, Op.assign (Operand.const (Value.bool false)), none⟩, []⟩]) (.seq (.reg [⟨⟨some 5, Op.load 28 (Operand.tmp 2), none⟩, []⟩,
  ⟨⟨some 6, Op.call { callee := (Callee.value (Operand.func 60)), args := #[(Operand.tmp 5)], argTypes := #[28] }, none⟩, []⟩,
  ⟨⟨some 7, Op.move (Operand.tmp 6), none⟩, []⟩,
  ⟨⟨some 8, Op.move (Operand.tmp 1), some (7, true)⟩, []⟩,
  ⟨⟨some 9, Op.call { callee := (Callee.value (Operand.func 132)), args := #[(Operand.tmp 8)], argTypes := #[32] }, some (7, true)⟩, []⟩,
  ⟨⟨some 10, Op.pick (Operand.tmp 7) (Operand.tmp 9) (Operand.const (Value.bool false)), none⟩, []⟩,
  ⟨⟨some 11, Op.move (Operand.tmp 10), none⟩, []⟩,
  ⟨⟨some 12, Op.move (Operand.tmp 1), some (11, true)⟩, []⟩,
  ⟨⟨some 13, Op.call { callee := (Callee.builtin Builtin.len), args := #[(Operand.tmp 12)], argTypes := #[32] }, some (11, true)⟩, []⟩,
  ⟨⟨some 14, Op.fieldAddr 28 (Operand.tmp 2) 0, some (11, true)⟩, []⟩,
  ⟨⟨some 15, Op.load 3 (Operand.tmp 14), some (11, true)⟩, []⟩,
  ⟨⟨some 16, Op.binOp BinOp.eql 3 (Operand.tmp 13) (Operand.tmp 15) 3, some (11, true)⟩, []⟩,
  ⟨⟨some 17, Op.pick (Operand.tmp 11) (Operand.tmp 16) (Operand.const (Value.bool false)), none⟩, []⟩,
  ⟨⟨some 4, Op.assign (Operand.tmp 17), none⟩, []⟩]) .ret))
theorem sl83 : slim Try.f83.ntmps ords83 (Try.f83.body.getD .skip) = some cd83 := by kernel_rfl
theorem in83 {args : List Value} {H : AH} {R : Value → AH → Prop} (hl : args.length = 2) (h : ∀ (Q : Exit → Sl → AH → Prop), (∀ e s H, endA Try.prog [ResultVar.tmp 4] R e s H → Q e s H) → wpC Try.prog cd83 Q (enterA args) H) : ACalls Try.prog 83 args H R :=
  ACalls.intro (by kernel_rfl) Try.func83 rfl (by kernel_rfl) sl83 hl (of_decide_eq_true (by kernel_rfl)) (by kernel_rfl) h

/- loop.example/g01128/impl.isBoard -/
def ords70 : List (Nat × List (Nat × Bool)) := []
def cd70 : Cd := (.seq (.reg [⟨⟨some 2, Op.box 28 (Operand.tmp 0), none⟩, []⟩,
  ⟨⟨some 4, Op.assign (Operand.const (Value.bool false)), none⟩, []⟩]) (.seq (.reg [⟨⟨some 5, Op.load 28 (Operand.tmp 2), none⟩, []⟩,
  ⟨⟨some 6, Op.move (Operand.tmp 1), none⟩, []⟩,
  ⟨⟨some 7, Op.call { callee := (Callee.value (Operand.func 83)), args := #[(Operand.tmp 5), (Operand.tmp 6)], argTypes := #[28, 32] }, none⟩, []⟩,
  ⟨⟨some 8, Op.move (Operand.tmp 7), none⟩, []⟩,
  ⟨⟨some 9, Op.fieldAddr 28 (Operand.tmp 2) 0, some (8, true)⟩, []⟩,
  ⟨⟨some 10, Op.load 3 (Operand.tmp 9), some (8, true)⟩, []⟩,
  ⟨⟨some 11, Op.call { callee := (Callee.value (Operand.func 96)), args := #[(Operand.tmp 10), (Operand.const (Value.int IntKind.i64 1)), (Operand.const (Value.int IntKind.i64 6))], argTypes := #[3, 3, 3] }, some (8, true)⟩, []⟩,
  ⟨⟨some 12, Op.pick (Operand.tmp 8) (Operand.tmp 11) (Operand.const (Value.bool false)), none⟩, []⟩,
  ⟨⟨some 4, Op.assign (Operand.tmp 12), none⟩, []⟩]) .ret))
theorem sl70 : slim Try.f70.ntmps ords70 (Try.f70.body.getD .skip) = some cd70 := by kernel_rfl
theorem in70 {args : List Value} {H : AH} {R : Value → AH → Prop} (hl : args.length = 2) (h : ∀ (Q : Exit → Sl → AH → Prop), (∀ e s H, endA Try.prog [ResultVar.tmp 4] R e s H → Q e s H) → wpC Try.prog cd70 Q (enterA args) H) : ACalls Try.prog 70 args H R :=
  ACalls.intro (by kernel_rfl) Try.func70 rfl (by kernel_rfl) sl70 hl (of_decide_eq_true (by kernel_rfl)) (by kernel_rfl) h

/- loop.example/g01128/spec.l9Field -/
def ords64 : List (Nat × List (Nat × Bool)) := []
def cd64 : Cd := (.seq (.reg [⟨⟨some 2, Op.box 28 (Operand.tmp 0), none⟩, []⟩,
  ⟨⟨some 4, Op.assign (Operand.const (Value.bool false)), none⟩, []⟩]) (.seq (.reg [⟨⟨some 5, Op.load 28 (Operand.tmp 2), none⟩, []⟩,
  ⟨⟨some 6, Op.call { callee := (Callee.value (Operand.func 57)), args := #[(Operand.tmp 5)], argTypes := #[28] }, none⟩, []⟩,
  ⟨⟨some 7, Op.move (Operand.tmp 6), none⟩, []⟩,
  ⟨⟨some 8, Op.fieldAddr 28 (Operand.tmp 2) 0, some (7, true)⟩, []⟩,
  ⟨⟨some 9, Op.load 3 (Operand.tmp 8), some (7, true)⟩, []⟩,
  ⟨⟨some 10, Op.binOp BinOp.leq 3 (Operand.tmp 9) (Operand.const (Value.int IntKind.i64 6)) 3, some (7, true)⟩, []⟩,
  ⟨⟨some 11, Op.pick (Operand.tmp 7) (Operand.tmp 10) (Operand.const (Value.bool false)), none⟩, []⟩,
  ⟨⟨some 12, Op.move (Operand.tmp 11), none⟩, []⟩,
  ⟨⟨some 13, Op.move (Operand.tmp 1), some (12, true)⟩, []⟩,
  ⟨⟨some 14, Op.call { callee := (Callee.builtin Builtin.len), args := #[(Operand.tmp 13)], argTypes := #[32] }, some (12, true)⟩, []⟩,
  ⟨⟨some 15, Op.fieldAddr 28 (Operand.tmp 2) 0, some (12, true)⟩, []⟩,
  ⟨⟨some 16, Op.load 3 (Operand.tmp 15), some (12, true)⟩, []⟩,
  ⟨⟨some 17, Op.binOp BinOp.eql 3 (Operand.tmp 14) (Operand.tmp 16) 3, some (12, true)⟩, []⟩,
  ⟨⟨some 18, Op.pick (Operand.tmp 12) (Operand.tmp 17) (Operand.const (Value.bool false)), none⟩, []⟩,
  ⟨⟨some 19, Op.move (Operand.tmp 18), none⟩, []⟩,
  ⟨⟨some 20, Op.move (Operand.tmp 1), some (19, true)⟩, []⟩,
  ⟨⟨some 21, Op.call { callee := (Callee.value (Operand.func 119)), args := #[(Operand.tmp 20)], argTypes := #[32] }, some (19, true)⟩, []⟩,
  ⟨⟨some 22, Op.pick (Operand.tmp 19) (Operand.tmp 21) (Operand.const (Value.bool false)), none⟩, []⟩,
  ⟨⟨some 4, Op.assign (Operand.tmp 22), none⟩, []⟩]) .ret))
theorem sl64 : slim Try.f64.ntmps ords64 (Try.f64.body.getD .skip) = some cd64 := by kernel_rfl
theorem in64 {args : List Value} {H : AH} {R : Value → AH → Prop} (hl : args.length = 2) (h : ∀ (Q : Exit → Sl → AH → Prop), (∀ e s H, endA Try.prog [ResultVar.tmp 4] R e s H → Q e s H) → wpC Try.prog cd64 Q (enterA args) H) : ACalls Try.prog 64 args H R :=
  ACalls.intro (by kernel_rfl) Try.func64 rfl (by kernel_rfl) sl64 hl (of_decide_eq_true (by kernel_rfl)) (by kernel_rfl) h

/- loop.example/g01128/spec.l9Board -/
def ords69 : List (Nat × List (Nat × Bool)) := []
def cd69 : Cd := (.seq (.reg [⟨⟨some 2, Op.box 28 (Operand.tmp 0), none⟩, []⟩,
  ⟨⟨some 4, Op.assign (Operand.const (Value.bool false)), none⟩, []⟩]) (.seq (.reg [⟨⟨some 5, Op.load 28 (Operand.tmp 2), none⟩, []⟩,
  ⟨⟨some 6, Op.move (Operand.tmp 1), none⟩, []⟩,
  ⟨⟨some 7, Op.call { callee := (Callee.value (Operand.func 64)), args := #[(Operand.tmp 5), (Operand.tmp 6)], argTypes := #[28, 32] }, none⟩, []⟩,
  ⟨⟨some 8, Op.move (Operand.tmp 7), none⟩, []⟩,
  ⟨⟨some 9, Op.fieldAddr 28 (Operand.tmp 2) 0, some (8, true)⟩, []⟩,
  ⟨⟨some 10, Op.load 3 (Operand.tmp 9), some (8, true)⟩, []⟩,
  ⟨⟨some 11, Op.binOp BinOp.gtr 3 (Operand.tmp 10) (Operand.const (Value.int IntKind.i64 0)) 3, some (8, true)⟩, []⟩,
  ⟨⟨some 12, Op.pick (Operand.tmp 8) (Operand.tmp 11) (Operand.const (Value.bool false)), none⟩, []⟩,
  ⟨⟨some 4, Op.assign (Operand.tmp 12), none⟩, []⟩]) .ret))
theorem sl69 : slim Try.f69.ntmps ords69 (Try.f69.body.getD .skip) = some cd69 := by kernel_rfl
theorem in69 {args : List Value} {H : AH} {R : Value → AH → Prop} (hl : args.length = 2) (h : ∀ (Q : Exit → Sl → AH → Prop), (∀ e s H, endA Try.prog [ResultVar.tmp 4] R e s H → Q e s H) → wpC Try.prog cd69 Q (enterA args) H) : ACalls Try.prog 69 args H R :=
  ACalls.intro (by kernel_rfl) Try.func69 rfl (by kernel_rfl) sl69 hl (of_decide_eq_true (by kernel_rfl)) (by kernel_rfl) h

/- (loop.example/g01128/impl.Graph).slides -/
def ords100 : List (Nat × List (Nat × Bool)) := []
def cd100 : Cd := (.seq (.reg [⟨⟨some 2, Op.box 28 (Operand.tmp 0), none⟩, []⟩,
  ⟨⟨some 4, Op.assign (Operand.const (Value.slice none 0 0)), none⟩, []⟩,
  ⟨⟨some 5, Op.assign (Operand.const (Value.slice none 0 0)), none⟩, []⟩]) (.seq (.reg [⟨⟨some 11, Op.move (Operand.tmp 1), none⟩, []⟩,
  ⟨⟨some 12, Op.call { callee := (Callee.value (Operand.func 147)), args := #[(Operand.tmp 11), (Operand.const (Value.int IntKind.i64 0))], argTypes := #[32, 3] }, none⟩, []⟩,
  ⟨⟨some 6, Op.assign (Operand.tmp 12), none⟩, []⟩]) (.seq (.reg [⟨⟨some 13, Op.buildSlice 38 0 #[], none⟩, []⟩,
  ⟨⟨some 14, Op.load 28 (Operand.tmp 2), none⟩, []⟩,
  ⟨⟨some 15, Op.move (Operand.tmp 6), none⟩, []⟩,
  ⟨⟨some 16, Op.call { callee := (Callee.value (Operand.func 148)), args := #[(Operand.tmp 14), (Operand.tmp 15)], argTypes := #[28, 3] }, none⟩, []⟩,
  ⟨⟨some 7, Op.assign (Operand.tmp 13), none⟩, []⟩,
  ⟨⟨some 8, Op.assign (Operand.tmp 16), none⟩, []⟩]) (.seq (.seq (.reg [⟨⟨some 17, Op.move (Operand.tmp 8), none⟩, []⟩,
  ⟨⟨some 18, Op.call { callee := (Callee.builtin Builtin.len), args := #[(Operand.tmp 17)], argTypes := #[32] }, none⟩, []⟩,
  ⟨⟨some 19, Op.move (Operand.const (Value.int IntKind.i64 0)), none⟩, []⟩]) (.block 0 (.loop (.seq (.reg [⟨⟨some 20, Op.binOp BinOp.lss 3 (Operand.tmp 19) (Operand.tmp 18) 3, none⟩, []⟩]) (.seq (.cond (Operand.tmp 20) .skip (.exit 0)) (.seq (.block 1 (.seq (.reg [⟨⟨some 21, Op.indexAddr 32 (Operand.tmp 17) (Operand.tmp 19), none⟩, []⟩,
  ⟨⟨some 22, Op.load 3 (Operand.tmp 21), none⟩, []⟩,
  ⟨⟨some 10, Op.assign (Operand.tmp 22), none⟩, []⟩]) (.reg [⟨⟨some 23, Op.move (Operand.tmp 7), none⟩, []⟩,
  ⟨⟨some 24, Op.move (Operand.tmp 1), none⟩, []⟩,
  ⟨⟨some 25, Op.move (Operand.tmp 10), none⟩, []⟩,
  ⟨⟨some 26, Op.move (Operand.tmp 6), none⟩, []⟩,
  ⟨⟨some 27, Op.build 76 #[(0, (Operand.tmp 25)), (1, (Operand.tmp 26))], none⟩, []⟩,
  ⟨⟨some 28, Op.call { callee := (Callee.value (Operand.func 133)), args := #[(Operand.tmp 24), (Operand.tmp 27)], argTypes := #[32, 76] }, none⟩, []⟩,
  ⟨⟨some 29, Op.buildSlice 38 1 #[(0, (Operand.tmp 28))], none⟩, []⟩,
  ⟨⟨some 30, Op.call { callee := (Callee.builtin Builtin.append), args := #[(Operand.tmp 23), (Operand.tmp 29)], argTypes := #[38, 38] }, none⟩, []⟩,
  ⟨⟨some 7, Op.assign (Operand.tmp 30), none⟩, []⟩]))) (.reg [⟨⟨some 31, Op.binOp BinOp.add 3 (Operand.tmp 19) (Operand.const (Value.int IntKind.i64 1)) 3, none⟩, []⟩,
  ⟨⟨some 19, Op.move (Operand.tmp 31), none⟩, []⟩]))))))) (.seq (.reg [⟨⟨some 32, Op.move (Operand.tmp 7), none⟩, []⟩,
  ⟨⟨some 33, Op.move (Operand.tmp 8), none⟩, []⟩,
  ⟨⟨some 4, Op.assign (Operand.tmp 32), none⟩, []⟩,
  ⟨⟨some 5, Op.assign (Operand.tmp 33), none⟩, []⟩]) .ret)))))
theorem sl100 : slim Try.f100.ntmps ords100 (Try.f100.body.getD .skip) = some cd100 := by kernel_rfl
theorem in100 {args : List Value} {H : AH} {R : Value → AH → Prop} (hl : args.length = 2) (h : ∀ (Q : Exit → Sl → AH → Prop), (∀ e s H, endA Try.prog [ResultVar.tmp 4, ResultVar.tmp 5] R e s H → Q e s H) → wpC Try.prog cd100 Q (enterA args) H) : ACalls Try.prog 100 args H R :=
  ACalls.intro (by kernel_rfl) Try.func100 rfl (by kernel_rfl) sl100 hl (of_decide_eq_true (by kernel_rfl)) (by kernel_rfl) h
end Go.Proofs.Ythhnpchjjbjabaa.Ai

namespace Go.Proofs.Ythhnpchjjbjabaa.Ai
open Go Go.RowKit
set_option linter.unusedVariables false
set_option linter.unusedSimpArgs false

/-- a graph and a permutation of its nodes -/
def Tkn (n : Int) (es : List (Int × Int)) (p : List Int) : Prop := (Grd n es ∧ Prm p) ∧ (p.length : Int) = n
instance (n : Int) (es : List (Int × Int)) (p : List Int) : Decidable (Tkn n es p) := by unfold Tkn; infer_instance
/-- at most so many nodes -/
def Brd (n : Int) (es : List (Int × Int)) (p : List Int) : Prop := Tkn n es p ∧ (1 ≤ n ∧ n ≤ 6)
instance (n : Int) (es : List (Int × Int)) (p : List Int) : Decidable (Brd n es p) := by unfold Brd; infer_instance
def Fld (n : Int) (es : List (Int × Int)) (p : List Int) : Prop := Tkn n es p ∧ n ≤ 6
instance (n : Int) (es : List (Int × Int)) (p : List Int) : Decidable (Fld n es p) := by unfold Fld; infer_instance

theorem isTokens_c (n : Int) (v w : Value) (es : List (Int × Int)) (p : List Int) (H : AH) (hr : RowP 76 H v es) (hlen : es.length ≤ 1099511627776) (hx : Row 3 H w p) (hlp : p.length ≤ 1099511627776) (hxs : ∀ y ∈ p, I64 y) :
    ACalls Try.prog 83 [.agg (List.toArray [.int .i64 n, v]), w] H fun r H' => r = .bool (decide (Tkn n es p)) ∧ H <+: H' := by
  refine in83 rfl ?_
  intro Q hQ
  simp (maxSteps := 1000000) (disch := omega) only [cd83, hr.boxG, S, S1, S2, S3, S4, S5, ST, eq_self, reduceIte, reduceCtorEq, Nat.reduceEqDiff, Nat.reduceAdd]
  generalize hA : H ++ [AObj.cells [.int .i64 n, v] 28 false] = A
  have pA : H <+: A := by rw [← hA]; exact List.prefix_append _ _
  have cA : A[H.length]? = some (.cells [.int .i64 n, v] 28 false) := by rw [← hA]; exact at_new ..
  have rA := hr.pre pA
  simp (maxSteps := 1000000) (disch := omega) only [ld_agg ag28 cs28 cA, S, S1, S2, S3, S4, S5, ST, eq_self, reduceIte, reduceCtorEq, Nat.reduceEqDiff, Nat.reduceAdd]
  refine CallH.by (IsGraph_c n v es A rA hlen) ?_
  rintro _ B ⟨rfl, pB⟩
  have cB := pre_at pB cA
  have pHB := pA.trans pB
  simp (maxSteps := 1000000) (disch := omega) only [S, S1, S2, S3, S4, S5, ST, eq_self, reduceIte, reduceCtorEq, Nat.reduceEqDiff, Nat.reduceAdd]
  refine brD.intro (fun e => ?_) (fun e => ?_) <;> simp (maxSteps := 1000000) (disch := omega) only [e, S, S1, S2, S3, S4, S5, ST, eq_self, reduceIte, reduceCtorEq, Nat.reduceEqDiff, Nat.reduceAdd]
  · refine CallH.by (PermI_c w p B (hx.pre pHB) hlp hxs) ?_
    rintro _ C ⟨rfl, pC⟩
    have cC := pre_at pC cB
    have pHC := pHB.trans pC
    simp (maxSteps := 1000000) (disch := omega) only [e, S, S1, S2, S3, S4, S5, ST, eq_self, reduceIte, reduceCtorEq, Nat.reduceEqDiff, Nat.reduceAdd]
    refine brD.intro (fun e2 => ?_) (fun e2 => ?_) <;> simp (maxSteps := 1000000) (disch := omega) only [e, e2, (hx.pre pHC).len Try.underlying32, cell_of cC, S, S1, S2, S3, S4, S5, ST, eq_self, reduceIte, reduceCtorEq, Nat.reduceEqDiff, Nat.reduceAdd]
    · refine hQ _ _ _ ?_
      simp (maxSteps := 1000000) (disch := omega) only [e, e2, S, S1, S2, S3, S4, S5, ST, eq_self, reduceIte, reduceCtorEq, Nat.reduceEqDiff, Nat.reduceAdd]
      exact ⟨by simp [Tkn, e, e2], pHC⟩
    · refine hQ _ _ _ ?_
      simp (maxSteps := 1000000) (disch := omega) only [e, e2, S, S1, S2, S3, S4, S5, ST, eq_self, reduceIte, reduceCtorEq, Nat.reduceEqDiff, Nat.reduceAdd]
      exact ⟨by simp [Tkn, e2], pHC⟩
  · refine hQ _ _ _ ?_
    simp (maxSteps := 1000000) (disch := omega) only [e, S, S1, S2, S3, S4, S5, ST, eq_self, reduceIte, reduceCtorEq, Nat.reduceEqDiff, Nat.reduceAdd]
    exact ⟨by simp [Tkn, e], pHB⟩

theorem isBoard_c (n : Int) (v w : Value) (es : List (Int × Int)) (p : List Int) (H : AH) (hr : RowP 76 H v es) (hlen : es.length ≤ 1099511627776) (hx : Row 3 H w p) (hlp : p.length ≤ 1099511627776) (hxs : ∀ y ∈ p, I64 y) :
    ACalls Try.prog 70 [.agg (List.toArray [.int .i64 n, v]), w] H fun r H' => r = .bool (decide (Brd n es p)) ∧ H <+: H' := by
  refine in70 rfl ?_
  intro Q hQ
  simp (maxSteps := 1000000) (disch := omega) only [cd70, hr.boxG, S, S1, S2, S3, S4, S5, ST, eq_self, reduceIte, reduceCtorEq, Nat.reduceEqDiff, Nat.reduceAdd]
  generalize hA : H ++ [AObj.cells [.int .i64 n, v] 28 false] = A
  have pA : H <+: A := by rw [← hA]; exact List.prefix_append _ _
  have cA : A[H.length]? = some (.cells [.int .i64 n, v] 28 false) := by rw [← hA]; exact at_new ..
  have rA := hr.pre pA
  simp (maxSteps := 1000000) (disch := omega) only [ld_agg ag28 cs28 cA, S, S1, S2, S3, S4, S5, ST, eq_self, reduceIte, reduceCtorEq, Nat.reduceEqDiff, Nat.reduceAdd]
  refine CallH.by (isTokens_c n v w es p A rA hlen (hx.pre pA) hlp hxs) ?_
  rintro _ B ⟨rfl, pB⟩
  have cB := pre_at pB cA
  have pHB := pA.trans pB
  simp (maxSteps := 1000000) (disch := omega) only [S, S1, S2, S3, S4, S5, ST, eq_self, reduceIte, reduceCtorEq, Nat.reduceEqDiff, Nat.reduceAdd]
  refine brD.intro (fun e => ?_) (fun e => ?_) <;> simp (maxSteps := 1000000) (disch := omega) only [e, cell_of cB, S, S1, S2, S3, S4, S5, ST, eq_self, reduceIte, reduceCtorEq, Nat.reduceEqDiff, Nat.reduceAdd]
  · refine CallH.by (between_c _ _ _ B) ?_
    rintro _ _ ⟨rfl, rfl⟩
    simp (maxSteps := 1000000) (disch := omega) only [e, S, S1, S2, S3, S4, S5, ST, eq_self, reduceIte, reduceCtorEq, Nat.reduceEqDiff, Nat.reduceAdd]
    refine hQ _ _ _ ?_
    simp (maxSteps := 1000000) (disch := omega) only [e, S, S1, S2, S3, S4, S5, ST, eq_self, reduceIte, reduceCtorEq, Nat.reduceEqDiff, Nat.reduceAdd]
    exact ⟨by simp [Brd, e], pHB⟩
  · refine hQ _ _ _ ?_
    simp (maxSteps := 1000000) (disch := omega) only [e, S, S1, S2, S3, S4, S5, ST, eq_self, reduceIte, reduceCtorEq, Nat.reduceEqDiff, Nat.reduceAdd]
    exact ⟨by simp [Brd, e], pHB⟩

theorem l9Field_c (n : Int) (v w : Value) (es : List (Int × Int)) (p : List Int) (H : AH) (hr : RowP 76 H v es) (hlen : es.length ≤ 1099511627776) (hx : Row 3 H w p) (hlp : p.length ≤ 1099511627776) :
    ACalls Try.prog 64 [.agg (List.toArray [.int .i64 n, v]), w] H fun r H' => r = .bool (decide (Fld n es p)) ∧ H <+: H' := by
  refine in64 rfl ?_
  intro Q hQ
  simp (maxSteps := 1000000) (disch := omega) only [cd64, hr.boxG, S, S1, S2, S3, S4, S5, ST, eq_self, reduceIte, reduceCtorEq, Nat.reduceEqDiff, Nat.reduceAdd]
  generalize hA : H ++ [AObj.cells [.int .i64 n, v] 28 false] = A
  have pA : H <+: A := by rw [← hA]; exact List.prefix_append _ _
  have cA : A[H.length]? = some (.cells [.int .i64 n, v] 28 false) := by rw [← hA]; exact at_new ..
  have rA := hr.pre pA
  simp (maxSteps := 1000000) (disch := omega) only [ld_agg ag28 cs28 cA, S, S1, S2, S3, S4, S5, ST, eq_self, reduceIte, reduceCtorEq, Nat.reduceEqDiff, Nat.reduceAdd]
  refine CallH.by (l2Good_c n v es A rA hlen) ?_
  rintro _ B ⟨rfl, pB⟩
  have cB := pre_at pB cA
  have pHB := pA.trans pB
  simp (maxSteps := 1000000) (disch := omega) only [S, S1, S2, S3, S4, S5, ST, eq_self, reduceIte, reduceCtorEq, Nat.reduceEqDiff, Nat.reduceAdd]
  refine brD.intro (fun e => ?_) (fun e => ?_) <;> simp (maxSteps := 1000000) (disch := omega) only [e, cell_of cB, S, S1, S2, S3, S4, S5, ST, eq_self, reduceIte, reduceCtorEq, Nat.reduceEqDiff, Nat.reduceAdd]
  · refine brD.intro (fun e2 => ?_) (fun e2 => ?_) <;> simp (maxSteps := 1000000) (disch := omega) only [e, e2, (hx.pre pHB).len Try.underlying32, cell_of cB, S, S1, S2, S3, S4, S5, ST, eq_self, reduceIte, reduceCtorEq, Nat.reduceEqDiff, Nat.reduceAdd]
    · refine brD.intro (fun e3 => ?_) (fun e3 => ?_) <;> simp (maxSteps := 1000000) (disch := omega) only [e, e2, e3, S, S1, S2, S3, S4, S5, ST, eq_self, reduceIte, reduceCtorEq, Nat.reduceEqDiff, Nat.reduceAdd]
      · refine CallH.by (l9Perm_c w p B (hx.pre pHB) hlp) ?_
        rintro _ _ ⟨rfl, rfl⟩
        simp (maxSteps := 1000000) (disch := omega) only [e, e2, e3, S, S1, S2, S3, S4, S5, ST, eq_self, reduceIte, reduceCtorEq, Nat.reduceEqDiff, Nat.reduceAdd]
        refine hQ _ _ _ ?_
        simp (maxSteps := 1000000) (disch := omega) only [e, e2, e3, S, S1, S2, S3, S4, S5, ST, eq_self, reduceIte, reduceCtorEq, Nat.reduceEqDiff, Nat.reduceAdd]
        exact ⟨by simp [Fld, Tkn, e, e2, e3], pHB⟩
      · refine hQ _ _ _ ?_
        simp (maxSteps := 1000000) (disch := omega) only [e, e2, e3, S, S1, S2, S3, S4, S5, ST, eq_self, reduceIte, reduceCtorEq, Nat.reduceEqDiff, Nat.reduceAdd]
        exact ⟨by simp [Fld, Tkn, e, e2, e3], pHB⟩
    · refine hQ _ _ _ ?_
      simp (maxSteps := 1000000) (disch := omega) only [e, e2, S, S1, S2, S3, S4, S5, ST, eq_self, reduceIte, reduceCtorEq, Nat.reduceEqDiff, Nat.reduceAdd]
      exact ⟨by simp [Fld, Tkn, e, e2], pHB⟩
  · refine hQ _ _ _ ?_
    simp (maxSteps := 1000000) (disch := omega) only [e, S, S1, S2, S3, S4, S5, ST, eq_self, reduceIte, reduceCtorEq, Nat.reduceEqDiff, Nat.reduceAdd]
    exact ⟨by simp [Fld, Tkn, e], pHB⟩

theorem l9Board_c (n : Int) (v w : Value) (es : List (Int × Int)) (p : List Int) (H : AH) (hr : RowP 76 H v es) (hlen : es.length ≤ 1099511627776) (hx : Row 3 H w p) (hlp : p.length ≤ 1099511627776) :
    ACalls Try.prog 69 [.agg (List.toArray [.int .i64 n, v]), w] H fun r H' => r = .bool (decide (Brd n es p)) ∧ H <+: H' := by
  refine in69 rfl ?_
  intro Q hQ
  simp (maxSteps := 1000000) (disch := omega) only [cd69, hr.boxG, S, S1, S2, S3, S4, S5, ST, eq_self, reduceIte, reduceCtorEq, Nat.reduceEqDiff, Nat.reduceAdd]
  generalize hA : H ++ [AObj.cells [.int .i64 n, v] 28 false] = A
  have pA : H <+: A := by rw [← hA]; exact List.prefix_append _ _
  have cA : A[H.length]? = some (.cells [.int .i64 n, v] 28 false) := by rw [← hA]; exact at_new ..
  have rA := hr.pre pA
  simp (maxSteps := 1000000) (disch := omega) only [ld_agg ag28 cs28 cA, S, S1, S2, S3, S4, S5, ST, eq_self, reduceIte, reduceCtorEq, Nat.reduceEqDiff, Nat.reduceAdd]
  refine CallH.by (l9Field_c n v w es p A rA hlen (hx.pre pA) hlp) ?_
  rintro _ B ⟨rfl, pB⟩
  have cB := pre_at pB cA
  have pHB := pA.trans pB
  simp (maxSteps := 1000000) (disch := omega) only [S, S1, S2, S3, S4, S5, ST, eq_self, reduceIte, reduceCtorEq, Nat.reduceEqDiff, Nat.reduceAdd]
  refine brD.intro (fun e => ?_) (fun e => ?_) <;> simp (maxSteps := 1000000) (disch := omega) only [e, cell_of cB, S, S1, S2, S3, S4, S5, ST, eq_self, reduceIte, reduceCtorEq, Nat.reduceEqDiff, Nat.reduceAdd]
  · refine hQ _ _ _ ?_
    simp (maxSteps := 1000000) (disch := omega) only [e, S, S1, S2, S3, S4, S5, ST, eq_self, reduceIte, reduceCtorEq, Nat.reduceEqDiff, Nat.reduceAdd]
    refine ⟨?_, pHB⟩
    rw [Value.bool.injEq, decide_eq_decide]
    unfold Fld at e
    unfold Brd
    constructor
    · intro h; exact ⟨e.1, by omega⟩
    · intro h; omega
  · refine hQ _ _ _ ?_
    simp (maxSteps := 1000000) (disch := omega) only [e, S, S1, S2, S3, S4, S5, ST, eq_self, reduceIte, reduceCtorEq, Nat.reduceEqDiff, Nat.reduceAdd]
    refine ⟨?_, pHB⟩
    rw [Value.bool.injEq, eq_comm, decide_eq_false_iff_not]
    exact fun h => e ⟨h.1, h.2.2⟩

theorem swp_comm (p : List Int) (a b : Nat) (h : a ≠ b) : swp p a b = swp p b a := by
  unfold swp
  rw [List.set_comm _ _ h]
/-- the boards behind slides to some nodes -/
def brds (p : List Int) (nb : List Int) (h : Nat) : List (List Int) := nb.map fun x => swp p x.toNat h

set_option maxRecDepth 20000 in
set_option maxHeartbeats 4000000 in
theorem slides_c (n : Int) (v w : Value) (es : List (Int × Int)) (p : List Int) (H : AH) (hr : RowP 76 H v es) (hlen : es.length ≤ 1099511627776) (hx : Row 3 H w p) (hg : Grd n es) (hp : (p.length : Int) = n) (h : Nat) (hh : ax p 0 = h) (hm : h < p.length) :
    ACalls Try.prog 100 [.agg (List.toArray [.int .i64 n, v]), w] H fun r H' => ∃ L nd, r = .tuple (List.toArray [L, nd]) ∧ InL H.length H'.length 32 3 H' L (brds p (nbsU es h n.toNat) h) ∧ Row 3 H' nd (nbsU es h n.toNat) ∧ H <+: H' := by
  have hn := hg.1
  refine in100 rfl ?_
  intro Q hQ
  simp (maxSteps := 1000000) (disch := omega) only [cd100, hr.boxG, S, S1, S2, S3, S4, S5, ST, eq_self, reduceIte, reduceCtorEq, Nat.reduceEqDiff, Nat.reduceAdd]
  generalize hA : H ++ [AObj.cells [.int .i64 n, v] 28 false] = A
  have pA : H <+: A := by rw [← hA]; exact List.prefix_append _ _
  have cA : A[H.length]? = some (.cells [.int .i64 n, v] 28 false) := by rw [← hA]; exact at_new ..
  have rA := hr.pre pA
  try simp (maxSteps := 1000000) (disch := omega) only [S, S1, S2, S3, S4, S5, ST, eq_self, reduceIte, reduceCtorEq, Nat.reduceEqDiff, Nat.reduceAdd]
  refine CallH.by (Index_c w p 0 A (hx.pre pA) (by omega)) ?_
  rintro _ _ ⟨rfl, rfl⟩
  have hh' : idxP (fun y => decide (0 = y)) p 0 = (h : Int) := hh
  rw [hh']
  simp (maxSteps := 1000000) (disch := omega) only [ld_agg ag28 cs28 (at_app cA _), S, S1, S2, S3, S4, S5, ST, eq_self, reduceIte, reduceCtorEq, Nat.reduceEqDiff, Nat.reduceAdd]
  generalize hB : A ++ [AObj.cells [] 32 false] = B
  have pB : A <+: B := by rw [← hB]; exact List.prefix_append _ _
  have lB : B.length = A.length + 1 := by rw [← hB]; simp
  have cB : B[A.length]? = some (.cells [] 32 false) := by rw [← hB]; exact at_new ..
  refine CallH.by (neighbors_c n v es h B (rA.pre pB) hlen hg) ?_
  rintro nd C ⟨hnd, pC⟩
  have hnl := nbsU_len es h n.toNat
  simp (maxSteps := 1000000) (disch := omega) only [hnd.row.len Try.underlying32, S, S1, S2, S3, S4, S5, ST, eq_self, reduceIte, reduceCtorEq, Nat.reduceEqDiff, Nat.reduceAdd]
  have hin0 : InU H.length C.length 32 3 C A.length [] [] :=
    ⟨pA.length_le, by have := pC.length_le; omega, pre_at pC cB, Nat.le_refl _, fun i hi => absurd hi (by simp), fun i j _ hi _ => absurd hi (by simp)⟩
  have hap0 : Apart nd (.slice (some ⟨A.length, 0, none⟩) 0 0) := by
    rcases hnd with ⟨q, _⟩ | ⟨o, q, hq, _⟩
    · exact .inr (.inl q)
    · refine .inr (.inr ?_)
      rw [q]
      show o ≠ A.length
      omega
  have pHC := pA.trans (pB.trans pC)
  have hnr : rowO nd < C.length ∨ nd = .slice none 0 0 := by
    rcases hnd.row.nil with q | q
    · exact .inr q.1
    · exact .inl q
  have hmem : ∀ i, i < (nbsU es h n.toNat).length → 0 ≤ (nbsU es h n.toNat).getD i 0 ∧ (nbsU es h n.toNat).getD i 0 < n := fun i hi => by
    have := (nbsU_mem es h n.toNat _).1 (getD_mem hi)
    omega
  have hnd1 := hnd.row
  generalize hN : nbsU es h n.toNat = N at *
  refine LoopH.by (fun m s H' => ∃ i o us, m + i = N.length ∧ s 1 = w ∧ s 6 = .int .i64 (h : Int) ∧ s 7 = .slice (some ⟨o, 0, none⟩) i i ∧ s 8 = nd ∧ s 17 = nd ∧ s 18 = .int .i64 (N.length : Int) ∧ s 19 = .int .i64 ((i : Nat) : Int) ∧ i ≤ N.length ∧ InU H.length H'.length 32 3 H' o us (brds p (N.take i) h) ∧ Row 3 H' nd N ∧ Apart nd (.slice (some ⟨o, 0, none⟩) 0 0) ∧ C.length ≤ H'.length ∧ H <+: H') N.length ?_ ?_
  · exact ⟨0, A.length, [], by simp, rfl, rfl, rfl, rfl, rfl, rfl, rfl, by omega, by simpa [brds] using hin0, hnd1, hap0, Nat.le_refl _, pHC⟩
  · rintro m s H' ⟨i, o, us, hm', h1, h6, h7, h8, h17, h18, h19, hiN, hin, hrn, hap, hCl, hpp⟩
    simp (maxSteps := 1000000) (disch := omega) only [h1, h6, h7, h8, h17, h18, h19, S, S1, S2, S3, S4, S5, ST, eq_self, reduceIte, reduceCtorEq, Nat.reduceEqDiff, Nat.reduceAdd]
    refine brD.intro (fun g => ?_) (fun g => ?_)
    · have hi : i < N.length := by omega
      have hx' := hx.pre hpp
      have hmi := hmem i hi
      have hst : brds p (N.take (i + 1)) h = brds p (N.take i) h ++ [swp p (N.getD i 0).toNat h] := by
        unfold brds
        rw [List.take_add_one, List.getElem?_eq_getElem hi, List.map_append]
        have : N.getD i 0 = N[i] := by simp [hi]
        rw [this]; rfl
      have hbl : (brds p (N.take i) h).length = i := by simp [brds]; omega
      obtain ⟨k, hk⟩ : ∃ k : Nat, N.getD i 0 = k := ⟨(N.getD i 0).toNat, by omega⟩
      rw [hk] at hmi hst
      have hcell := hrn.cell hi
      rw [hk] at hcell
      simp (maxSteps := 1000000) (disch := omega) only [h1, h6, h7, h8, h17, h18, h19, hrn.ix Try.underlying32 cs3, hcell, Int.toNat_natCast, build_a2, S, S1, S2, S3, S4, S5, ST, eq_self, reduceIte, reduceCtorEq, Nat.reduceEqDiff, Nat.reduceAdd]
      refine CallH.by (swapped_c w p k h H' hx' (by omega) (by omega) hm) ?_
      rintro b D ⟨hb, pD⟩
      rw [Int.toNat_natCast] at hst
      have hinw := InI.of hb.mine
      obtain ⟨H3, k1, k2, k3, k4⟩ := (hin.pre pD).app1 (P := Try.prog) (t2 := 38) Try.underlying38 cs32 (by rw [by32]; decide) zk32 hinw hpp.length_le pD.length_le (Nat.le_refl _) (by omega)
      have hbs : buildSliceA Try.prog 38 1 [(0, b)] D = some (.slice (some ⟨D.length, 0, none⟩) 1 1, D ++ [.cells [b] 32 false]) := by
        obtain ⟨q, eq⟩ := hb.row.shape
        rw [eq]
        exact bs1 Try.underlying38 cs32 ze32 ⟨by kernel_rfl, by kernel_rfl⟩ D rfl
      rw [hbl] at k1 k2
      simp (maxSteps := 1000000) (disch := omega) only [h1, h6, h7, h8, h17, h18, h19, hbs, k1, wrap64, S, S1, S2, S3, S4, S5, ST, eq_self, reduceIte, reduceCtorEq, Nat.reduceEqDiff, Nat.reduceAdd]
      have ho := hin.1
      have f1 : H <+: H3 := prefix_of fun j x hx' => k4 j x (by have := at_lt hx'; omega) (pre_at (hpp.trans pD) hx')
      have f2 : InU H.length H3.length 32 3 H3 (D.length + 1) (us.take i ++ [b]) (brds p (N.take (i + 1)) h) := by
        rw [k3, hst]; exact k2
      have hkp : Kept (.slice (some ⟨o, 0, none⟩) 0 0) D H3 := fun j y hj hy => by
        rcases hj with hj | hj
        · cases hj
        · exact k4 j y hj hy
      have f3 : Row 3 H3 nd N := (hrn.pre pD).kept hap hkp
      have hDl := pD.length_le
      have f4 : Apart nd (.slice (some ⟨D.length + 1, 0, none⟩) 0 0) := by
        rcases hnr with q | q
        · exact .inr (.inr (by show rowO nd ≠ D.length + 1; omega))
        · exact .inr (.inl q)
      refine ⟨m - 1, by omega, i + 1, D.length + 1, us.take i ++ [b], by omega, ?_⟩
      (repeat' first | exact f1 | exact f2 | exact f3 | exact f4 | apply And.intro) <;> first | (simp only [Value.int.injEq, true_and]; omega) | omega | rfl | assumption | (simp; done) | (simp; omega)
    · simp (maxSteps := 1000000) (disch := omega) only [h7, h8, S, S1, S2, S3, S4, S5, ST, eq_self, reduceIte, reduceCtorEq, Nat.reduceEqDiff, Nat.reduceAdd]
      refine hQ _ _ _ ?_
      simp (maxSteps := 1000000) (disch := omega) only [h7, h8, hrn.tup, S, S1, S2, S3, S4, S5, ST, eq_self, reduceIte, reduceCtorEq, Nat.reduceEqDiff, Nat.reduceAdd]
      have : i = N.length := by omega
      subst this
      rw [List.take_of_length_le (Nat.le_refl _)] at hin
      refine ⟨_, _, rfl, ?_, hrn, hpp⟩
      have := hin.inl
      rwa [show (brds p N h).length = N.length by simp [brds]] at this
end Go.Proofs.Ythhnpchjjbjabaa.Ai
