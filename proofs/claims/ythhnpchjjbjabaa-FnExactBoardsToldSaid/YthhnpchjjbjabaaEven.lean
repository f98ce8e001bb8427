/- Even graphs, both sides. -/
import Derived.Test.YthhnpchjjbjabaaEvenQ
import Derived.Test.YthhnpchjjbjabaaMore
import Derived.Test.YthhnpchjjbjabaaCfP
import Derived.Test.YthhnpchjjbjabaaBfs
import Derived.Test.YthhnpchjjbjabaaProg
import Derived.Test.YthhnpchjjbjabaaAiM2
import Derived.KernelRfl
/- Slim code of this translation. By the kernel. -/
namespace Go.Proofs.Ythhnpchjjbjabaa.Ai
open Go

/- (loop.example/g01128/impl.Graph).isEven$1 -/
def ords118 : List (Nat × List (Nat × Bool)) := [(1, [(0, false), (1, false), (2, false), (3, false), (4, false), (5, false), (6, false), (7, false), (8, false), (9, false), (10, false), (11, false)])]
def cd118 : Cd := (.seq (.reg [⟨⟨some 2, Op.box 76 (Operand.tmp 0), none⟩, []⟩,
  ⟨⟨some 3, Op.assign (Operand.const (Value.bool false)), none⟩, []⟩]) (.seq (.reg [⟨⟨some 4, Op.load 32 (Operand.tmp 1), none⟩, []⟩,
  ⟨⟨some 5, Op.indexAddr 76 (Operand.tmp 2) (Operand.const (Value.int IntKind.i64 0)), none⟩, []⟩,
  ⟨⟨some 6, Op.load 3 (Operand.tmp 5), none⟩, []⟩,
  ⟨⟨some 7, Op.indexAddr 32 (Operand.tmp 4) (Operand.tmp 6), none⟩, []⟩,
  ⟨⟨some 8, Op.load 3 (Operand.tmp 7), none⟩, []⟩,
  ⟨⟨some 9, Op.load 32 (Operand.tmp 1), none⟩, []⟩,
  ⟨⟨some 10, Op.indexAddr 76 (Operand.tmp 2) (Operand.const (Value.int IntKind.i64 1)), none⟩, []⟩,
  ⟨⟨some 11, Op.load 3 (Operand.tmp 10), none⟩, []⟩,
  ⟨⟨some 12, Op.indexAddr 32 (Operand.tmp 9) (Operand.tmp 11), none⟩, []⟩,
  ⟨⟨some 13, Op.load 3 (Operand.tmp 12), none⟩, []⟩,
  ⟨⟨some 14, Op.binOp BinOp.eql 3 (Operand.tmp 8) (Operand.tmp 13) 3, none⟩, []⟩,
  ⟨⟨some 3, Op.assign (Operand.tmp 14), none⟩, []⟩]) .ret))
theorem sl118 : slim Try.f118.ntmps ords118 (Try.f118.body.getD .skip) = some cd118 := by kernel_rfl
theorem in118 {args : List Value} {H : AH} {R : Value → AH → Prop} (hl : args.length = 2) (h : ∀ (Q : Exit → Sl → AH → Prop), (∀ e s H, endA Try.prog [ResultVar.tmp 3] R e s H → Q e s H) → wpC Try.prog cd118 Q (enterA args) H) : ACalls Try.prog 118 args H R :=
  ACalls.intro (by kernel_rfl) Try.func118 rfl (by kernel_rfl) sl118 hl (of_decide_eq_true (by kernel_rfl)) (by kernel_rfl) h

/- (loop.example/g01128/impl.Graph).isEven -/
def ords63 : List (Nat × List (Nat × Bool)) := [(1, [(0, false), (2, false), (3, false), (4, false), (5, false), (1, true), (6, false), (7, true)]), (9, [(0, false), (1, false), (2, false), (3, false), (4, false), (5, false), (6, false), (7, false), (8, true)])]
def cd63 : Cd := (.seq (.reg [⟨⟨some 1, Op.box 28 (Operand.tmp 0), none⟩, []⟩,
  ⟨⟨some 2, Op.assign (Operand.const (Value.bool false)), none⟩, []⟩]) (.seq (.reg [⟨⟨some 10, Op.load 28 (Operand.tmp 1), none⟩, []⟩,
  ⟨⟨some 12, Op.fieldAddr 28 (Operand.tmp 1) 0, none⟩, []⟩,
  ⟨⟨some 13, Op.load 3 (Operand.tmp 12), none⟩, []⟩,
  ⟨⟨some 14, Op.makeSlice 32 (Operand.tmp 13) (Operand.tmp 13), none⟩, []⟩,
  ⟨⟨some 4, Op.alloc 32, none⟩, []⟩,
  ⟨⟨some 11, Op.call { callee := (Callee.value (Operand.func 113)), args := #[(Operand.tmp 10)], argTypes := #[28] }, none⟩, [⟨some 4, Op.alloc 32, none⟩, ⟨some 14, Op.makeSlice 32 (Operand.tmp 13) (Operand.tmp 13), none⟩, ⟨some 13, Op.load 3 (Operand.tmp 12), none⟩]⟩,
  ⟨⟨some 3, Op.assign (Operand.tmp 11), none⟩, []⟩,
  ⟨⟨none, Op.store 32 (Operand.tmp 4) (Operand.tmp 14), none⟩, []⟩]) (.seq (.seq (.reg [⟨⟨some 15, Op.move (Operand.tmp 3), none⟩, []⟩,
  ⟨⟨some 16, Op.call { callee := (Callee.value (Operand.func 114)), args := #[(Operand.tmp 15), (Operand.const (Value.int IntKind.i64 (-1)))], argTypes := #[38, 3] }, none⟩, []⟩,
  ⟨⟨some 17, Op.call { callee := (Callee.builtin Builtin.len), args := #[(Operand.tmp 16)], argTypes := #[38] }, none⟩, []⟩,
  ⟨⟨some 18, Op.move (Operand.const (Value.int IntKind.i64 0)), none⟩, []⟩]) (.block 0 (.loop (.seq (.reg [⟨⟨some 19, Op.binOp BinOp.lss 3 (Operand.tmp 18) (Operand.tmp 17) 3, none⟩, []⟩]) (.seq (.cond (Operand.tmp 19) .skip (.exit 0)) (.seq (.block 1 (.seq (.reg [⟨⟨some 20, Op.indexAddr 38 (Operand.tmp 16) (Operand.tmp 18), none⟩, []⟩,
  ⟨⟨some 21, Op.load 32 (Operand.tmp 20), none⟩, []⟩,
  ⟨⟨some 6, Op.assign (Operand.tmp 21), none⟩, []⟩]) (.seq (.reg [⟨⟨some 22, Op.move (Operand.tmp 3), none⟩, []⟩,
  ⟨⟨some 23, Op.move (Operand.tmp 6), none⟩, []⟩,
  ⟨⟨some 24, Op.indexAddr 32 (Operand.tmp 23) (Operand.const (Value.int IntKind.i64 0)), none⟩, []⟩,
  ⟨⟨some 25, Op.load 3 (Operand.tmp 24), none⟩, []⟩,
  ⟨⟨some 26, Op.call { callee := (Callee.value (Operand.func 116)), args := #[(Operand.tmp 22), (Operand.tmp 25)], argTypes := #[38, 3] }, none⟩, []⟩,
  ⟨⟨some 7, Op.assign (Operand.tmp 26), none⟩, []⟩]) (.seq (.reg [⟨⟨some 27, Op.move (Operand.tmp 6), none⟩, []⟩,
  ⟨⟨some 28, Op.call { callee := (Callee.builtin Builtin.len), args := #[(Operand.tmp 27)], argTypes := #[32] }, none⟩, []⟩,
  ⟨⟨some 29, Op.move (Operand.const (Value.int IntKind.i64 0)), none⟩, []⟩]) (.block 2 (.loop (.seq (.reg [⟨⟨some 30, Op.binOp BinOp.lss 3 (Operand.tmp 29) (Operand.tmp 28) 3, none⟩, []⟩]) (.seq (.cond (Operand.tmp 30) .skip (.exit 2)) (.seq (.block 3 (.seq (.reg [⟨⟨some 31, Op.indexAddr 32 (Operand.tmp 27) (Operand.tmp 29), none⟩, []⟩,
  ⟨⟨some 32, Op.load 3 (Operand.tmp 31), none⟩, []⟩,
  ⟨⟨some 9, Op.assign (Operand.tmp 32), none⟩, []⟩]) (.reg [⟨⟨some 33, Op.load 32 (Operand.tmp 4), none⟩, []⟩,
  ⟨⟨some 34, Op.move (Operand.tmp 9), none⟩, []⟩,
  ⟨⟨some 35, Op.move (Operand.tmp 7), none⟩, []⟩,
  ⟨⟨some 36, Op.move (Operand.tmp 9), none⟩, []⟩,
  ⟨⟨some 37, Op.indexAddr 32 (Operand.tmp 35) (Operand.tmp 36), none⟩, []⟩,
  ⟨⟨some 38, Op.load 3 (Operand.tmp 37), none⟩, []⟩,
  ⟨⟨some 39, Op.binOp BinOp.rem 3 (Operand.tmp 38) (Operand.const (Value.int IntKind.i64 2)) 3, none⟩, []⟩,
  ⟨⟨some 40, Op.indexAddr 32 (Operand.tmp 33) (Operand.tmp 34), none⟩, []⟩,
  ⟨⟨none, Op.store 3 (Operand.tmp 40) (Operand.tmp 39), none⟩, []⟩]))) (.reg [⟨⟨some 41, Op.binOp BinOp.add 3 (Operand.tmp 29) (Operand.const (Value.int IntKind.i64 1)) 3, none⟩, []⟩,
  ⟨⟨some 29, Op.move (Operand.tmp 41), none⟩, []⟩])))))))))) (.reg [⟨⟨some 42, Op.binOp BinOp.add 3 (Operand.tmp 18) (Operand.const (Value.int IntKind.i64 1)) 3, none⟩, []⟩,
  ⟨⟨some 18, Op.move (Operand.tmp 42), none⟩, []⟩]))))))) (.seq (.reg [⟨⟨some 43, Op.fieldAddr 28 (Operand.tmp 1) 1, none⟩, []⟩,
  ⟨⟨some 44, Op.load 22 (Operand.tmp 43), none⟩, []⟩,
  ⟨⟨some 45, Op.makeFunc (Fn.func 118) #[] #[(Operand.tmp 4)], none⟩, []⟩,
  ⟨⟨some 46, Op.call { callee := (Callee.value (Operand.func 117)), args := #[(Operand.tmp 44), (Operand.tmp 45)], argTypes := #[22, 103] }, none⟩, []⟩,
  ⟨⟨some 47, Op.unOp UnOp.not 4 (Operand.tmp 46), none⟩, []⟩,
  ⟨⟨some 2, Op.assign (Operand.tmp 47), none⟩, []⟩]) .ret))))
theorem sl63 : slim Try.f63.ntmps ords63 (Try.f63.body.getD .skip) = some cd63 := by kernel_rfl
theorem in63 {args : List Value} {H : AH} {R : Value → AH → Prop} (hl : args.length = 1) (h : ∀ (Q : Exit → Sl → AH → Prop), (∀ e s H, endA Try.prog [ResultVar.tmp 2] R e s H → Q e s H) → wpC Try.prog cd63 Q (enterA args) H) : ACalls Try.prog 63 args H R :=
  ACalls.intro (by kernel_rfl) Try.func63 rfl (by kernel_rfl) sl63 hl (of_decide_eq_true (by kernel_rfl)) (by kernel_rfl) h

/- loop.example/g01128/spec.IsEven -/
def ords20 : List (Nat × List (Nat × Bool)) := []
def cd20 : Cd := (.seq (.reg [⟨⟨some 1, Op.box 28 (Operand.tmp 0), none⟩, []⟩,
  ⟨⟨some 2, Op.assign (Operand.const (Value.bool false)), none⟩, []⟩,
  ⟨⟨some 3, Op.assign (Operand.const (Value.bool false)), none⟩, []⟩]) (.seq (.seq (.reg [⟨⟨some 4, Op.load 28 (Operand.tmp 1), none⟩, []⟩,
  ⟨⟨some 5, Op.call { callee := (Callee.value (Operand.func 57)), args := #[(Operand.tmp 4)], argTypes := #[28] }, none⟩, []⟩,
  ⟨⟨some 6, Op.unOp UnOp.not 4 (Operand.tmp 5), none⟩, []⟩]) (.cond (Operand.tmp 6) (.seq (.reg [⟨⟨some 2, Op.assign (Operand.const (Value.bool false)), none⟩, []⟩,
  ⟨⟨some 3, Op.assign (Operand.const (Value.bool false)), none⟩, []⟩]) .ret) .skip)) (.seq (.reg [⟨⟨some 7, Op.load 28 (Operand.tmp 1), none⟩, []⟩,
  ⟨⟨some 8, Op.call { callee := (Callee.value (Operand.func 62)), args := #[(Operand.tmp 7)], argTypes := #[28] }, none⟩, []⟩,
  ⟨⟨some 2, Op.assign (Operand.tmp 8), none⟩, []⟩,
  ⟨⟨some 3, Op.assign (Operand.const (Value.bool true)), none⟩, []⟩]) .ret)))
theorem sl20 : slim Try.f20.ntmps ords20 (Try.f20.body.getD .skip) = some cd20 := by kernel_rfl
theorem in20 {args : List Value} {H : AH} {R : Value → AH → Prop} (hl : args.length = 1) (h : ∀ (Q : Exit → Sl → AH → Prop), (∀ e s H, endA Try.prog [ResultVar.tmp 2, ResultVar.tmp 3] R e s H → Q e s H) → wpC Try.prog cd20 Q (enterA args) H) : ACalls Try.prog 20 args H R :=
  ACalls.intro (by kernel_rfl) Try.func20 rfl (by kernel_rfl) sl20 hl (of_decide_eq_true (by kernel_rfl)) (by kernel_rfl) h

/- loop.example/g01128/impl.IsEven -/
def ords21 : List (Nat × List (Nat × Bool)) := []
def cd21 : Cd := (.seq (.reg [⟨⟨some 1, Op.box 28 (Operand.tmp 0), none⟩, []⟩,
  ⟨⟨some 2, Op.assign (Operand.const (Value.bool false)), none⟩, []⟩,
  ⟨⟨some 3, Op.assign (Operand.const (Value.bool false)), none⟩, []⟩]) (.seq (.seq (.reg [⟨⟨some 4, Op.load 28 (Operand.tmp 1), none⟩, []⟩,
  ⟨⟨some 5, Op.call { callee := (Callee.value (Operand.func 60)), args := #[(Operand.tmp 4)], argTypes := #[28] }, none⟩, []⟩,
  ⟨⟨some 6, Op.unOp UnOp.not 4 (Operand.tmp 5), none⟩, []⟩]) (.cond (Operand.tmp 6) (.seq (.reg [⟨⟨some 2, Op.assign (Operand.const (Value.bool false)), none⟩, []⟩,
  ⟨⟨some 3, Op.assign (Operand.const (Value.bool false)), none⟩, []⟩]) .ret) .skip)) (.seq (.reg [⟨⟨some 7, Op.load 28 (Operand.tmp 1), none⟩, []⟩,
  ⟨⟨some 8, Op.call { callee := (Callee.value (Operand.func 63)), args := #[(Operand.tmp 7)], argTypes := #[28] }, none⟩, []⟩,
  ⟨⟨some 2, Op.assign (Operand.tmp 8), none⟩, []⟩,
  ⟨⟨some 3, Op.assign (Operand.const (Value.bool true)), none⟩, []⟩]) .ret)))
theorem sl21 : slim Try.f21.ntmps ords21 (Try.f21.body.getD .skip) = some cd21 := by kernel_rfl
theorem in21 {args : List Value} {H : AH} {R : Value → AH → Prop} (hl : args.length = 1) (h : ∀ (Q : Exit → Sl → AH → Prop), (∀ e s H, endA Try.prog [ResultVar.tmp 2, ResultVar.tmp 3] R e s H → Q e s H) → wpC Try.prog cd21 Q (enterA args) H) : ACalls Try.prog 21 args H R :=
  ACalls.intro (by kernel_rfl) Try.func21 rfl (by kernel_rfl) sl21 hl (of_decide_eq_true (by kernel_rfl)) (by kernel_rfl) h
end Go.Proofs.Ythhnpchjjbjabaa.Ai

namespace Go.Proofs.Ythhnpchjjbjabaa.Ai
open Go Go.RowKit
set_option linter.unusedVariables false
set_option linter.unusedSimpArgs false

theorem InL.frame {lo hi q : Nat} {e2 e : TypeId} {H H' : AH} {v : Value} {ls : List (List Int)} (h : InL lo hi e2 e H v ls) (hq : q < lo ∨ hi ≤ q) (hh : ∀ (j : Nat) (y : AObj), j ≠ q → H[j]? = some y → H'[j]? = some y) : InL lo hi e2 e H' v ls := by
  rcases h with h | ⟨o, us, h1, h2⟩
  · exact .inl h
  · exact .inr ⟨o, us, h1, h2.moveq (h2.away hq) hh⟩
theorem alloc_slE (H : AH) : allocA Try.prog 32 H = some (.pointer (some ⟨H.length, 0, none⟩), H ++ [.cells [.slice none 0 0] 32 false]) := by kernel_rfl
theorem mkf_1E (f : Fn) (p : Option Addr) : makeFuncA f [] [.pointer p] = some (.func f #[] (List.toArray [.pointer p])) := rfl

set_option maxRecDepth 20000 in
set_option maxHeartbeats 1000000 in
theorem evClos_c (a b : Nat) (sd : List Int) (ps so : Nat) (H : AH) (h1 : H[ps]? = some (.cells [.slice (some ⟨so, 0, none⟩) sd.length sd.length] 32 false)) (h2 : H[so]? = some (.cells (ints sd) 3 false)) (ha : a < sd.length) (hb : b < sd.length) :
    ACalls Try.prog 118 [.agg (List.toArray [.int .i64 (a : Int), .int .i64 (b : Int)]), .pointer (some ⟨ps, 0, none⟩)] H fun r H' => r = .bool (decide (sd.getD a 0 = sd.getD b 0)) ∧ H <+: H' := by
  refine in118 rfl ?_
  intro Q hQ
  simp (maxSteps := 1000000) (disch := omega) only [cd118, box_a2, S, S1, S2, S3, S4, ST, eq_self, ne_eq, not_true_eq_false, not_false_eq_true, and_self, true_and, and_true, reduceIte, reduceCtorEq, Nat.reduceEqDiff, Nat.reduceAdd, Nat.zero_add, Nat.add_zero, Option.map_none, Option.map_some, List.map_cons, List.map_nil, List.append_nil, List.cons_append, List.nil_append, List.getElem?_cons_zero, List.getElem?_cons_succ, List.getD_cons_zero, List.getD_cons_succ, List.getD_nil, Bool.not_true, Bool.not_false, decide_true, decide_false]
  generalize hA : H ++ [AObj.cells [.int .i64 (a : Int), .int .i64 (b : Int)] 76 false] = A
  have pA : H <+: A := by rw [← hA]; exact List.prefix_append _ _
  have cA : A[H.length]? = some (.cells [.int .i64 (a : Int), .int .i64 (b : Int)] 76 false) := by rw [← hA]; exact at_new ..
  have c1 := pre_at pA h1
  have c2 := pre_at pA h2
  have ia := ints_at sd ha
  have ib := ints_at sd hb
  simp (maxSteps := 1000000) (disch := omega) only [cell_of cA, cell_of c1, cell_of c2, Int.toNat_natCast, Nat.zero_add, ia, ib, S, S1, S2, S3, S4, ST, eq_self, ne_eq, not_true_eq_false, not_false_eq_true, and_self, true_and, and_true, reduceIte, reduceCtorEq, Nat.reduceEqDiff, Nat.reduceAdd, Nat.zero_add, Nat.add_zero, Option.map_none, Option.map_some, List.map_cons, List.map_nil, List.append_nil, List.cons_append, List.nil_append, List.getElem?_cons_zero, List.getElem?_cons_succ, List.getD_cons_zero, List.getD_cons_succ, List.getD_nil, Bool.not_true, Bool.not_false, decide_true, decide_false]
  refine hQ _ _ _ ?_
  simp (maxSteps := 1000000) (disch := omega) only [S, S1, S2, S3, S4, ST, eq_self, ne_eq, not_true_eq_false, not_false_eq_true, and_self, true_and, and_true, reduceIte, reduceCtorEq, Nat.reduceEqDiff, Nat.reduceAdd, Nat.zero_add, Nat.add_zero, Option.map_none, Option.map_some, List.map_cons, List.map_nil, List.append_nil, List.cons_append, List.nil_append, List.getElem?_cons_zero, List.getElem?_cons_succ, List.getD_cons_zero, List.getD_cons_succ, List.getD_nil, Bool.not_true, Bool.not_false, decide_true, decide_false]
  exact pA

set_option maxRecDepth 20000 in
set_option maxHeartbeats 8000000 in
theorem isEven_c (n : Nat) (v : Value) (es : List (Int × Int)) (H : AH) (hr : RowP 76 H v es) (hlen : es.length ≤ 1099511627776) (hg : Grd (n : Int) es) :
    ACalls Try.prog 63 [.agg (List.toArray [.int .i64 (n : Int), v])] H fun r H' => r = .bool (evB n es) ∧ H <+: H' := by
  have hn : n ≤ 8 := by have := hg.1; omega
  refine in63 rfl ?_
  intro Q hQ
  simp (maxSteps := 1000000) (disch := omega) only [cd63, hr.boxG, S, S1, S2, S3, S4, ST, eq_self, ne_eq, not_true_eq_false, not_false_eq_true, and_self, true_and, and_true, reduceIte, reduceCtorEq, Nat.reduceEqDiff, Nat.reduceAdd, Nat.zero_add, Nat.add_zero, Option.map_none, Option.map_some, List.map_cons, List.map_nil, List.append_nil, List.cons_append, List.nil_append, List.getElem?_cons_zero, List.getElem?_cons_succ, List.getD_cons_zero, List.getD_cons_succ, List.getD_nil, Bool.not_true, Bool.not_false, decide_true, decide_false]
  generalize hA : H ++ [AObj.cells [.int .i64 ↑n, v] 28 false] = A
  have pA : H <+: A := by rw [← hA]; exact List.prefix_append _ _
  have cA : A[H.length]? = some (.cells [.int .i64 ↑n, v] 28 false) := by rw [← hA]; exact at_new ..
  have rA := hr.pre pA
  have mk := mks32 (n := (n : Int)) (by omega) (by omega) A
  rw [Int.toNat_natCast] at mk
  simp (maxSteps := 1000000) (disch := omega) only [ld_agg ag28 cs28 cA, cell_of cA, mk, S, S1, S2, S3, S4, ST, eq_self, ne_eq, not_true_eq_false, not_false_eq_true, and_self, true_and, and_true, reduceIte, reduceCtorEq, Nat.reduceEqDiff, Nat.reduceAdd, Nat.zero_add, Nat.add_zero, Option.map_none, Option.map_some, List.map_cons, List.map_nil, List.append_nil, List.cons_append, List.nil_append, List.getElem?_cons_zero, List.getElem?_cons_succ, List.getD_cons_zero, List.getD_cons_succ, List.getD_nil, Bool.not_true, Bool.not_false, decide_true, decide_false]
  generalize hB : A ++ [AObj.cells (ints (List.replicate n 0)) 3 false] = B
  have pB : A <+: B := by rw [← hB]; exact List.prefix_append _ _
  have cB : B[A.length]? = some (.cells (ints (List.replicate n 0)) 3 false) := by rw [← hB]; exact at_new ..
  have lA : A.length = H.length + 1 := by rw [← hA]; simp
  have lB : B.length = A.length + 1 := by rw [← hB]; simp
  simp (maxSteps := 1000000) (disch := omega) only [alloc_slE, S, S1, S2, S3, S4, ST, eq_self, ne_eq, not_true_eq_false, not_false_eq_true, and_self, true_and, and_true, reduceIte, reduceCtorEq, Nat.reduceEqDiff, Nat.reduceAdd, Nat.zero_add, Nat.add_zero, Option.map_none, Option.map_some, List.map_cons, List.map_nil, List.append_nil, List.cons_append, List.nil_append, List.getElem?_cons_zero, List.getElem?_cons_succ, List.getD_cons_zero, List.getD_cons_succ, List.getD_nil, Bool.not_true, Bool.not_false, decide_true, decide_false]
  generalize hC : B ++ [AObj.cells [.slice none 0 0] 32 false] = C
  have pC : B <+: C := by rw [← hC]; exact List.prefix_append _ _
  have cC : C[B.length]? = some (.cells [.slice none 0 0] 32 false) := by rw [← hC]; exact at_new ..
  have lC : C.length = B.length + 1 := by rw [← hC]; simp
  have rC := rA.pre (pB.trans pC)
  refine CallH.by (roads_c n v es C rC hlen hg) ?_
  rintro w D ⟨hL, pD⟩
  rw [Int.toNat_natCast] at hL
  have cCB := pre_at pC cB
  have cCA := pre_at (pB.trans pC) cA
  have dC := pre_at pD cC
  have dB := pre_at pD cCB
  have dA := pre_at pD cCA
  have hst := st_at (P := Try.prog) (t := 32) (i := 0) (y := .slice (some ⟨A.length, 0, none⟩) n n) cs32 dC (by show 0 < 1; decide) rfl rfl
  rw [List.set_cons_zero] at hst
  simp (maxSteps := 1000000) (disch := omega) only [cC, dC, cCB, dB, cell_of dA, hst, S, S1, S2, S3, S4, ST, eq_self, ne_eq, not_true_eq_false, not_false_eq_true, and_self, true_and, and_true, reduceIte, reduceCtorEq, Nat.reduceEqDiff, Nat.reduceAdd, Nat.zero_add, Nat.add_zero, Option.map_none, Option.map_some, List.map_cons, List.map_nil, List.append_nil, List.cons_append, List.nil_append, List.getElem?_cons_zero, List.getElem?_cons_succ, List.getD_cons_zero, List.getD_cons_succ, List.getD_nil, Bool.not_true, Bool.not_false, decide_true, decide_false]
  generalize hE : D.set B.length (.cells [.slice (some ⟨A.length, 0, none⟩) n n] 32 false) = E
  have lD := pD.length_le
  have lE : E.length = D.length := by rw [← hE]; simp
  have atE : ∀ {o y}, o ≠ B.length → D[o]? = some y → E[o]? = some y := fun ho hy => by rw [← hE, List.getElem?_set_ne (fun e => ho e.symm)]; exact hy
  have eC : E[B.length]? = some (.cells [.slice (some ⟨A.length, 0, none⟩) n n] 32 false) := by rw [← hE, List.getElem?_set_self (by omega)]
  have eB : E[A.length]? = some (.cells (ints (List.replicate n 0)) 3 false) := atE (by omega) dB
  have eA : E[H.length]? = some (.cells [.int .i64 (n : Int), v] 28 false) := atE (by omega) dA
  have hLE := hL.frame (H' := E) (q := B.length) (.inl (by omega)) (fun j y hj hy => atE hj hy)
  have hok := roadsL_ok n es
  have hrl := roadsL_len n es
  have hsml := roadsL_small n es (by omega)
  have hp0 := roads_parts n es
  have hple := pieces_le es (alls n) (alls_sm hn)
  have hal := alls_len n
  refine CallH.by (parts_c w (roadsL n es) (-1) E hLE.row hok (by omega) (by omega) hsml) ?_
  rintro r F ⟨hP, pF⟩
  rw [hp0] at hP
  have lF := pF.length_le
  have hes := even_side hg
  have hmemP : ∀ p ∈ piecesL es (alls n), p.length ≤ 8 ∧ ∀ x ∈ p, 0 ≤ x ∧ x < n := fun p hp => by
    obtain ⟨x, hx, rfl⟩ := pieces_mem hp
    have hx' := alls_sm hn x hx
    exact ⟨(Sm.reach (alls_sm hn) hx').len, fun y hy => (alls_mem n y).1 (piece_sub hp hy)⟩
  have hfst : ∀ p ∈ piecesL es (alls n), 0 < p.length := fun p hp => List.length_pos_of_mem (piece_first hp)
  generalize hPL : piecesL es (alls n) = P at *
  generalize hRL : roadsL n es = L at *
  obtain ⟨us, hus0, hul, _⟩ := hP.parts
  simp (maxSteps := 1000000) (disch := omega) only [hus0.len Try.underlying38, hul, S, S1, S2, S3, S4, ST, eq_self, ne_eq, not_true_eq_false, not_false_eq_true, and_self, true_and, and_true, reduceIte, reduceCtorEq, Nat.reduceEqDiff, Nat.reduceAdd, Nat.zero_add, Nat.add_zero, Option.map_none, Option.map_some, List.map_cons, List.map_nil, List.append_nil, List.cons_append, List.nil_append, List.getElem?_cons_zero, List.getElem?_cons_succ, List.getD_cons_zero, List.getD_cons_succ, List.getD_nil, Bool.not_true, Bool.not_false, decide_true, decide_false]
  refine LoopH.by (fun m s H' => ∃ i, m + i = P.length ∧ s 1 = .pointer (some ⟨H.length, 0, none⟩) ∧ s 3 = w ∧ s 4 = .pointer (some ⟨B.length, 0, none⟩) ∧ s 16 = r ∧ s 17 = .int .i64 (P.length : Int) ∧ s 18 = .int .i64 ((i : Nat) : Int) ∧
    H'[A.length]? = some (.cells (ints (sideL L (P.take i) (List.replicate n 0))) 3 false) ∧ (∀ (j : Nat) (y : AObj), j ≠ A.length → F[j]? = some y → H'[j]? = some y) ∧ F.length ≤ H'.length) P.length ?_ ?_
  · exact ⟨0, by simp, rfl, rfl, rfl, rfl, rfl, rfl, pre_at pF eB, fun j y _ hy => hy, Nat.le_refl _⟩
  rintro m s H' ⟨i, hm, h1, h3, h4, h16, h17, h18, hS, hk, hFl⟩
  have hP' := hP.frame (H' := H') (q := A.length) (.inl (by omega)) hk
  have hL' := (hLE.pre pF).frame (H' := H') (q := A.length) (.inl (by omega)) hk
  have cG := hk _ _ (by omega) (pre_at pF eA)
  have cS := hk _ _ (by omega) (pre_at pF eC)
  have hSl := sideL_len L (P.take i) (List.replicate n 0)
  rw [List.length_replicate] at hSl
  simp (maxSteps := 1000000) (disch := omega) only [h1, h3, h4, h16, h17, h18, S, S1, S2, S3, S4, ST, eq_self, ne_eq, not_true_eq_false, not_false_eq_true, and_self, true_and, and_true, reduceIte, reduceCtorEq, Nat.reduceEqDiff, Nat.reduceAdd, Nat.zero_add, Nat.add_zero, Option.map_none, Option.map_some, List.map_cons, List.map_nil, List.append_nil, List.cons_append, List.nil_append, List.getElem?_cons_zero, List.getElem?_cons_succ, List.getD_cons_zero, List.getD_cons_succ, List.getD_nil, Bool.not_true, Bool.not_false, decide_true, decide_false]
  refine brD.intro (fun g => ?_) (fun g => ?_)
  rotate_left
  · have hi : i = P.length := by omega
    subst hi
    rw [List.take_of_length_le (Nat.le_refl _)] at hS hSl
    have hpre : H <+: H' := prefix_of fun j y hy => hk j y (by have := at_lt hy; omega) (pre_at pF (atE (by have := at_lt hy; omega) (pre_at (pA.trans (pB.trans (pC.trans pD))) hy)))
    have rH' : RowP 76 H' v es := hr.pre hpre
    simp (maxSteps := 1000000) (disch := omega) only [h1, h4, cell_of cG, mkf_1E, S, S1, S2, S3, S4, ST, eq_self, ne_eq, not_true_eq_false, not_false_eq_true, and_self, true_and, and_true, reduceIte, reduceCtorEq, Nat.reduceEqDiff, Nat.reduceAdd, Nat.zero_add, Nat.add_zero, Option.map_none, Option.map_some, List.map_cons, List.map_nil, List.append_nil, List.cons_append, List.nil_append, List.getElem?_cons_zero, List.getElem?_cons_succ, List.getD_cons_zero, List.getD_cons_succ, List.getD_nil, Bool.not_true, Bool.not_false, decide_true, decide_false]
    generalize hSS : sideL L P (List.replicate n 0) = sd at *
    refine CallH.by (ContainsFuncP_c v es (fun e => decide (sd.getD e.1.toNat 0 = sd.getD e.2.toNat 0)) 118 [.pointer (some ⟨B.length, 0, none⟩)] H' rH' hlen (fun x hx H1 hp1 => by
      obtain ⟨q1, q2, q3⟩ := grd_mem hg hx
      have e1 : ((x.1.toNat : Nat) : Int) = x.1 := by omega
      have e2 : ((x.2.toNat : Nat) : Int) = x.2 := by omega
      have := evClos_c x.1.toNat x.2.toNat sd B.length A.length H1 (by rw [hSl]; exact pre_at hp1 cS) (pre_at hp1 hS) (by omega) (by omega)
      rw [e1, e2] at this
      exact this)) ?_
    rintro _ G ⟨rfl, pG⟩
    simp (maxSteps := 1000000) (disch := omega) only [S, S1, S2, S3, S4, ST, eq_self, ne_eq, not_true_eq_false, not_false_eq_true, and_self, true_and, and_true, reduceIte, reduceCtorEq, Nat.reduceEqDiff, Nat.reduceAdd, Nat.zero_add, Nat.add_zero, Option.map_none, Option.map_some, List.map_cons, List.map_nil, List.append_nil, List.cons_append, List.nil_append, List.getElem?_cons_zero, List.getElem?_cons_succ, List.getD_cons_zero, List.getD_cons_succ, List.getD_nil, Bool.not_true, Bool.not_false, decide_true, decide_false]
    refine hQ _ _ _ ?_
    simp (maxSteps := 1000000) (disch := omega) only [S, S1, S2, S3, S4, ST, eq_self, ne_eq, not_true_eq_false, not_false_eq_true, and_self, true_and, and_true, reduceIte, reduceCtorEq, Nat.reduceEqDiff, Nat.reduceAdd, Nat.zero_add, Nat.add_zero, Option.map_none, Option.map_some, List.map_cons, List.map_nil, List.append_nil, List.cons_append, List.nil_append, List.getElem?_cons_zero, List.getElem?_cons_succ, List.getD_cons_zero, List.getD_cons_succ, List.getD_nil, Bool.not_true, Bool.not_false, decide_true, decide_false]
    refine ⟨?_, hpre.trans pG⟩
    rw [Value.bool.injEq]
    cases hev : evB n es
    · rw [hev] at hes
      apply Decidable.byContradiction
      intro hne
      have hany : es.any (fun e => decide (sd.getD e.1.toNat 0 = sd.getD e.2.toNat 0)) = false := by simpa using hne
      have := hes.1 (fun e he => by
        have := List.any_eq_false.1 hany e he
        simpa using this)
      cases this
    · have := hes.2 hev
      have hany : es.any (fun e => decide (sd.getD e.1.toNat 0 = sd.getD e.2.toNat 0)) = false := by
        rw [List.any_eq_false]
        intro e he
        simpa using this e he
      rw [hany]; rfl
  have hi : i < P.length := by omega
  have hmem : P.getD i [] ∈ P := by simp [hi]
  obtain ⟨hp8, hprg⟩ := hmemP _ hmem
  have hpf := hfst _ hmem
  have htk : sideL L (P.take (i + 1)) (List.replicate n 0) = sidePt (bfs L ((P.getD i []).getD 0 0).toNat) (P.getD i []) (sideL L (P.take i) (List.replicate n 0)) := by
    unfold sideL
    rw [List.take_add_one, List.getElem?_eq_getElem hi, List.foldl_append]
    have : P.getD i [] = P[i] := by simp [hi]
    rw [this]; rfl
  obtain ⟨us2, hus2, hul2, heach⟩ := hP'.parts
  have hrow := heach i hi
  have hrw := hrow.row.1
  have hcell := hus2.cell (show i < us2.length by omega)
  generalize hp : P.getD i [] = p at *
  have hp0m : p.getD 0 0 ∈ p := by simp [hpf]
  have hp0r := hprg _ hp0m
  obtain ⟨k, hk0⟩ : ∃ k : Nat, p.getD 0 0 = k := ⟨(p.getD 0 0).toNat, by omega⟩
  rw [hk0] at hp0r htk
  have hc0 := hrw.cell hpf
  rw [hk0, Nat.add_zero] at hc0
  have z0 : (0 : Int).toNat = 0 := rfl
  generalize hu : us2.getD i undef = u at *
  simp (maxSteps := 1000000) (disch := omega) only [h1, h3, h4, h16, h17, h18, hus2.ix Try.underlying38 cs32, hcell, Int.toNat_natCast, hrw.ix Try.underlying32 cs3, z0, hc0, S, S1, S2, S3, S4, ST, eq_self, ne_eq, not_true_eq_false, not_false_eq_true, and_self, true_and, and_true, reduceIte, reduceCtorEq, Nat.reduceEqDiff, Nat.reduceAdd, Nat.zero_add, Nat.add_zero, Option.map_none, Option.map_some, List.map_cons, List.map_nil, List.append_nil, List.cons_append, List.nil_append, List.getElem?_cons_zero, List.getElem?_cons_succ, List.getD_cons_zero, List.getD_cons_succ, List.getD_nil, Bool.not_true, Bool.not_false, decide_true, decide_false]
  refine CallH.by (spread_c w L k H' hL'.row hok (by omega) (by omega) hsml) ?_
  rintro far G ⟨hfar, pG⟩
  rw [Int.toNat_natCast] at htk
  have hbl := bfs_rng L hok k (by omega)
  rw [hrl] at hbl
  have hfr := hfar.row
  have hrG := hrw.pre pG
  have hSG := pre_at pG hS
  have cSG := pre_at pG cS
  generalize hS0 : sideL L (P.take i) (List.replicate n 0) = S0 at *
  generalize hfL : bfs L k = fL at *
  simp (maxSteps := 1000000) (disch := omega) only [h1, h3, h4, h16, h17, h18, hrG.len Try.underlying32, S, S1, S2, S3, S4, ST, eq_self, ne_eq, not_true_eq_false, not_false_eq_true, and_self, true_and, and_true, reduceIte, reduceCtorEq, Nat.reduceEqDiff, Nat.reduceAdd, Nat.zero_add, Nat.add_zero, Option.map_none, Option.map_some, List.map_cons, List.map_nil, List.append_nil, List.cons_append, List.nil_append, List.getElem?_cons_zero, List.getElem?_cons_succ, List.getD_cons_zero, List.getD_cons_succ, List.getD_nil, Bool.not_true, Bool.not_false, decide_true, decide_false]
  have hGl := pG.length_le
  refine LoopH.by (fun m' s' H2 => ∃ j, m' + j = p.length ∧ s' 1 = .pointer (some ⟨H.length, 0, none⟩) ∧ s' 3 = w ∧ s' 4 = .pointer (some ⟨B.length, 0, none⟩) ∧ s' 7 = far ∧ s' 16 = r ∧ s' 17 = .int .i64 (P.length : Int) ∧ s' 18 = .int .i64 ((i : Nat) : Int) ∧ s' 27 = u ∧ s' 28 = .int .i64 (p.length : Int) ∧ s' 29 = .int .i64 ((j : Nat) : Int) ∧
    H2[A.length]? = some (.cells (ints (sidePt fL (p.take j) S0)) 3 false) ∧ (∀ (j : Nat) (y : AObj), j ≠ A.length → G[j]? = some y → H2[j]? = some y) ∧ H2.length = G.length) p.length ?_ ?_
  · refine ⟨0, by simp, ?_⟩
    have f1 : G[A.length]? = some (.cells (ints (sidePt fL (p.take 0) S0)) 3 false) := hSG
    have f2 : ∀ (j : Nat) (y : AObj), j ≠ A.length → G[j]? = some y → G[j]? = some y := fun j y _ hy => hy
    simp (maxSteps := 1000000) (disch := omega) only [h1, h3, h4, h16, h17, h18, S, S1, S2, S3, S4, ST, eq_self, ne_eq, not_true_eq_false, not_false_eq_true, and_self, true_and, and_true, reduceIte, reduceCtorEq, Nat.reduceEqDiff, Nat.reduceAdd, Nat.zero_add, Nat.add_zero, Option.map_none, Option.map_some, List.map_cons, List.map_nil, List.append_nil, List.cons_append, List.nil_append, List.getElem?_cons_zero, List.getElem?_cons_succ, List.getD_cons_zero, List.getD_cons_succ, List.getD_nil, Bool.not_true, Bool.not_false, decide_true, decide_false]
    (repeat' first | exact f1 | exact f2 | apply And.intro) <;> first | (simp only [Value.int.injEq, true_and]; omega) | omega | rfl | assumption | (simp; done) | (simp; omega)
  rintro m' s' H2 ⟨j, hm', k1, k3, k4, k7, k16, k17, k18, k27, k28, k29, hS2, hk2, hl2⟩
  have hSl2 := sidePt_len fL (p.take j) S0
  have ap1 : Apart far (.slice (some ⟨A.length, 0, none⟩) 0 0) := by
    rcases hfar with q | ⟨oo, q1, q2, _⟩
    · exact .inr (.inl q.1)
    · refine .inr (.inr ?_)
      rw [q1]
      show oo ≠ A.length
      omega
  have ap2 : Apart u (.slice (some ⟨A.length, 0, none⟩) 0 0) := by
    rcases hrow.at_ with q | q
    · exact .inr (.inl q)
    · refine .inr (.inr ?_)
      show rowO u ≠ A.length
      omega
  have hkp : Kept (.slice (some ⟨A.length, 0, none⟩) 0 0) G H2 := fun j y hj hy => by
    rcases hj with hj | hj
    · cases hj
    · exact hk2 j y hj hy
  have hf2 := hfr.kept ap1 hkp
  have hr2 := hrG.kept ap2 hkp
  have cS2 := hk2 _ _ (by omega) cSG
  simp (maxSteps := 1000000) (disch := omega) only [k1, k3, k4, k7, k16, k17, k18, k27, k28, k29, S, S1, S2, S3, S4, ST, eq_self, ne_eq, not_true_eq_false, not_false_eq_true, and_self, true_and, and_true, reduceIte, reduceCtorEq, Nat.reduceEqDiff, Nat.reduceAdd, Nat.zero_add, Nat.add_zero, Option.map_none, Option.map_some, List.map_cons, List.map_nil, List.append_nil, List.cons_append, List.nil_append, List.getElem?_cons_zero, List.getElem?_cons_succ, List.getD_cons_zero, List.getD_cons_succ, List.getD_nil, Bool.not_true, Bool.not_false, decide_true, decide_false]
  refine brD.intro (fun q => ?_) (fun q => ?_)
  · have hj : j < p.length := by omega
    have hxm : p.getD j 0 ∈ p := by simp [hj]
    have hxr := hprg _ hxm
    have hcx := hr2.cell hj
    have hstp : sidePt fL (p.take (j + 1)) S0 = (sidePt fL (p.take j) S0).set (p.getD j 0).toNat ((fL.getD (p.getD j 0).toNat 0).tmod 2) := by
      unfold sidePt
      rw [List.take_add_one, List.getElem?_eq_getElem hj, List.foldl_append]
      have : p.getD j 0 = p[j] := by simp [hj]
      rw [this]; rfl
    obtain ⟨x, hx⟩ : ∃ x : Nat, p.getD j 0 = x := ⟨(p.getD j 0).toNat, by omega⟩
    rw [hx] at hxr hcx hstp
    rw [Int.toNat_natCast] at hstp
    have hcf := hf2.cell (show x < fL.length by omega)
    have hsto := st_ints (P := Try.prog) (t := 3) (x := (fL.getD x 0).tmod 2) cs3 hS2 (show x < (sidePt fL (p.take j) S0).length by omega)
    simp (maxSteps := 1000000) (disch := omega) only [k1, k3, k4, k7, k16, k17, k18, k27, k28, k29, hr2.ix Try.underlying32 cs3, hcx, Int.toNat_natCast, cell_of cS2, hf2.ix Try.underlying32 cs3, hcf, Nat.zero_add, hsto, wrap64, S, S1, S2, S3, S4, ST, eq_self, ne_eq, not_true_eq_false, not_false_eq_true, and_self, true_and, and_true, reduceIte, reduceCtorEq, Nat.reduceEqDiff, Nat.reduceAdd, Nat.zero_add, Nat.add_zero, Option.map_none, Option.map_some, List.map_cons, List.map_nil, List.append_nil, List.cons_append, List.nil_append, List.getElem?_cons_zero, List.getElem?_cons_succ, List.getD_cons_zero, List.getD_cons_succ, List.getD_nil, Bool.not_true, Bool.not_false, decide_true, decide_false]
    rw [← hstp]
    have f1 : (H2.set A.length (.cells (ints (sidePt fL (p.take (j + 1)) S0)) 3 false))[A.length]? = some (.cells (ints (sidePt fL (p.take (j + 1)) S0)) 3 false) := at_set hS2
    have f2 : ∀ (j' : Nat) (y : AObj), j' ≠ A.length → G[j']? = some y → (H2.set A.length (.cells (ints (sidePt fL (p.take (j + 1)) S0)) 3 false))[j']? = some y := fun j' y hj' hy => by
      rw [List.getElem?_set_ne (fun e => hj' e.symm)]; exact hk2 j' y hj' hy
    have f3 : (H2.set A.length (.cells (ints (sidePt fL (p.take (j + 1)) S0)) 3 false)).length = G.length := by rw [List.length_set]; exact hl2
    refine ⟨m' - 1, by omega, j + 1, ?_⟩
    (repeat' first | exact f1 | exact f2 | exact f3 | apply And.intro) <;> first | (simp only [Value.int.injEq, true_and]; omega) | omega | rfl | assumption | (simp; done) | (simp; omega)
  · have hj : j = p.length := by omega
    subst hj
    rw [List.take_of_length_le (Nat.le_refl _), ← htk] at hS2
    have f2 : ∀ (j : Nat) (y : AObj), j ≠ A.length → F[j]? = some y → H2[j]? = some y := fun j y hj hy => hk2 j y hj (pre_at pG (hk j y hj hy))
    simp (maxSteps := 1000000) (disch := omega) only [k1, k3, k4, k7, k16, k17, k18, wrap64, S, S1, S2, S3, S4, ST, eq_self, ne_eq, not_true_eq_false, not_false_eq_true, and_self, true_and, and_true, reduceIte, reduceCtorEq, Nat.reduceEqDiff, Nat.reduceAdd, Nat.zero_add, Nat.add_zero, Option.map_none, Option.map_some, List.map_cons, List.map_nil, List.append_nil, List.cons_append, List.nil_append, List.getElem?_cons_zero, List.getElem?_cons_succ, List.getD_cons_zero, List.getD_cons_succ, List.getD_nil, Bool.not_true, Bool.not_false, decide_true, decide_false]
    refine ⟨m - 1, by omega, i + 1, ?_⟩
    (repeat' first | exact hS2 | exact f2 | apply And.intro) <;> first | (simp only [Value.int.injEq, true_and]; omega) | omega | rfl | assumption | (simp; done) | (simp; omega)

theorem EvenS_c (n : Int) (v : Value) (es : List (Int × Int)) (H : AH) (hr : RowP 76 H v es) (hlen : es.length ≤ 1099511627776) (hes : ∀ y ∈ es, I64 y.1 ∧ I64 y.2) (hn : I64 n) :
    ACalls Try.prog 20 [.agg (List.toArray [.int .i64 n, v])] H fun r H' => r = .tuple (List.toArray [.bool (decide (Grd n es) && evB n.toNat es), .bool (decide (Grd n es))]) ∧ H <+: H' := by
  refine in20 rfl ?_
  intro Q hQ
  simp (maxSteps := 1000000) (disch := omega) only [cd20, hr.boxG, S, S1, S2, S3, S4, ST, eq_self, ne_eq, not_true_eq_false, not_false_eq_true, and_self, true_and, and_true, reduceIte, reduceCtorEq, Nat.reduceEqDiff, Nat.reduceAdd, Nat.zero_add, Nat.add_zero, Option.map_none, Option.map_some, List.map_cons, List.map_nil, List.append_nil, List.cons_append, List.nil_append, List.getElem?_cons_zero, List.getElem?_cons_succ, List.getD_cons_zero, List.getD_cons_succ, List.getD_nil, Bool.not_true, Bool.not_false, decide_true, decide_false]
  generalize hA : H ++ [AObj.cells [.int .i64 n, v] 28 false] = A
  have pA : H <+: A := by rw [← hA]; exact List.prefix_append _ _
  have cA : A[H.length]? = some (.cells [.int .i64 n, v] 28 false) := by rw [← hA]; exact at_new ..
  have rA := hr.pre pA
  simp (maxSteps := 1000000) (disch := omega) only [ld_agg ag28 cs28 cA, S, S1, S2, S3, S4, ST, eq_self, ne_eq, not_true_eq_false, not_false_eq_true, and_self, true_and, and_true, reduceIte, reduceCtorEq, Nat.reduceEqDiff, Nat.reduceAdd, Nat.zero_add, Nat.add_zero, Option.map_none, Option.map_some, List.map_cons, List.map_nil, List.append_nil, List.cons_append, List.nil_append, List.getElem?_cons_zero, List.getElem?_cons_succ, List.getD_cons_zero, List.getD_cons_succ, List.getD_nil, Bool.not_true, Bool.not_false, decide_true, decide_false]
  refine CallH.by (l2Good_c n v es A rA (by omega)) ?_
  rintro _ B ⟨rfl, pB⟩
  have cB := pre_at pB cA
  simp (maxSteps := 1000000) (disch := omega) only [S, S1, S2, S3, S4, ST, eq_self, ne_eq, not_true_eq_false, not_false_eq_true, and_self, true_and, and_true, reduceIte, reduceCtorEq, Nat.reduceEqDiff, Nat.reduceAdd, Nat.zero_add, Nat.add_zero, Option.map_none, Option.map_some, List.map_cons, List.map_nil, List.append_nil, List.cons_append, List.nil_append, List.getElem?_cons_zero, List.getElem?_cons_succ, List.getD_cons_zero, List.getD_cons_succ, List.getD_nil, Bool.not_true, Bool.not_false, decide_true, decide_false]
  refine brD.intro (fun e => ?_) (fun e => ?_) <;> simp (maxSteps := 1000000) (disch := omega) only [e, ld_agg ag28 cs28 cB, S, S1, S2, S3, S4, ST, eq_self, ne_eq, not_true_eq_false, not_false_eq_true, and_self, true_and, and_true, reduceIte, reduceCtorEq, Nat.reduceEqDiff, Nat.reduceAdd, Nat.zero_add, Nat.add_zero, Option.map_none, Option.map_some, List.map_cons, List.map_nil, List.append_nil, List.cons_append, List.nil_append, List.getElem?_cons_zero, List.getElem?_cons_succ, List.getD_cons_zero, List.getD_cons_succ, List.getD_nil, Bool.not_true, Bool.not_false, decide_true, decide_false]
  · obtain ⟨k, hk⟩ : ∃ k : Nat, n = k := ⟨n.toNat, by have := e.1; omega⟩
    subst hk
    refine CallH.by (l9Even_c k v es B (rA.pre pB) hlen (by have := e.1; omega)) ?_
    rintro _ C ⟨rfl, pC⟩
    simp (maxSteps := 1000000) (disch := omega) only [e, S, S1, S2, S3, S4, ST, eq_self, ne_eq, not_true_eq_false, not_false_eq_true, and_self, true_and, and_true, reduceIte, reduceCtorEq, Nat.reduceEqDiff, Nat.reduceAdd, Nat.zero_add, Nat.add_zero, Option.map_none, Option.map_some, List.map_cons, List.map_nil, List.append_nil, List.cons_append, List.nil_append, List.getElem?_cons_zero, List.getElem?_cons_succ, List.getD_cons_zero, List.getD_cons_succ, List.getD_nil, Bool.not_true, Bool.not_false, decide_true, decide_false]
    refine hQ _ _ _ ?_
    simp (maxSteps := 1000000) (disch := omega) only [e, S, S1, S2, S3, S4, ST, eq_self, ne_eq, not_true_eq_false, not_false_eq_true, and_self, true_and, and_true, reduceIte, reduceCtorEq, Nat.reduceEqDiff, Nat.reduceAdd, Nat.zero_add, Nat.add_zero, Option.map_none, Option.map_some, List.map_cons, List.map_nil, List.append_nil, List.cons_append, List.nil_append, List.getElem?_cons_zero, List.getElem?_cons_succ, List.getD_cons_zero, List.getD_cons_succ, List.getD_nil, Bool.not_true, Bool.not_false, decide_true, decide_false]
    simp [e, pA.trans (pB.trans pC)]
  · refine hQ _ _ _ ?_
    simp (maxSteps := 1000000) (disch := omega) only [e, S, S1, S2, S3, S4, ST, eq_self, ne_eq, not_true_eq_false, not_false_eq_true, and_self, true_and, and_true, reduceIte, reduceCtorEq, Nat.reduceEqDiff, Nat.reduceAdd, Nat.zero_add, Nat.add_zero, Option.map_none, Option.map_some, List.map_cons, List.map_nil, List.append_nil, List.cons_append, List.nil_append, List.getElem?_cons_zero, List.getElem?_cons_succ, List.getD_cons_zero, List.getD_cons_succ, List.getD_nil, Bool.not_true, Bool.not_false, decide_true, decide_false]
    simp [e, pA.trans pB]

theorem EvenI_c (n : Int) (v : Value) (es : List (Int × Int)) (H : AH) (hr : RowP 76 H v es) (hlen : es.length ≤ 1099511627776) (hes : ∀ y ∈ es, I64 y.1 ∧ I64 y.2) (hn : I64 n) :
    ACalls Try.prog 21 [.agg (List.toArray [.int .i64 n, v])] H fun r H' => r = .tuple (List.toArray [.bool (decide (Grd n es) && evB n.toNat es), .bool (decide (Grd n es))]) ∧ H <+: H' := by
  refine in21 rfl ?_
  intro Q hQ
  simp (maxSteps := 1000000) (disch := omega) only [cd21, hr.boxG, S, S1, S2, S3, S4, ST, eq_self, ne_eq, not_true_eq_false, not_false_eq_true, and_self, true_and, and_true, reduceIte, reduceCtorEq, Nat.reduceEqDiff, Nat.reduceAdd, Nat.zero_add, Nat.add_zero, Option.map_none, Option.map_some, List.map_cons, List.map_nil, List.append_nil, List.cons_append, List.nil_append, List.getElem?_cons_zero, List.getElem?_cons_succ, List.getD_cons_zero, List.getD_cons_succ, List.getD_nil, Bool.not_true, Bool.not_false, decide_true, decide_false]
  generalize hA : H ++ [AObj.cells [.int .i64 n, v] 28 false] = A
  have pA : H <+: A := by rw [← hA]; exact List.prefix_append _ _
  have cA : A[H.length]? = some (.cells [.int .i64 n, v] 28 false) := by rw [← hA]; exact at_new ..
  have rA := hr.pre pA
  simp (maxSteps := 1000000) (disch := omega) only [ld_agg ag28 cs28 cA, S, S1, S2, S3, S4, ST, eq_self, ne_eq, not_true_eq_false, not_false_eq_true, and_self, true_and, and_true, reduceIte, reduceCtorEq, Nat.reduceEqDiff, Nat.reduceAdd, Nat.zero_add, Nat.add_zero, Option.map_none, Option.map_some, List.map_cons, List.map_nil, List.append_nil, List.cons_append, List.nil_append, List.getElem?_cons_zero, List.getElem?_cons_succ, List.getD_cons_zero, List.getD_cons_succ, List.getD_nil, Bool.not_true, Bool.not_false, decide_true, decide_false]
  refine CallH.by (IsGraph_c n v es A rA (by omega)) ?_
  rintro _ B ⟨rfl, pB⟩
  have cB := pre_at pB cA
  simp (maxSteps := 1000000) (disch := omega) only [S, S1, S2, S3, S4, ST, eq_self, ne_eq, not_true_eq_false, not_false_eq_true, and_self, true_and, and_true, reduceIte, reduceCtorEq, Nat.reduceEqDiff, Nat.reduceAdd, Nat.zero_add, Nat.add_zero, Option.map_none, Option.map_some, List.map_cons, List.map_nil, List.append_nil, List.cons_append, List.nil_append, List.getElem?_cons_zero, List.getElem?_cons_succ, List.getD_cons_zero, List.getD_cons_succ, List.getD_nil, Bool.not_true, Bool.not_false, decide_true, decide_false]
  refine brD.intro (fun e => ?_) (fun e => ?_) <;> simp (maxSteps := 1000000) (disch := omega) only [e, ld_agg ag28 cs28 cB, S, S1, S2, S3, S4, ST, eq_self, ne_eq, not_true_eq_false, not_false_eq_true, and_self, true_and, and_true, reduceIte, reduceCtorEq, Nat.reduceEqDiff, Nat.reduceAdd, Nat.zero_add, Nat.add_zero, Option.map_none, Option.map_some, List.map_cons, List.map_nil, List.append_nil, List.cons_append, List.nil_append, List.getElem?_cons_zero, List.getElem?_cons_succ, List.getD_cons_zero, List.getD_cons_succ, List.getD_nil, Bool.not_true, Bool.not_false, decide_true, decide_false]
  · obtain ⟨k, hk⟩ : ∃ k : Nat, n = k := ⟨n.toNat, by have := e.1; omega⟩
    subst hk
    refine CallH.by (isEven_c k v es B (rA.pre pB) hlen e) ?_
    rintro _ C ⟨rfl, pC⟩
    simp (maxSteps := 1000000) (disch := omega) only [e, S, S1, S2, S3, S4, ST, eq_self, ne_eq, not_true_eq_false, not_false_eq_true, and_self, true_and, and_true, reduceIte, reduceCtorEq, Nat.reduceEqDiff, Nat.reduceAdd, Nat.zero_add, Nat.add_zero, Option.map_none, Option.map_some, List.map_cons, List.map_nil, List.append_nil, List.cons_append, List.nil_append, List.getElem?_cons_zero, List.getElem?_cons_succ, List.getD_cons_zero, List.getD_cons_succ, List.getD_nil, Bool.not_true, Bool.not_false, decide_true, decide_false]
    refine hQ _ _ _ ?_
    simp (maxSteps := 1000000) (disch := omega) only [e, S, S1, S2, S3, S4, ST, eq_self, ne_eq, not_true_eq_false, not_false_eq_true, and_self, true_and, and_true, reduceIte, reduceCtorEq, Nat.reduceEqDiff, Nat.reduceAdd, Nat.zero_add, Nat.add_zero, Option.map_none, Option.map_some, List.map_cons, List.map_nil, List.append_nil, List.cons_append, List.nil_append, List.getElem?_cons_zero, List.getElem?_cons_succ, List.getD_cons_zero, List.getD_cons_succ, List.getD_nil, Bool.not_true, Bool.not_false, decide_true, decide_false]
    simp [e, pA.trans (pB.trans pC)]
  · refine hQ _ _ _ ?_
    simp (maxSteps := 1000000) (disch := omega) only [e, S, S1, S2, S3, S4, ST, eq_self, ne_eq, not_true_eq_false, not_false_eq_true, and_self, true_and, and_true, reduceIte, reduceCtorEq, Nat.reduceEqDiff, Nat.reduceAdd, Nat.zero_add, Nat.add_zero, Option.map_none, Option.map_some, List.map_cons, List.map_nil, List.append_nil, List.cons_append, List.nil_append, List.getElem?_cons_zero, List.getElem?_cons_succ, List.getD_cons_zero, List.getD_cons_succ, List.getD_nil, Bool.not_true, Bool.not_false, decide_true, decide_false]
    simp [e, pA.trans pB]
end Go.Proofs.Ythhnpchjjbjabaa.Ai
