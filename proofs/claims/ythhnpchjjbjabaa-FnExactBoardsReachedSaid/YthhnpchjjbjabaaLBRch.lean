/- FnExactBoardsReached: the law, from both sides' contracts. -/
import Derived.Test.YthhnpchjjbjabaaBRch
import Derived.Test.YthhnpchjjbjabaaMark
import Derived.Test.YthhnpchjjbjabaaMarkP
import Derived.Test.YthhnpchjjbjabaaPrs
import Derived.Test.YthhnpchjjbjabaaGrf
import Derived.Test.YthhnpchjjbjabaaProg
import Derived.Test.YthhnpchjjbjabaaAiM2
import Derived.KernelRfl
/- Slim code of this translation. By the kernel. -/
namespace Go.Proofs.Ythhnpchjjbjabaa.Ai
open Go

/- loop.example/g01128/laws.FnExactBoardsReached -/
def ords6 : List (Nat × List (Nat × Bool)) := [(13, [(0, false), (1, false), (2, true), (3, true), (4, false)])]
def cd6 : Cd := (.seq (.reg [⟨⟨some 2, Op.box 24 (Operand.tmp 0), none⟩, []⟩,
  ⟨⟨some 4, Op.assign (Operand.const (Value.bool false)), none⟩, []⟩]) (.seq (.seq (.reg [⟨⟨some 12, Op.move (Operand.tmp 1), none⟩, []⟩,
  ⟨⟨some 13, Op.call { callee := (Callee.builtin Builtin.len), args := #[(Operand.tmp 12)], argTypes := #[32] }, none⟩, []⟩,
  ⟨⟨some 14, Op.binOp BinOp.gtr 3 (Operand.tmp 13) (Operand.const (Value.int IntKind.i64 1048576)) 3, none⟩, []⟩]) (.cond (Operand.tmp 14) (.seq (.reg [⟨⟨some 4, Op.assign (Operand.const (Value.bool true)), none⟩, []⟩]) .ret) .skip)) (.seq (.reg [⟨⟨some 5, Op.assign (Operand.const (Value.int IntKind.i64 1048576)), none⟩, []⟩]) (.seq (.reg [⟨⟨some 15, Op.load 24 (Operand.tmp 2), none⟩, []⟩,
  ⟨⟨some 16, Op.move (Operand.tmp 5), none⟩, []⟩,
  ⟨⟨some 17, Op.call { callee := (Callee.value (Operand.func 15)), args := #[(Operand.tmp 15), (Operand.tmp 16)], argTypes := #[24, 3] }, none⟩, []⟩,
  ⟨⟨some 5, Op.assign (Operand.tmp 17), none⟩, []⟩]) (.seq (.seq (.reg [⟨⟨some 18, Op.move (Operand.tmp 5), none⟩, []⟩,
  ⟨⟨some 19, Op.binOp BinOp.lss 3 (Operand.tmp 18) (Operand.const (Value.int IntKind.i64 0)) 3, none⟩, []⟩]) (.cond (Operand.tmp 19) (.seq (.reg [⟨⟨some 4, Op.assign (Operand.const (Value.bool true)), none⟩, []⟩]) .ret) .skip)) (.seq (.reg [⟨⟨some 21, Op.load 24 (Operand.tmp 2), none⟩, []⟩,
  ⟨⟨some 22, Op.call { callee := (Callee.value (Operand.func 17)), args := #[(Operand.tmp 21)], argTypes := #[24] }, none⟩, []⟩,
  ⟨⟨some 23, Op.move (Operand.tmp 1), none⟩, []⟩,
  ⟨⟨some 24, Op.call { callee := (Callee.value (Operand.func 23)), args := #[(Operand.tmp 23)], argTypes := #[32] }, none⟩, []⟩,
  ⟨⟨some 25, Op.call { callee := (Callee.value (Operand.func 26)), args := #[(Operand.tmp 22), (Operand.tmp 24)], argTypes := #[28, 32] }, none⟩, []⟩,
  ⟨⟨some 20, Op.move (Operand.tmp 25), none⟩, []⟩,
  ⟨⟨some 26, Op.extract (Operand.tmp 20) 0, none⟩, []⟩,
  ⟨⟨some 27, Op.extract (Operand.tmp 20) 1, none⟩, []⟩,
  ⟨⟨some 6, Op.assign (Operand.tmp 26), none⟩, []⟩,
  ⟨⟨some 7, Op.assign (Operand.tmp 27), none⟩, []⟩]) (.seq (.reg [⟨⟨some 28, Op.load 24 (Operand.tmp 2), none⟩, []⟩,
  ⟨⟨some 29, Op.call { callee := (Callee.value (Operand.func 17)), args := #[(Operand.tmp 28)], argTypes := #[24] }, none⟩, []⟩,
  ⟨⟨some 8, Op.alloc 28, none⟩, []⟩,
  ⟨⟨none, Op.store 28 (Operand.tmp 8) (Operand.tmp 29), none⟩, []⟩]) (.seq (.reg [⟨⟨some 30, Op.move (Operand.tmp 1), none⟩, []⟩,
  ⟨⟨some 31, Op.call { callee := (Callee.value (Operand.func 23)), args := #[(Operand.tmp 30)], argTypes := #[32] }, none⟩, []⟩,
  ⟨⟨some 9, Op.assign (Operand.tmp 31), none⟩, []⟩]) (.seq (.reg [⟨⟨some 33, Op.load 28 (Operand.tmp 8), none⟩, []⟩,
  ⟨⟨some 34, Op.move (Operand.tmp 9), none⟩, []⟩,
  ⟨⟨some 35, Op.call { callee := (Callee.value (Operand.func 27)), args := #[(Operand.tmp 33), (Operand.tmp 34)], argTypes := #[28, 32] }, none⟩, []⟩,
  ⟨⟨some 32, Op.move (Operand.tmp 35), none⟩, []⟩,
  ⟨⟨some 36, Op.extract (Operand.tmp 32) 0, none⟩, []⟩,
  ⟨⟨some 37, Op.extract (Operand.tmp 32) 1, none⟩, []⟩,
  ⟨⟨some 10, Op.assign (Operand.tmp 36), none⟩, []⟩,
  ⟨⟨some 11, Op.assign (Operand.tmp 37), none⟩, []⟩]) (.seq (.seq (.reg [⟨⟨some 38, Op.move (Operand.tmp 10), none⟩, []⟩,
  ⟨⟨some 39, Op.move (Operand.tmp 6), none⟩, []⟩,
  ⟨⟨some 40, Op.binOp BinOp.neq 3 (Operand.tmp 38) (Operand.tmp 39) 3, none⟩, []⟩,
  ⟨⟨some 41, Op.move (Operand.tmp 40), none⟩, []⟩,
  ⟨⟨some 42, Op.move (Operand.tmp 11), some (41, false)⟩, []⟩,
  ⟨⟨some 43, Op.move (Operand.tmp 7), some (41, false)⟩, []⟩,
  ⟨⟨some 44, Op.binOp BinOp.neq 4 (Operand.tmp 42) (Operand.tmp 43) 4, some (41, false)⟩, []⟩,
  ⟨⟨some 45, Op.pick (Operand.tmp 41) (Operand.const (Value.bool true)) (Operand.tmp 44), none⟩, []⟩]) (.cond (Operand.tmp 45) (.seq (.reg [⟨⟨some 4, Op.assign (Operand.const (Value.bool false)), none⟩, []⟩]) .ret) .skip)) (.seq (.seq (.reg [⟨⟨some 46, Op.load 28 (Operand.tmp 8), none⟩, []⟩,
  ⟨⟨some 47, Op.load 24 (Operand.tmp 2), none⟩, []⟩,
  ⟨⟨some 48, Op.call { callee := (Callee.value (Operand.func 17)), args := #[(Operand.tmp 47)], argTypes := #[24] }, none⟩, [⟨some 46, Op.load 28 (Operand.tmp 8), none⟩]⟩,
  ⟨⟨some 49, Op.call { callee := (Callee.value (Operand.func 19)), args := #[(Operand.tmp 46), (Operand.tmp 48)], argTypes := #[28, 28] }, none⟩, []⟩,
  ⟨⟨some 50, Op.unOp UnOp.not 4 (Operand.tmp 49), none⟩, []⟩]) (.cond (Operand.tmp 50) (.seq (.reg [⟨⟨some 4, Op.assign (Operand.const (Value.bool false)), none⟩, []⟩]) .ret) .skip)) (.seq (.seq (.reg [⟨⟨some 51, Op.move (Operand.tmp 9), none⟩, []⟩,
  ⟨⟨some 52, Op.move (Operand.tmp 1), none⟩, []⟩,
  ⟨⟨some 53, Op.call { callee := (Callee.value (Operand.func 23)), args := #[(Operand.tmp 52)], argTypes := #[32] }, none⟩, []⟩,
  ⟨⟨some 54, Op.call { callee := (Callee.value (Operand.func 25)), args := #[(Operand.tmp 51), (Operand.tmp 53)], argTypes := #[32, 32] }, none⟩, []⟩,
  ⟨⟨some 55, Op.unOp UnOp.not 4 (Operand.tmp 54), none⟩, []⟩]) (.cond (Operand.tmp 55) (.seq (.reg [⟨⟨some 4, Op.assign (Operand.const (Value.bool false)), none⟩, []⟩]) .ret) .skip)) (.seq (.reg [⟨⟨some 4, Op.assign (Operand.const (Value.bool true)), none⟩, []⟩]) .ret)))))))))))))
theorem sl6 : slim Try.f6.ntmps ords6 (Try.f6.body.getD .skip) = some cd6 := by kernel_rfl
theorem in6 {args : List Value} {H : AH} {R : Value → AH → Prop} (hl : args.length = 2) (h : ∀ (Q : Exit → Sl → AH → Prop), (∀ e s H, endA Try.prog [ResultVar.tmp 4] R e s H → Q e s H) → wpC Try.prog cd6 Q (enterA args) H) : ACalls Try.prog 6 args H R :=
  ACalls.intro (by kernel_rfl) Try.func6 rfl (by kernel_rfl) sl6 hl (of_decide_eq_true (by kernel_rfl)) (by kernel_rfl) h
end Go.Proofs.Ythhnpchjjbjabaa.Ai

namespace Go.Proofs.Ythhnpchjjbjabaa.Ai
open Go Go.RowKit
set_option linter.unusedVariables false
set_option linter.unusedSimpArgs false
set_option maxRecDepth 20000 in
set_option maxHeartbeats 8000000 in
theorem bRchLaw_c  (n0 : Int) (v0 : Value) (v1 : Value) (xs0 : List (Int × Int)) (xs1 : List Int) (H0 : AH) (r0 : RowP 76 H0 v0 xs0) (b0 : (∀ y ∈ xs0, I64 y.1 ∧ I64 y.2) ∧ (xs0.length : Int) ≤ 9223372036854775807) (r1 : Row 3 H0 v1 xs1) (b1 : ∀ y ∈ xs1, I64 y) (bn0 : I64 n0) :
    ACalls Try.prog 6 [.agg (List.toArray [.int .i64 n0, v0]), v1] H0 fun r H' => r = .bool true := by
  refine in6 rfl ?_
  intro Q hQ
  simp (maxSteps := 4000000) (disch := omega) only [cd6, r1.len Try.underlying32, r0.boxL, S, S1, S2, S3, S4, ST, eq_self, ne_eq, not_true_eq_false, not_false_eq_true, and_self, true_and, and_true, reduceIte, reduceCtorEq, Nat.reduceEqDiff, Nat.reduceAdd, Nat.zero_add, Nat.add_zero, Option.map_none, Option.map_some, List.map_cons, List.map_nil, List.append_nil, List.cons_append, List.nil_append, List.getElem?_cons_zero, List.getElem?_cons_succ, List.getD_cons_zero, List.getD_cons_succ, List.getD_nil, Bool.not_true, Bool.not_false, decide_true, decide_false]
  generalize hG0 : H0 ++ [AObj.cells [.int .i64 n0, v0] 24 false] = H1
  have p1 : H0 <+: H1 := by rw [← hG0]; exact List.prefix_append _ _
  have CB0_1 : H1[H0.length]? = some (.cells [.int .i64 n0, v0] 24 false) := by rw [← hG0]; exact at_new ..
  have L1 := p1.length_le
  have Lb := at_lt CB0_1
  try simp (maxSteps := 4000000) (disch := omega) only [r1.len Try.underlying32, ld_agg ag24 cs24 CB0_1, S, S1, S2, S3, S4, ST, eq_self, ne_eq, not_true_eq_false, not_false_eq_true, and_self, true_and, and_true, reduceIte, reduceCtorEq, Nat.reduceEqDiff, Nat.reduceAdd, Nat.zero_add, Nat.add_zero, Option.map_none, Option.map_some, List.map_cons, List.map_nil, List.append_nil, List.cons_append, List.nil_append, List.getElem?_cons_zero, List.getElem?_cons_succ, List.getD_cons_zero, List.getD_cons_succ, List.getD_nil, Bool.not_true, Bool.not_false, decide_true, decide_false]
  refine brD.intro (fun g1 => ?_) (fun g1 => ?_) <;> simp (maxSteps := 4000000) (disch := omega) only [r1.len Try.underlying32, ld_agg ag24 cs24 CB0_1, S, S1, S2, S3, S4, ST, eq_self, ne_eq, not_true_eq_false, not_false_eq_true, and_self, true_and, and_true, reduceIte, reduceCtorEq, Nat.reduceEqDiff, Nat.reduceAdd, Nat.zero_add, Nat.add_zero, Option.map_none, Option.map_some, List.map_cons, List.map_nil, List.append_nil, List.cons_append, List.nil_append, List.getElem?_cons_zero, List.getElem?_cons_succ, List.getD_cons_zero, List.getD_cons_succ, List.getD_nil, Bool.not_true, Bool.not_false, decide_true, decide_false]
  · refine hQ _ _ _ ?_
    simp (maxSteps := 4000000) (disch := omega) only [ld_agg ag24 cs24 CB0_1, S, S1, S2, S3, S4, ST, eq_self, ne_eq, not_true_eq_false, not_false_eq_true, and_self, true_and, and_true, reduceIte, reduceCtorEq, Nat.reduceEqDiff, Nat.reduceAdd, Nat.zero_add, Nat.add_zero, Option.map_none, Option.map_some, List.map_cons, List.map_nil, List.append_nil, List.cons_append, List.nil_append, List.getElem?_cons_zero, List.getElem?_cons_succ, List.getD_cons_zero, List.getD_cons_succ, List.getD_nil, Bool.not_true, Bool.not_false, decide_true, decide_false]
  have l1 : xs1.length ≤ 1048576 := by omega
  have Ra0_0 := r0.b
  have Ra0_1 := Ra0_0.pre p1
  have Ra1_0 := r1.b
  have Ra1_1 := Ra1_0.pre p1
  refine CallH.by (szGraph_c n0 v0 xs0 (1048576) H1 Ra0_1.1 (by omega) b0.2) ?_
  rintro _ H2 ⟨rfl, p2⟩
  have Ra0_2 := Ra0_1.pre p2
  have Ra1_2 := Ra1_1.pre p2
  have CB0_2 := pre_at p2 CB0_1
  have L2 := p2.length_le
  simp (maxSteps := 4000000) (disch := omega) only [ld_agg ag24 cs24 CB0_2, S, S1, S2, S3, S4, ST, eq_self, ne_eq, not_true_eq_false, not_false_eq_true, and_self, true_and, and_true, reduceIte, reduceCtorEq, Nat.reduceEqDiff, Nat.reduceAdd, Nat.zero_add, Nat.add_zero, Option.map_none, Option.map_some, List.map_cons, List.map_nil, List.append_nil, List.cons_append, List.nil_append, List.getElem?_cons_zero, List.getElem?_cons_succ, List.getD_cons_zero, List.getD_cons_succ, List.getD_nil, Bool.not_true, Bool.not_false, decide_true, decide_false]
  by_cases g0 : 1048576 - (xs0.length : Int) < 0
  · rw [if_pos g0]
    try simp (maxSteps := 4000000) (disch := omega) only [ld_agg ag24 cs24 CB0_2, S, S1, S2, S3, S4, ST, eq_self, ne_eq, not_true_eq_false, not_false_eq_true, and_self, true_and, and_true, reduceIte, reduceCtorEq, Nat.reduceEqDiff, Nat.reduceAdd, Nat.zero_add, Nat.add_zero, Option.map_none, Option.map_some, List.map_cons, List.map_nil, List.append_nil, List.cons_append, List.nil_append, List.getElem?_cons_zero, List.getElem?_cons_succ, List.getD_cons_zero, List.getD_cons_succ, List.getD_nil, Bool.not_true, Bool.not_false, decide_true, decide_false]
    try (refine brD.intro (fun _ => ?_) (fun h => absurd h (by omega)))
    try simp (maxSteps := 4000000) (disch := omega) only [ld_agg ag24 cs24 CB0_2, S, S1, S2, S3, S4, ST, eq_self, ne_eq, not_true_eq_false, not_false_eq_true, and_self, true_and, and_true, reduceIte, reduceCtorEq, Nat.reduceEqDiff, Nat.reduceAdd, Nat.zero_add, Nat.add_zero, Option.map_none, Option.map_some, List.map_cons, List.map_nil, List.append_nil, List.cons_append, List.nil_append, List.getElem?_cons_zero, List.getElem?_cons_succ, List.getD_cons_zero, List.getD_cons_succ, List.getD_nil, Bool.not_true, Bool.not_false, decide_true, decide_false]
    refine hQ _ _ _ ?_
    simp (maxSteps := 4000000) (disch := omega) only [ld_agg ag24 cs24 CB0_2, S, S1, S2, S3, S4, ST, eq_self, ne_eq, not_true_eq_false, not_false_eq_true, and_self, true_and, and_true, reduceIte, reduceCtorEq, Nat.reduceEqDiff, Nat.reduceAdd, Nat.zero_add, Nat.add_zero, Option.map_none, Option.map_some, List.map_cons, List.map_nil, List.append_nil, List.cons_append, List.nil_append, List.getElem?_cons_zero, List.getElem?_cons_succ, List.getD_cons_zero, List.getD_cons_succ, List.getD_nil, Bool.not_true, Bool.not_false, decide_true, decide_false]
  rw [if_neg g0]
  try simp (maxSteps := 4000000) (disch := omega) only [g0, ld_agg ag24 cs24 CB0_2, S, S1, S2, S3, S4, ST, eq_self, ne_eq, not_true_eq_false, not_false_eq_true, and_self, true_and, and_true, reduceIte, reduceCtorEq, Nat.reduceEqDiff, Nat.reduceAdd, Nat.zero_add, Nat.add_zero, Option.map_none, Option.map_some, List.map_cons, List.map_nil, List.append_nil, List.cons_append, List.nil_append, List.getElem?_cons_zero, List.getElem?_cons_succ, List.getD_cons_zero, List.getD_cons_succ, List.getD_nil, Bool.not_true, Bool.not_false, decide_true, decide_false]
  try refine brD.intro (fun h => absurd h (by omega)) (fun _ => ?_)
  try simp (maxSteps := 4000000) (disch := omega) only [g0, ld_agg ag24 cs24 CB0_2, S, S1, S2, S3, S4, ST, eq_self, ne_eq, not_true_eq_false, not_false_eq_true, and_self, true_and, and_true, reduceIte, reduceCtorEq, Nat.reduceEqDiff, Nat.reduceAdd, Nat.zero_add, Nat.add_zero, Option.map_none, Option.map_some, List.map_cons, List.map_nil, List.append_nil, List.cons_append, List.nil_append, List.getElem?_cons_zero, List.getElem?_cons_succ, List.getD_cons_zero, List.getD_cons_succ, List.getD_nil, Bool.not_true, Bool.not_false, decide_true, decide_false]
  have l0 : xs0.length ≤ 1048576 := by omega
  have L0_big : xs0.length ≤ 1099511627776 := by omega
  have L1_big : xs1.length ≤ 1099511627776 := by omega
  refine CallH.by (toGraph_c n0 v0 xs0 H2 Ra0_2.1 L0_big) ?_
  rintro _ H3 ⟨c0, rfl, qc0, p3⟩
  have Ra0_3 := Ra0_2.pre p3
  have Ra1_3 := Ra1_2.pre p3
  have CB0_3 := pre_at p3 CB0_2
  have L3 := p3.length_le
  have Mc0_3 := InP.of qc0
  have Rc0_3 := Mc0_3.row
  simp (maxSteps := 4000000) (disch := omega) only [ld_agg ag24 cs24 CB0_3, S, S1, S2, S3, S4, ST, eq_self, ne_eq, not_true_eq_false, not_false_eq_true, and_self, true_and, and_true, reduceIte, reduceCtorEq, Nat.reduceEqDiff, Nat.reduceAdd, Nat.zero_add, Nat.add_zero, Option.map_none, Option.map_some, List.map_cons, List.map_nil, List.append_nil, List.cons_append, List.nil_append, List.getElem?_cons_zero, List.getElem?_cons_succ, List.getD_cons_zero, List.getD_cons_succ, List.getD_nil, Bool.not_true, Bool.not_false, decide_true, decide_false]
  refine CallH.by (toIntS_c v1 xs1 H3 Ra1_3.1 L1_big) ?_
  rintro c1 H4 ⟨qc1, p4⟩
  have Ra0_4 := Ra0_3.pre p4
  have Ra1_4 := Ra1_3.pre p4
  have Rc0_4 := Rc0_3.pre p4
  have Mc0_4 := Mc0_3.pre p4
  have CB0_4 := pre_at p4 CB0_3
  have L4 := p4.length_le
  have Mc1_4 := InI.of qc1.mine
  have Rc1_4 := Mc1_4.row
  simp (maxSteps := 4000000) (disch := omega) only [ld_agg ag24 cs24 CB0_4, S, S1, S2, S3, S4, ST, eq_self, ne_eq, not_true_eq_false, not_false_eq_true, and_self, true_and, and_true, reduceIte, reduceCtorEq, Nat.reduceEqDiff, Nat.reduceAdd, Nat.zero_add, Nat.add_zero, Option.map_none, Option.map_some, List.map_cons, List.map_nil, List.append_nil, List.cons_append, List.nil_append, List.getElem?_cons_zero, List.getElem?_cons_succ, List.getD_cons_zero, List.getD_cons_succ, List.getD_nil, Bool.not_true, Bool.not_false, decide_true, decide_false]
  refine CallH.by (BReS_c  n0 c0 c1 xs0 xs1 H4 Rc0_4.1 L0_big b0.1 Rc1_4.1 L1_big b1 bn0) ?_
  rintro _ H5 ⟨rfl, p5⟩
  have Ra0_5 := Ra0_4.pre p5
  have Ra1_5 := Ra1_4.pre p5
  have Rc0_5 := Rc0_4.pre p5
  have Rc1_5 := Rc1_4.pre p5
  have Mc0_5 := Mc0_4.pre p5
  have Mc1_5 := Mc1_4.pre p5
  have CB0_5 := pre_at p5 CB0_4
  have L5 := p5.length_le
  simp (maxSteps := 4000000) (disch := omega) only [ld_agg ag24 cs24 CB0_5, S, S1, S2, S3, S4, ST, eq_self, ne_eq, not_true_eq_false, not_false_eq_true, and_self, true_and, and_true, reduceIte, reduceCtorEq, Nat.reduceEqDiff, Nat.reduceAdd, Nat.zero_add, Nat.add_zero, Option.map_none, Option.map_some, List.map_cons, List.map_nil, List.append_nil, List.cons_append, List.nil_append, List.getElem?_cons_zero, List.getElem?_cons_succ, List.getD_cons_zero, List.getD_cons_succ, List.getD_nil, Bool.not_true, Bool.not_false, decide_true, decide_false]
  refine CallH.by (toGraph_c n0 v0 xs0 H5 Ra0_5.1 L0_big) ?_
  rintro _ H6 ⟨d0, rfl, qd0, p6⟩
  have Ra0_6 := Ra0_5.pre p6
  have Ra1_6 := Ra1_5.pre p6
  have CB0_6 := pre_at p6 CB0_5
  have L6 := p6.length_le
  have Md0_6 := InP.of qd0
  have Rd0_6 := Md0_6.row
  simp (maxSteps := 4000000) (disch := omega) only [ld_agg ag24 cs24 CB0_6, S, S1, S2, S3, S4, ST, eq_self, ne_eq, not_true_eq_false, not_false_eq_true, and_self, true_and, and_true, reduceIte, reduceCtorEq, Nat.reduceEqDiff, Nat.reduceAdd, Nat.zero_add, Nat.add_zero, Option.map_none, Option.map_some, List.map_cons, List.map_nil, List.append_nil, List.cons_append, List.nil_append, List.getElem?_cons_zero, List.getElem?_cons_succ, List.getD_cons_zero, List.getD_cons_succ, List.getD_nil, Bool.not_true, Bool.not_false, decide_true, decide_false]
  have hst0 := st_G Rd0_6.1 (at_new H6 (.cells [.int .i64 0, .slice none 0 0] 28 false)) rfl n0
  simp (maxSteps := 4000000) (disch := omega) only [alloc_G, hst0, set_new, ld_agg ag24 cs24 CB0_6, S, S1, S2, S3, S4, ST, eq_self, ne_eq, not_true_eq_false, not_false_eq_true, and_self, true_and, and_true, reduceIte, reduceCtorEq, Nat.reduceEqDiff, Nat.reduceAdd, Nat.zero_add, Nat.add_zero, Option.map_none, Option.map_some, List.map_cons, List.map_nil, List.append_nil, List.cons_append, List.nil_append, List.getElem?_cons_zero, List.getElem?_cons_succ, List.getD_cons_zero, List.getD_cons_succ, List.getD_nil, Bool.not_true, Bool.not_false, decide_true, decide_false]
  generalize hX0 : H6 ++ [AObj.cells [.int .i64 n0, d0] 28 false] = H7
  have p7 : H6 <+: H7 := by rw [← hX0]; exact List.prefix_append _ _
  have CX0_7 : H7[H6.length]? = some (.cells [.int .i64 n0, d0] 28 false) := by rw [← hX0]; exact at_new ..
  have Lx := at_lt CX0_7
  have Ra0_7 := Ra0_6.pre p7
  have Ra1_7 := Ra1_6.pre p7
  have Rd0_7 := Rd0_6.pre p7
  have Md0_7 := Md0_6.pre p7
  have CB0_7 := pre_at p7 CB0_6
  have L7 := p7.length_le
  try simp (maxSteps := 4000000) (disch := omega) only [ld_agg ag24 cs24 CB0_7, ld_agg ag28 cs28 CX0_7, S, S1, S2, S3, S4, ST, eq_self, ne_eq, not_true_eq_false, not_false_eq_true, and_self, true_and, and_true, reduceIte, reduceCtorEq, Nat.reduceEqDiff, Nat.reduceAdd, Nat.zero_add, Nat.add_zero, Option.map_none, Option.map_some, List.map_cons, List.map_nil, List.append_nil, List.cons_append, List.nil_append, List.getElem?_cons_zero, List.getElem?_cons_succ, List.getD_cons_zero, List.getD_cons_succ, List.getD_nil, Bool.not_true, Bool.not_false, decide_true, decide_false]
  refine CallH.by (toIntS_c v1 xs1 H7 Ra1_7.1 L1_big) ?_
  rintro d1 H8 ⟨qd1, p8⟩
  have Ra0_8 := Ra0_7.pre p8
  have Ra1_8 := Ra1_7.pre p8
  have Rd0_8 := Rd0_7.pre p8
  have Md0_8 := Md0_7.pre p8
  have CB0_8 := pre_at p8 CB0_7
  have CX0_8 := pre_at p8 CX0_7
  have L8 := p8.length_le
  have Md1_8 := InI.of qd1.mine
  have Rd1_8 := Md1_8.row
  simp (maxSteps := 4000000) (disch := omega) only [ld_agg ag24 cs24 CB0_8, ld_agg ag28 cs28 CX0_8, S, S1, S2, S3, S4, ST, eq_self, ne_eq, not_true_eq_false, not_false_eq_true, and_self, true_and, and_true, reduceIte, reduceCtorEq, Nat.reduceEqDiff, Nat.reduceAdd, Nat.zero_add, Nat.add_zero, Option.map_none, Option.map_some, List.map_cons, List.map_nil, List.append_nil, List.cons_append, List.nil_append, List.getElem?_cons_zero, List.getElem?_cons_succ, List.getD_cons_zero, List.getD_cons_succ, List.getD_nil, Bool.not_true, Bool.not_false, decide_true, decide_false]
  refine CallH.by (BReI_c  n0 d0 d1 xs0 xs1 H8 Rd0_8.1 L0_big b0.1 Rd1_8.1 L1_big b1 bn0) ?_
  rintro _ H9 ⟨rfl, p9⟩
  have Ra0_9 := Ra0_8.pre p9
  have Ra1_9 := Ra1_8.pre p9
  have Rd0_9 := Rd0_8.pre p9
  have Rd1_9 := Rd1_8.pre p9
  have Md0_9 := Md0_8.pre p9
  have Md1_9 := Md1_8.pre p9
  have CB0_9 := pre_at p9 CB0_8
  have CX0_9 := pre_at p9 CX0_8
  have L9 := p9.length_le
  simp (maxSteps := 4000000) (disch := omega) only [ld_agg ag24 cs24 CB0_9, ld_agg ag28 cs28 CX0_9, S, S1, S2, S3, S4, ST, eq_self, ne_eq, not_true_eq_false, not_false_eq_true, and_self, true_and, and_true, reduceIte, reduceCtorEq, Nat.reduceEqDiff, Nat.reduceAdd, Nat.zero_add, Nat.add_zero, Option.map_none, Option.map_some, List.map_cons, List.map_nil, List.append_nil, List.cons_append, List.nil_append, List.getElem?_cons_zero, List.getElem?_cons_succ, List.getD_cons_zero, List.getD_cons_succ, List.getD_nil, Bool.not_true, Bool.not_false, decide_true, decide_false]
  refine CallH.by (toGraph_c n0 v0 xs0 H9 Ra0_9.1 L0_big) ?_
  rintro _ H10 ⟨f0, rfl, qf0, p10⟩
  have Ra0_10 := Ra0_9.pre p10
  have Ra1_10 := Ra1_9.pre p10
  have Rd0_10 := Rd0_9.pre p10
  have Rd1_10 := Rd1_9.pre p10
  have Md0_10 := Md0_9.pre p10
  have Md1_10 := Md1_9.pre p10
  have CB0_10 := pre_at p10 CB0_9
  have CX0_10 := pre_at p10 CX0_9
  have L10 := p10.length_le
  have Mf0_10 := InP.of qf0
  have Rf0_10 := Mf0_10.row
  simp (maxSteps := 4000000) (disch := omega) only [ld_agg ag24 cs24 CB0_10, ld_agg ag28 cs28 CX0_10, S, S1, S2, S3, S4, ST, eq_self, ne_eq, not_true_eq_false, not_false_eq_true, and_self, true_and, and_true, reduceIte, reduceCtorEq, Nat.reduceEqDiff, Nat.reduceAdd, Nat.zero_add, Nat.add_zero, Option.map_none, Option.map_some, List.map_cons, List.map_nil, List.append_nil, List.cons_append, List.nil_append, List.getElem?_cons_zero, List.getElem?_cons_succ, List.getD_cons_zero, List.getD_cons_succ, List.getD_nil, Bool.not_true, Bool.not_false, decide_true, decide_false]
  refine CallH.by (eqGraph_c n0 n0 d0 f0 _ _ H10 Rd0_10.1 Rf0_10.1 L0_big) ?_
  rintro _ H11 ⟨rfl, p11⟩
  have Ra0_11 := Ra0_10.pre p11
  have Ra1_11 := Ra1_10.pre p11
  have Rd0_11 := Rd0_10.pre p11
  have Rd1_11 := Rd1_10.pre p11
  have Rf0_11 := Rf0_10.pre p11
  have Md0_11 := Md0_10.pre p11
  have Md1_11 := Md1_10.pre p11
  have Mf0_11 := Mf0_10.pre p11
  have CB0_11 := pre_at p11 CB0_10
  have CX0_11 := pre_at p11 CX0_10
  have L11 := p11.length_le
  simp (maxSteps := 4000000) (disch := omega) only [ld_agg ag24 cs24 CB0_11, ld_agg ag28 cs28 CX0_11, S, S1, S2, S3, S4, ST, eq_self, ne_eq, not_true_eq_false, not_false_eq_true, and_self, true_and, and_true, reduceIte, reduceCtorEq, Nat.reduceEqDiff, Nat.reduceAdd, Nat.zero_add, Nat.add_zero, Option.map_none, Option.map_some, List.map_cons, List.map_nil, List.append_nil, List.cons_append, List.nil_append, List.getElem?_cons_zero, List.getElem?_cons_succ, List.getD_cons_zero, List.getD_cons_succ, List.getD_nil, Bool.not_true, Bool.not_false, decide_true, decide_false]
  refine CallH.by (toIntS_c v1 xs1 H11 Ra1_11.1 L1_big) ?_
  rintro f1 H12 ⟨qf1, p12⟩
  have Ra0_12 := Ra0_11.pre p12
  have Ra1_12 := Ra1_11.pre p12
  have Rd0_12 := Rd0_11.pre p12
  have Rd1_12 := Rd1_11.pre p12
  have Md0_12 := Md0_11.pre p12
  have Md1_12 := Md1_11.pre p12
  have CB0_12 := pre_at p12 CB0_11
  have CX0_12 := pre_at p12 CX0_11
  have L12 := p12.length_le
  have Mf1_12 := InI.of qf1.mine
  have Rf1_12 := Mf1_12.row
  simp (maxSteps := 4000000) (disch := omega) only [ld_agg ag24 cs24 CB0_12, ld_agg ag28 cs28 CX0_12, S, S1, S2, S3, S4, ST, eq_self, ne_eq, not_true_eq_false, not_false_eq_true, and_self, true_and, and_true, reduceIte, reduceCtorEq, Nat.reduceEqDiff, Nat.reduceAdd, Nat.zero_add, Nat.add_zero, Option.map_none, Option.map_some, List.map_cons, List.map_nil, List.append_nil, List.cons_append, List.nil_append, List.getElem?_cons_zero, List.getElem?_cons_succ, List.getD_cons_zero, List.getD_cons_succ, List.getD_nil, Bool.not_true, Bool.not_false, decide_true, decide_false]
  refine CallH.by (eqIntS_c d1 f1 _ _ H12 Rd1_12.1 Rf1_12.1 L1_big) ?_
  rintro _ _ ⟨rfl, rfl⟩
  simp (maxSteps := 4000000) (disch := omega) only [ld_agg ag24 cs24 CB0_12, ld_agg ag28 cs28 CX0_12, S, S1, S2, S3, S4, ST, eq_self, ne_eq, not_true_eq_false, not_false_eq_true, and_self, true_and, and_true, reduceIte, reduceCtorEq, Nat.reduceEqDiff, Nat.reduceAdd, Nat.zero_add, Nat.add_zero, Option.map_none, Option.map_some, List.map_cons, List.map_nil, List.append_nil, List.cons_append, List.nil_append, List.getElem?_cons_zero, List.getElem?_cons_succ, List.getD_cons_zero, List.getD_cons_succ, List.getD_nil, Bool.not_true, Bool.not_false, decide_true, decide_false]
  refine hQ _ _ _ ?_
  simp (maxSteps := 4000000) (disch := omega) only [ld_agg ag24 cs24 CB0_12, ld_agg ag28 cs28 CX0_12, S, S1, S2, S3, S4, ST, eq_self, ne_eq, not_true_eq_false, not_false_eq_true, and_self, true_and, and_true, reduceIte, reduceCtorEq, Nat.reduceEqDiff, Nat.reduceAdd, Nat.zero_add, Nat.add_zero, Option.map_none, Option.map_some, List.map_cons, List.map_nil, List.append_nil, List.cons_append, List.nil_append, List.getElem?_cons_zero, List.getElem?_cons_succ, List.getD_cons_zero, List.getD_cons_succ, List.getD_nil, Bool.not_true, Bool.not_false, decide_true, decide_false]

end Go.Proofs.Ythhnpchjjbjabaa.Ai
