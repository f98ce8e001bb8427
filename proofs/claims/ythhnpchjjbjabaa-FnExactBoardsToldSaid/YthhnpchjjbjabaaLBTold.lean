/- FnExactBoardsTold: the law, from both sides' contracts. -/
import Derived.Test.YthhnpchjjbjabaaBTold
import Derived.Test.YthhnpchjjbjabaaMark
import Derived.Test.YthhnpchjjbjabaaMarkP
import Derived.Test.YthhnpchjjbjabaaPrs
import Derived.Test.YthhnpchjjbjabaaGrf
import Derived.Test.YthhnpchjjbjabaaProg
import Derived.Test.YthhnpchjjbjabaaAiM2
import Derived.KernelRfl
/- Slim code of this translation. By the kernel. -/
namespace Go.Proofs.Ythhnpchjjbjabaa.Ai
open Go

/- loop.example/g01128/laws.FnExactBoardsTold -/
def ords10 : List (Nat × List (Nat × Bool)) := [(10, [(0, false), (1, false), (2, true), (3, true), (4, false)])]
def cd10 : Cd := (.seq (.reg [⟨⟨some 1, Op.box 24 (Operand.tmp 0), none⟩, []⟩,
  ⟨⟨some 2, Op.assign (Operand.const (Value.bool false)), none⟩, []⟩]) (.seq (.reg [⟨⟨some 3, Op.assign (Operand.const (Value.int IntKind.i64 1048576)), none⟩, []⟩]) (.seq (.reg [⟨⟨some 9, Op.load 24 (Operand.tmp 1), none⟩, []⟩,
  ⟨⟨some 10, Op.move (Operand.tmp 3), none⟩, []⟩,
  ⟨⟨some 11, Op.call { callee := (Callee.value (Operand.func 15)), args := #[(Operand.tmp 9), (Operand.tmp 10)], argTypes := #[24, 3] }, none⟩, []⟩,
  ⟨⟨some 3, Op.assign (Operand.tmp 11), none⟩, []⟩]) (.seq (.seq (.reg [⟨⟨some 12, Op.move (Operand.tmp 3), none⟩, []⟩,
  ⟨⟨some 13, Op.binOp BinOp.lss 3 (Operand.tmp 12) (Operand.const (Value.int IntKind.i64 0)) 3, none⟩, []⟩]) (.cond (Operand.tmp 13) (.seq (.reg [⟨⟨some 2, Op.assign (Operand.const (Value.bool true)), none⟩, []⟩]) .ret) .skip)) (.seq (.reg [⟨⟨some 15, Op.load 24 (Operand.tmp 1), none⟩, []⟩,
  ⟨⟨some 16, Op.call { callee := (Callee.value (Operand.func 17)), args := #[(Operand.tmp 15)], argTypes := #[24] }, none⟩, []⟩,
  ⟨⟨some 17, Op.call { callee := (Callee.value (Operand.func 42)), args := #[(Operand.tmp 16)], argTypes := #[28] }, none⟩, []⟩,
  ⟨⟨some 14, Op.move (Operand.tmp 17), none⟩, []⟩,
  ⟨⟨some 18, Op.extract (Operand.tmp 14) 0, none⟩, []⟩,
  ⟨⟨some 19, Op.extract (Operand.tmp 14) 1, none⟩, []⟩,
  ⟨⟨some 4, Op.assign (Operand.tmp 18), none⟩, []⟩,
  ⟨⟨some 5, Op.assign (Operand.tmp 19), none⟩, []⟩]) (.seq (.reg [⟨⟨some 20, Op.load 24 (Operand.tmp 1), none⟩, []⟩,
  ⟨⟨some 21, Op.call { callee := (Callee.value (Operand.func 17)), args := #[(Operand.tmp 20)], argTypes := #[24] }, none⟩, []⟩,
  ⟨⟨some 6, Op.alloc 28, none⟩, []⟩,
  ⟨⟨none, Op.store 28 (Operand.tmp 6) (Operand.tmp 21), none⟩, []⟩]) (.seq (.reg [⟨⟨some 23, Op.load 28 (Operand.tmp 6), none⟩, []⟩,
  ⟨⟨some 24, Op.call { callee := (Callee.value (Operand.func 43)), args := #[(Operand.tmp 23)], argTypes := #[28] }, none⟩, []⟩,
  ⟨⟨some 22, Op.move (Operand.tmp 24), none⟩, []⟩,
  ⟨⟨some 25, Op.extract (Operand.tmp 22) 0, none⟩, []⟩,
  ⟨⟨some 26, Op.extract (Operand.tmp 22) 1, none⟩, []⟩,
  ⟨⟨some 7, Op.assign (Operand.tmp 25), none⟩, []⟩,
  ⟨⟨some 8, Op.assign (Operand.tmp 26), none⟩, []⟩]) (.seq (.seq (.reg [⟨⟨some 27, Op.move (Operand.tmp 7), none⟩, []⟩,
  ⟨⟨some 28, Op.move (Operand.tmp 4), none⟩, []⟩,
  ⟨⟨some 29, Op.binOp BinOp.neq 3 (Operand.tmp 27) (Operand.tmp 28) 3, none⟩, []⟩,
  ⟨⟨some 30, Op.move (Operand.tmp 29), none⟩, []⟩,
  ⟨⟨some 31, Op.move (Operand.tmp 8), some (30, false)⟩, []⟩,
  ⟨⟨some 32, Op.move (Operand.tmp 5), some (30, false)⟩, []⟩,
  ⟨⟨some 33, Op.binOp BinOp.neq 4 (Operand.tmp 31) (Operand.tmp 32) 4, some (30, false)⟩, []⟩,
  ⟨⟨some 34, Op.pick (Operand.tmp 30) (Operand.const (Value.bool true)) (Operand.tmp 33), none⟩, []⟩]) (.cond (Operand.tmp 34) (.seq (.reg [⟨⟨some 2, Op.assign (Operand.const (Value.bool false)), none⟩, []⟩]) .ret) .skip)) (.seq (.seq (.reg [⟨⟨some 35, Op.load 28 (Operand.tmp 6), none⟩, []⟩,
  ⟨⟨some 36, Op.load 24 (Operand.tmp 1), none⟩, []⟩,
  ⟨⟨some 37, Op.call { callee := (Callee.value (Operand.func 17)), args := #[(Operand.tmp 36)], argTypes := #[24] }, none⟩, [⟨some 35, Op.load 28 (Operand.tmp 6), none⟩]⟩,
  ⟨⟨some 38, Op.call { callee := (Callee.value (Operand.func 19)), args := #[(Operand.tmp 35), (Operand.tmp 37)], argTypes := #[28, 28] }, none⟩, []⟩,
  ⟨⟨some 39, Op.unOp UnOp.not 4 (Operand.tmp 38), none⟩, []⟩]) (.cond (Operand.tmp 39) (.seq (.reg [⟨⟨some 2, Op.assign (Operand.const (Value.bool false)), none⟩, []⟩]) .ret) .skip)) (.seq (.reg [⟨⟨some 2, Op.assign (Operand.const (Value.bool true)), none⟩, []⟩]) .ret))))))))))
theorem sl10 : slim Try.f10.ntmps ords10 (Try.f10.body.getD .skip) = some cd10 := by kernel_rfl
theorem in10 {args : List Value} {H : AH} {R : Value → AH → Prop} (hl : args.length = 1) (h : ∀ (Q : Exit → Sl → AH → Prop), (∀ e s H, endA Try.prog [ResultVar.tmp 2] R e s H → Q e s H) → wpC Try.prog cd10 Q (enterA args) H) : ACalls Try.prog 10 args H R :=
  ACalls.intro (by kernel_rfl) Try.func10 rfl (by kernel_rfl) sl10 hl (of_decide_eq_true (by kernel_rfl)) (by kernel_rfl) h
end Go.Proofs.Ythhnpchjjbjabaa.Ai

namespace Go.Proofs.Ythhnpchjjbjabaa.Ai
open Go Go.RowKit
set_option linter.unusedVariables false
set_option linter.unusedSimpArgs false
set_option maxRecDepth 20000 in
set_option maxHeartbeats 8000000 in
theorem bToldLaw_c  (n0 : Int) (v0 : Value) (xs0 : List (Int × Int)) (H0 : AH) (r0 : RowP 76 H0 v0 xs0) (b0 : (∀ y ∈ xs0, I64 y.1 ∧ I64 y.2) ∧ (xs0.length : Int) ≤ 9223372036854775807) (bn0 : I64 n0) :
    ACalls Try.prog 10 [.agg (List.toArray [.int .i64 n0, v0])] H0 fun r H' => r = .bool true := by
  refine in10 rfl ?_
  intro Q hQ
  simp (maxSteps := 4000000) (disch := omega) only [cd10, r0.boxL, S, S1, S2, S3, S4, ST, eq_self, ne_eq, not_true_eq_false, not_false_eq_true, and_self, true_and, and_true, reduceIte, reduceCtorEq, Nat.reduceEqDiff, Nat.reduceAdd, Nat.zero_add, Nat.add_zero, Option.map_none, Option.map_some, List.map_cons, List.map_nil, List.append_nil, List.cons_append, List.nil_append, List.getElem?_cons_zero, List.getElem?_cons_succ, List.getD_cons_zero, List.getD_cons_succ, List.getD_nil, Bool.not_true, Bool.not_false, decide_true, decide_false]
  generalize hG0 : H0 ++ [AObj.cells [.int .i64 n0, v0] 24 false] = H1
  have p1 : H0 <+: H1 := by rw [← hG0]; exact List.prefix_append _ _
  have CB0_1 : H1[H0.length]? = some (.cells [.int .i64 n0, v0] 24 false) := by rw [← hG0]; exact at_new ..
  have L1 := p1.length_le
  have Lb := at_lt CB0_1
  try simp (maxSteps := 4000000) (disch := omega) only [ld_agg ag24 cs24 CB0_1, S, S1, S2, S3, S4, ST, eq_self, ne_eq, not_true_eq_false, not_false_eq_true, and_self, true_and, and_true, reduceIte, reduceCtorEq, Nat.reduceEqDiff, Nat.reduceAdd, Nat.zero_add, Nat.add_zero, Option.map_none, Option.map_some, List.map_cons, List.map_nil, List.append_nil, List.cons_append, List.nil_append, List.getElem?_cons_zero, List.getElem?_cons_succ, List.getD_cons_zero, List.getD_cons_succ, List.getD_nil, Bool.not_true, Bool.not_false, decide_true, decide_false]
  have Ra0_0 := r0.b
  have Ra0_1 := Ra0_0.pre p1
  refine CallH.by (szGraph_c n0 v0 xs0 (1048576) H1 Ra0_1.1 (by omega) b0.2) ?_
  rintro _ H2 ⟨rfl, p2⟩
  have Ra0_2 := Ra0_1.pre p2
  have CB0_2 := pre_at p2 CB0_1
  have L2 := p2.length_le
  simp (maxSteps := 4000000) (disch := omega) only [ld_agg ag24 cs24 CB0_2, S, S1, S2, S3, S4, ST, eq_self, ne_eq, not_true_eq_false, not_false_eq_true, and_self, true_and, and_true, reduceIte, reduceCtorEq, Nat.reduceEqDiff, Nat.reduceAdd, Nat.zero_add, Nat.add_zero, Option.map_none, Option.map_some, List.map_cons, List.map_nil, List.append_nil, List.cons_append, List.nil_append, List.getElem?_cons_zero, List.getElem?_cons_succ, List.getD_cons_zero, List.getD_cons_succ, List.getD_nil, Bool.not_true, Bool.not_false, decide_true, decide_false]
  by_cases g0 : 1048576 - (xs0.length : Int) < 0
  · rw [if_pos g0]
    try simp (maxSteps := 4000000) (disch := omega) only [ld_agg ag24 cs24 CB0_2, S, S1, S2, S3, S4, ST, eq_self, ne_eq, not_true_eq_false, not_false_eq_true, and_self, true_and, and_true, reduceIte, reduceCtorEq, Nat.reduceEqDiff, Nat.reduceAdd, Nat.zero_add, Nat.add_zero, Option.map_none, Option.map_some, List.map_cons, List.map_nil, List.append_nil, List.cons_append, List.nil_append, List.getElem?_cons_zero, List.getElem?_cons_succ, List.getD_cons_zero, List.getD_cons_succ, List.getD_nil, Bool.not_true, Bool.not_false, decide_true, decide_false]
    try (refine brD.intro (fun _ => ?_) (fun h => absurd h (by omega)))
    try simp (maxSteps := 4000000) (disch := omega) only [ld_agg ag24 cs24 CB0_2, S, S1, S2, S3, S4, ST, eq_self, ne_eq, not_true_eq_false, not_false_eq_true, and_self, true_and, and_true, reduceIte, reduceCtorEq, Nat.reduceEqDiff, Nat.reduceAdd, Nat.zero_add, Nat.add_zero, Option.map_none, Option.map_some, List.map_cons, List.map_nil, List.append_nil, List.cons_append, List.nil_append, List.getElem?_cons_zero, List.getElem?_cons_succ, List.getD_cons_zero, List.getD_cons_succ, List.getD_nil, Bool.not_true, Bool.not_false, decide_true, decide_false]
    refine hQ _ _ _ ?_
    simp (maxSteps := 4000000) (disch := omega) only [ld_agg ag24 cs24 CB0_2, S, S1, S2, S3, S4, ST, eq_self, ne_eq, not_true_eq_false, not_false_eq_true, and_self, true_and, and_true, reduceIte, reduceCtorEq, Nat.reduceEqDiff, Nat.reduceAdd, Nat.zero_add, Nat.add_zero, Option.map_none, Option.map_some, List.map_cons, List.map_nil, List.append_nil, List.cons_append, List.nil_append, List.getElem?_cons_zero, List.getElem?_cons_succ, List.getD_cons_zero, List.getD_cons_succ, List.getD_nil, Bool.not_true, Bool.not_false, decide_true, decide_false]
  rw [if_neg g0]
  try simp (maxSteps := 4000000) (disch := omega) only [g0, ld_agg ag24 cs24 CB0_2, S, S1, S2, S3, S4, ST, eq_self, ne_eq, not_true_eq_false, not_false_eq_true, and_self, true_and, and_true, reduceIte, reduceCtorEq, Nat.reduceEqDiff, Nat.reduceAdd, Nat.zero_add, Nat.add_zero, Option.map_none, Option.map_some, List.map_cons, List.map_nil, List.append_nil, List.cons_append, List.nil_append, List.getElem?_cons_zero, List.getElem?_cons_succ, List.getD_cons_zero, List.getD_cons_succ, List.getD_nil, Bool.not_true, Bool.not_false, decide_true, decide_false]
  try refine brD.intro (fun h => absurd h (by omega)) (fun _ => ?_)
  try simp (maxSteps := 4000000) (disch := omega) only [g0, ld_agg ag24 cs24 CB0_2, S, S1, S2, S3, S4, ST, eq_self, ne_eq, not_true_eq_false, not_false_eq_true, and_self, true_and, and_true, reduceIte, reduceCtorEq, Nat.reduceEqDiff, Nat.reduceAdd, Nat.zero_add, Nat.add_zero, Option.map_none, Option.map_some, List.map_cons, List.map_nil, List.append_nil, List.cons_append, List.nil_append, List.getElem?_cons_zero, List.getElem?_cons_succ, List.getD_cons_zero, List.getD_cons_succ, List.getD_nil, Bool.not_true, Bool.not_false, decide_true, decide_false]
  have l0 : xs0.length ≤ 1048576 := by omega
  have L0_big : xs0.length ≤ 1099511627776 := by omega
  refine CallH.by (toGraph_c n0 v0 xs0 H2 Ra0_2.1 L0_big) ?_
  rintro _ H3 ⟨c0, rfl, qc0, p3⟩
  have Ra0_3 := Ra0_2.pre p3
  have CB0_3 := pre_at p3 CB0_2
  have L3 := p3.length_le
  have Mc0_3 := InP.of qc0
  have Rc0_3 := Mc0_3.row
  simp (maxSteps := 4000000) (disch := omega) only [ld_agg ag24 cs24 CB0_3, S, S1, S2, S3, S4, ST, eq_self, ne_eq, not_true_eq_false, not_false_eq_true, and_self, true_and, and_true, reduceIte, reduceCtorEq, Nat.reduceEqDiff, Nat.reduceAdd, Nat.zero_add, Nat.add_zero, Option.map_none, Option.map_some, List.map_cons, List.map_nil, List.append_nil, List.cons_append, List.nil_append, List.getElem?_cons_zero, List.getElem?_cons_succ, List.getD_cons_zero, List.getD_cons_succ, List.getD_nil, Bool.not_true, Bool.not_false, decide_true, decide_false]
  refine CallH.by (ToldS_c  n0 c0 xs0 H3 Rc0_3.1 L0_big b0.1 bn0) ?_
  rintro _ H4 ⟨rfl, p4⟩
  have Ra0_4 := Ra0_3.pre p4
  have Rc0_4 := Rc0_3.pre p4
  have Mc0_4 := Mc0_3.pre p4
  have CB0_4 := pre_at p4 CB0_3
  have L4 := p4.length_le
  simp (maxSteps := 4000000) (disch := omega) only [ld_agg ag24 cs24 CB0_4, S, S1, S2, S3, S4, ST, eq_self, ne_eq, not_true_eq_false, not_false_eq_true, and_self, true_and, and_true, reduceIte, reduceCtorEq, Nat.reduceEqDiff, Nat.reduceAdd, Nat.zero_add, Nat.add_zero, Option.map_none, Option.map_some, List.map_cons, List.map_nil, List.append_nil, List.cons_append, List.nil_append, List.getElem?_cons_zero, List.getElem?_cons_succ, List.getD_cons_zero, List.getD_cons_succ, List.getD_nil, Bool.not_true, Bool.not_false, decide_true, decide_false]
  refine CallH.by (toGraph_c n0 v0 xs0 H4 Ra0_4.1 L0_big) ?_
  rintro _ H5 ⟨d0, rfl, qd0, p5⟩
  have Ra0_5 := Ra0_4.pre p5
  have CB0_5 := pre_at p5 CB0_4
  have L5 := p5.length_le
  have Md0_5 := InP.of qd0
  have Rd0_5 := Md0_5.row
  simp (maxSteps := 4000000) (disch := omega) only [ld_agg ag24 cs24 CB0_5, S, S1, S2, S3, S4, ST, eq_self, ne_eq, not_true_eq_false, not_false_eq_true, and_self, true_and, and_true, reduceIte, reduceCtorEq, Nat.reduceEqDiff, Nat.reduceAdd, Nat.zero_add, Nat.add_zero, Option.map_none, Option.map_some, List.map_cons, List.map_nil, List.append_nil, List.cons_append, List.nil_append, List.getElem?_cons_zero, List.getElem?_cons_succ, List.getD_cons_zero, List.getD_cons_succ, List.getD_nil, Bool.not_true, Bool.not_false, decide_true, decide_false]
  have hst0 := st_G Rd0_5.1 (at_new H5 (.cells [.int .i64 0, .slice none 0 0] 28 false)) rfl n0
  simp (maxSteps := 4000000) (disch := omega) only [alloc_G, hst0, set_new, ld_agg ag24 cs24 CB0_5, S, S1, S2, S3, S4, ST, eq_self, ne_eq, not_true_eq_false, not_false_eq_true, and_self, true_and, and_true, reduceIte, reduceCtorEq, Nat.reduceEqDiff, Nat.reduceAdd, Nat.zero_add, Nat.add_zero, Option.map_none, Option.map_some, List.map_cons, List.map_nil, List.append_nil, List.cons_append, List.nil_append, List.getElem?_cons_zero, List.getElem?_cons_succ, List.getD_cons_zero, List.getD_cons_succ, List.getD_nil, Bool.not_true, Bool.not_false, decide_true, decide_false]
  generalize hX0 : H5 ++ [AObj.cells [.int .i64 n0, d0] 28 false] = H6
  have p6 : H5 <+: H6 := by rw [← hX0]; exact List.prefix_append _ _
  have CX0_6 : H6[H5.length]? = some (.cells [.int .i64 n0, d0] 28 false) := by rw [← hX0]; exact at_new ..
  have Lx := at_lt CX0_6
  have Ra0_6 := Ra0_5.pre p6
  have Rd0_6 := Rd0_5.pre p6
  have Md0_6 := Md0_5.pre p6
  have CB0_6 := pre_at p6 CB0_5
  have L6 := p6.length_le
  try simp (maxSteps := 4000000) (disch := omega) only [ld_agg ag24 cs24 CB0_6, ld_agg ag28 cs28 CX0_6, S, S1, S2, S3, S4, ST, eq_self, ne_eq, not_true_eq_false, not_false_eq_true, and_self, true_and, and_true, reduceIte, reduceCtorEq, Nat.reduceEqDiff, Nat.reduceAdd, Nat.zero_add, Nat.add_zero, Option.map_none, Option.map_some, List.map_cons, List.map_nil, List.append_nil, List.cons_append, List.nil_append, List.getElem?_cons_zero, List.getElem?_cons_succ, List.getD_cons_zero, List.getD_cons_succ, List.getD_nil, Bool.not_true, Bool.not_false, decide_true, decide_false]
  refine CallH.by (ToldI_c  n0 d0 xs0 H6 Rd0_6.1 L0_big b0.1 bn0) ?_
  rintro _ H7 ⟨rfl, p7⟩
  have Ra0_7 := Ra0_6.pre p7
  have Rd0_7 := Rd0_6.pre p7
  have Md0_7 := Md0_6.pre p7
  have CB0_7 := pre_at p7 CB0_6
  have CX0_7 := pre_at p7 CX0_6
  have L7 := p7.length_le
  simp (maxSteps := 4000000) (disch := omega) only [ld_agg ag24 cs24 CB0_7, ld_agg ag28 cs28 CX0_7, S, S1, S2, S3, S4, ST, eq_self, ne_eq, not_true_eq_false, not_false_eq_true, and_self, true_and, and_true, reduceIte, reduceCtorEq, Nat.reduceEqDiff, Nat.reduceAdd, Nat.zero_add, Nat.add_zero, Option.map_none, Option.map_some, List.map_cons, List.map_nil, List.append_nil, List.cons_append, List.nil_append, List.getElem?_cons_zero, List.getElem?_cons_succ, List.getD_cons_zero, List.getD_cons_succ, List.getD_nil, Bool.not_true, Bool.not_false, decide_true, decide_false]
  refine CallH.by (toGraph_c n0 v0 xs0 H7 Ra0_7.1 L0_big) ?_
  rintro _ H8 ⟨f0, rfl, qf0, p8⟩
  have Ra0_8 := Ra0_7.pre p8
  have Rd0_8 := Rd0_7.pre p8
  have Md0_8 := Md0_7.pre p8
  have CB0_8 := pre_at p8 CB0_7
  have CX0_8 := pre_at p8 CX0_7
  have L8 := p8.length_le
  have Mf0_8 := InP.of qf0
  have Rf0_8 := Mf0_8.row
  simp (maxSteps := 4000000) (disch := omega) only [ld_agg ag24 cs24 CB0_8, ld_agg ag28 cs28 CX0_8, S, S1, S2, S3, S4, ST, eq_self, ne_eq, not_true_eq_false, not_false_eq_true, and_self, true_and, and_true, reduceIte, reduceCtorEq, Nat.reduceEqDiff, Nat.reduceAdd, Nat.zero_add, Nat.add_zero, Option.map_none, Option.map_some, List.map_cons, List.map_nil, List.append_nil, List.cons_append, List.nil_append, List.getElem?_cons_zero, List.getElem?_cons_succ, List.getD_cons_zero, List.getD_cons_succ, List.getD_nil, Bool.not_true, Bool.not_false, decide_true, decide_false]
  refine CallH.by (eqGraph_c n0 n0 d0 f0 _ _ H8 Rd0_8.1 Rf0_8.1 L0_big) ?_
  rintro _ H9 ⟨rfl, p9⟩
  have Ra0_9 := Ra0_8.pre p9
  have Rd0_9 := Rd0_8.pre p9
  have Rf0_9 := Rf0_8.pre p9
  have Md0_9 := Md0_8.pre p9
  have Mf0_9 := Mf0_8.pre p9
  have CB0_9 := pre_at p9 CB0_8
  have CX0_9 := pre_at p9 CX0_8
  have L9 := p9.length_le
  simp (maxSteps := 4000000) (disch := omega) only [ld_agg ag24 cs24 CB0_9, ld_agg ag28 cs28 CX0_9, S, S1, S2, S3, S4, ST, eq_self, ne_eq, not_true_eq_false, not_false_eq_true, and_self, true_and, and_true, reduceIte, reduceCtorEq, Nat.reduceEqDiff, Nat.reduceAdd, Nat.zero_add, Nat.add_zero, Option.map_none, Option.map_some, List.map_cons, List.map_nil, List.append_nil, List.cons_append, List.nil_append, List.getElem?_cons_zero, List.getElem?_cons_succ, List.getD_cons_zero, List.getD_cons_succ, List.getD_nil, Bool.not_true, Bool.not_false, decide_true, decide_false]
  refine hQ _ _ _ ?_
  simp (maxSteps := 4000000) (disch := omega) only [ld_agg ag24 cs24 CB0_9, ld_agg ag28 cs28 CX0_9, S, S1, S2, S3, S4, ST, eq_self, ne_eq, not_true_eq_false, not_false_eq_true, and_self, true_and, and_true, reduceIte, reduceCtorEq, Nat.reduceEqDiff, Nat.reduceAdd, Nat.zero_add, Nat.add_zero, Option.map_none, Option.map_some, List.map_cons, List.map_nil, List.append_nil, List.cons_append, List.nil_append, List.getElem?_cons_zero, List.getElem?_cons_succ, List.getD_cons_zero, List.getD_cons_succ, List.getD_nil, Bool.not_true, Bool.not_false, decide_true, decide_false]

end Go.Proofs.Ythhnpchjjbjabaa.Ai
