/- FnExactSlideDistance: the law, from both sides' contracts. -/
import Derived.Test.YthhnpchjjbjabaaSls
import Derived.Test.YthhnpchjjbjabaaMark
import Derived.Test.YthhnpchjjbjabaaMarkP
import Derived.Test.YthhnpchjjbjabaaPrs
import Derived.Test.YthhnpchjjbjabaaGrf
import Derived.Test.YthhnpchjjbjabaaProg
import Derived.Test.YthhnpchjjbjabaaAiM2
import Derived.KernelRfl
/- Slim code of this translation. By the kernel. -/
namespace Go.Proofs.Ythhnpchjjbjabaa.Ai
open Go

/- loop.example/g01128/laws.FnExactSlideDistance -/
def ords8 : List (Nat × List (Nat × Bool)) := [(16, [(0, false), (1, false), (2, true), (3, true), (4, false)])]
def cd8 : Cd := (.seq (.reg [⟨⟨some 3, Op.box 24 (Operand.tmp 0), none⟩, []⟩,
  ⟨⟨some 6, Op.assign (Operand.const (Value.bool false)), none⟩, []⟩]) (.seq (.seq (.reg [⟨⟨some 15, Op.move (Operand.tmp 1), none⟩, []⟩,
  ⟨⟨some 16, Op.call { callee := (Callee.builtin Builtin.len), args := #[(Operand.tmp 15)], argTypes := #[32] }, none⟩, []⟩,
  ⟨⟨some 17, Op.binOp BinOp.gtr 3 (Operand.tmp 16) (Operand.const (Value.int IntKind.i64 1048576)) 3, none⟩, []⟩]) (.cond (Operand.tmp 17) (.seq (.reg [⟨⟨some 6, Op.assign (Operand.const (Value.bool true)), none⟩, []⟩]) .ret) .skip)) (.seq (.seq (.reg [⟨⟨some 18, Op.move (Operand.tmp 2), none⟩, []⟩,
  ⟨⟨some 19, Op.call { callee := (Callee.builtin Builtin.len), args := #[(Operand.tmp 18)], argTypes := #[32] }, none⟩, []⟩,
  ⟨⟨some 20, Op.binOp BinOp.gtr 3 (Operand.tmp 19) (Operand.const (Value.int IntKind.i64 1048576)) 3, none⟩, []⟩]) (.cond (Operand.tmp 20) (.seq (.reg [⟨⟨some 6, Op.assign (Operand.const (Value.bool true)), none⟩, []⟩]) .ret) .skip)) (.seq (.reg [⟨⟨some 7, Op.assign (Operand.const (Value.int IntKind.i64 1048576)), none⟩, []⟩]) (.seq (.reg [⟨⟨some 21, Op.load 24 (Operand.tmp 3), none⟩, []⟩,
  ⟨⟨some 22, Op.move (Operand.tmp 7), none⟩, []⟩,
  ⟨⟨some 23, Op.call { callee := (Callee.value (Operand.func 15)), args := #[(Operand.tmp 21), (Operand.tmp 22)], argTypes := #[24, 3] }, none⟩, []⟩,
  ⟨⟨some 7, Op.assign (Operand.tmp 23), none⟩, []⟩]) (.seq (.seq (.reg [⟨⟨some 24, Op.move (Operand.tmp 7), none⟩, []⟩,
  ⟨⟨some 25, Op.binOp BinOp.lss 3 (Operand.tmp 24) (Operand.const (Value.int IntKind.i64 0)) 3, none⟩, []⟩]) (.cond (Operand.tmp 25) (.seq (.reg [⟨⟨some 6, Op.assign (Operand.const (Value.bool true)), none⟩, []⟩]) .ret) .skip)) (.seq (.reg [⟨⟨some 27, Op.load 24 (Operand.tmp 3), none⟩, []⟩,
  ⟨⟨some 28, Op.call { callee := (Callee.value (Operand.func 17)), args := #[(Operand.tmp 27)], argTypes := #[24] }, none⟩, []⟩,
  ⟨⟨some 29, Op.move (Operand.tmp 1), none⟩, []⟩,
  ⟨⟨some 30, Op.call { callee := (Callee.value (Operand.func 23)), args := #[(Operand.tmp 29)], argTypes := #[32] }, none⟩, []⟩,
  ⟨⟨some 31, Op.move (Operand.tmp 2), none⟩, []⟩,
  ⟨⟨some 32, Op.call { callee := (Callee.value (Operand.func 23)), args := #[(Operand.tmp 31)], argTypes := #[32] }, none⟩, []⟩,
  ⟨⟨some 33, Op.call { callee := (Callee.value (Operand.func 34)), args := #[(Operand.tmp 28), (Operand.tmp 30), (Operand.tmp 32)], argTypes := #[28, 32, 32] }, none⟩, []⟩,
  ⟨⟨some 26, Op.move (Operand.tmp 33), none⟩, []⟩,
  ⟨⟨some 34, Op.extract (Operand.tmp 26) 0, none⟩, []⟩,
  ⟨⟨some 35, Op.extract (Operand.tmp 26) 1, none⟩, []⟩,
  ⟨⟨some 8, Op.assign (Operand.tmp 34), none⟩, []⟩,
  ⟨⟨some 9, Op.assign (Operand.tmp 35), none⟩, []⟩]) (.seq (.reg [⟨⟨some 36, Op.load 24 (Operand.tmp 3), none⟩, []⟩,
  ⟨⟨some 37, Op.call { callee := (Callee.value (Operand.func 17)), args := #[(Operand.tmp 36)], argTypes := #[24] }, none⟩, []⟩,
  ⟨⟨some 10, Op.alloc 28, none⟩, []⟩,
  ⟨⟨none, Op.store 28 (Operand.tmp 10) (Operand.tmp 37), none⟩, []⟩]) (.seq (.reg [⟨⟨some 38, Op.move (Operand.tmp 1), none⟩, []⟩,
  ⟨⟨some 39, Op.call { callee := (Callee.value (Operand.func 23)), args := #[(Operand.tmp 38)], argTypes := #[32] }, none⟩, []⟩,
  ⟨⟨some 11, Op.assign (Operand.tmp 39), none⟩, []⟩]) (.seq (.reg [⟨⟨some 40, Op.move (Operand.tmp 2), none⟩, []⟩,
  ⟨⟨some 41, Op.call { callee := (Callee.value (Operand.func 23)), args := #[(Operand.tmp 40)], argTypes := #[32] }, none⟩, []⟩,
  ⟨⟨some 12, Op.assign (Operand.tmp 41), none⟩, []⟩]) (.seq (.reg [⟨⟨some 43, Op.load 28 (Operand.tmp 10), none⟩, []⟩,
  ⟨⟨some 44, Op.move (Operand.tmp 11), none⟩, []⟩,
  ⟨⟨some 45, Op.move (Operand.tmp 12), none⟩, []⟩,
  ⟨⟨some 46, Op.call { callee := (Callee.value (Operand.func 35)), args := #[(Operand.tmp 43), (Operand.tmp 44), (Operand.tmp 45)], argTypes := #[28, 32, 32] }, none⟩, []⟩,
  ⟨⟨some 42, Op.move (Operand.tmp 46), none⟩, []⟩,
  ⟨⟨some 47, Op.extract (Operand.tmp 42) 0, none⟩, []⟩,
  ⟨⟨some 48, Op.extract (Operand.tmp 42) 1, none⟩, []⟩,
  ⟨⟨some 13, Op.assign (Operand.tmp 47), none⟩, []⟩,
  ⟨⟨some 14, Op.assign (Operand.tmp 48), none⟩, []⟩]) (.seq (.seq (.reg [⟨⟨some 49, Op.move (Operand.tmp 13), none⟩, []⟩,
  ⟨⟨some 50, Op.move (Operand.tmp 8), none⟩, []⟩,
  ⟨⟨some 51, Op.binOp BinOp.neq 3 (Operand.tmp 49) (Operand.tmp 50) 3, none⟩, []⟩,
  ⟨⟨some 52, Op.move (Operand.tmp 51), none⟩, []⟩,
  ⟨⟨some 53, Op.move (Operand.tmp 14), some (52, false)⟩, []⟩,
  ⟨⟨some 54, Op.move (Operand.tmp 9), some (52, false)⟩, []⟩,
  ⟨⟨some 55, Op.binOp BinOp.neq 4 (Operand.tmp 53) (Operand.tmp 54) 4, some (52, false)⟩, []⟩,
  ⟨⟨some 56, Op.pick (Operand.tmp 52) (Operand.const (Value.bool true)) (Operand.tmp 55), none⟩, []⟩]) (.cond (Operand.tmp 56) (.seq (.reg [⟨⟨some 6, Op.assign (Operand.const (Value.bool false)), none⟩, []⟩]) .ret) .skip)) (.seq (.seq (.reg [⟨⟨some 57, Op.load 28 (Operand.tmp 10), none⟩, []⟩,
  ⟨⟨some 58, Op.load 24 (Operand.tmp 3), none⟩, []⟩,
  ⟨⟨some 59, Op.call { callee := (Callee.value (Operand.func 17)), args := #[(Operand.tmp 58)], argTypes := #[24] }, none⟩, [⟨some 57, Op.load 28 (Operand.tmp 10), none⟩]⟩,
  ⟨⟨some 60, Op.call { callee := (Callee.value (Operand.func 19)), args := #[(Operand.tmp 57), (Operand.tmp 59)], argTypes := #[28, 28] }, none⟩, []⟩,
  ⟨⟨some 61, Op.unOp UnOp.not 4 (Operand.tmp 60), none⟩, []⟩]) (.cond (Operand.tmp 61) (.seq (.reg [⟨⟨some 6, Op.assign (Operand.const (Value.bool false)), none⟩, []⟩]) .ret) .skip)) (.seq (.seq (.reg [⟨⟨some 62, Op.move (Operand.tmp 11), none⟩, []⟩,
  ⟨⟨some 63, Op.move (Operand.tmp 1), none⟩, []⟩,
  ⟨⟨some 64, Op.call { callee := (Callee.value (Operand.func 23)), args := #[(Operand.tmp 63)], argTypes := #[32] }, none⟩, []⟩,
  ⟨⟨some 65, Op.call { callee := (Callee.value (Operand.func 25)), args := #[(Operand.tmp 62), (Operand.tmp 64)], argTypes := #[32, 32] }, none⟩, []⟩,
  ⟨⟨some 66, Op.unOp UnOp.not 4 (Operand.tmp 65), none⟩, []⟩]) (.cond (Operand.tmp 66) (.seq (.reg [⟨⟨some 6, Op.assign (Operand.const (Value.bool false)), none⟩, []⟩]) .ret) .skip)) (.seq (.seq (.reg [⟨⟨some 67, Op.move (Operand.tmp 12), none⟩, []⟩,
  ⟨⟨some 68, Op.move (Operand.tmp 2), none⟩, []⟩,
  ⟨⟨some 69, Op.call { callee := (Callee.value (Operand.func 23)), args := #[(Operand.tmp 68)], argTypes := #[32] }, none⟩, []⟩,
  ⟨⟨some 70, Op.call { callee := (Callee.value (Operand.func 25)), args := #[(Operand.tmp 67), (Operand.tmp 69)], argTypes := #[32, 32] }, none⟩, []⟩,
  ⟨⟨some 71, Op.unOp UnOp.not 4 (Operand.tmp 70), none⟩, []⟩]) (.cond (Operand.tmp 71) (.seq (.reg [⟨⟨some 6, Op.assign (Operand.const (Value.bool false)), none⟩, []⟩]) .ret) .skip)) (.seq (.reg [⟨⟨some 6, Op.assign (Operand.const (Value.bool true)), none⟩, []⟩]) .ret))))))))))))))))
theorem sl8 : slim Try.f8.ntmps ords8 (Try.f8.body.getD .skip) = some cd8 := by kernel_rfl
theorem in8 {args : List Value} {H : AH} {R : Value → AH → Prop} (hl : args.length = 3) (h : ∀ (Q : Exit → Sl → AH → Prop), (∀ e s H, endA Try.prog [ResultVar.tmp 6] R e s H → Q e s H) → wpC Try.prog cd8 Q (enterA args) H) : ACalls Try.prog 8 args H R :=
  ACalls.intro (by kernel_rfl) Try.func8 rfl (by kernel_rfl) sl8 hl (of_decide_eq_true (by kernel_rfl)) (by kernel_rfl) h
end Go.Proofs.Ythhnpchjjbjabaa.Ai

namespace Go.Proofs.Ythhnpchjjbjabaa.Ai
open Go Go.RowKit
set_option linter.unusedVariables false
set_option linter.unusedSimpArgs false
set_option maxRecDepth 20000 in
set_option maxHeartbeats 8000000 in
theorem slDLaw_c  (n0 : Int) (v0 : Value) (v1 : Value) (v2 : Value) (xs0 : List (Int × Int)) (xs1 : List Int) (xs2 : List Int) (H0 : AH) (r0 : RowP 76 H0 v0 xs0) (b0 : (∀ y ∈ xs0, I64 y.1 ∧ I64 y.2) ∧ (xs0.length : Int) ≤ 9223372036854775807) (r1 : Row 3 H0 v1 xs1) (b1 : ∀ y ∈ xs1, I64 y) (r2 : Row 3 H0 v2 xs2) (b2 : ∀ y ∈ xs2, I64 y) (bn0 : I64 n0) :
    ACalls Try.prog 8 [.agg (List.toArray [.int .i64 n0, v0]), v1, v2] H0 fun r H' => r = .bool true := by
  refine in8 rfl ?_
  intro Q hQ
  simp (maxSteps := 4000000) (disch := omega) only [cd8, r1.len Try.underlying32, r2.len Try.underlying32, r0.boxL, S, S1, S2, S3, S4, S5, ST, eq_self, reduceIte, reduceCtorEq, Nat.reduceEqDiff, Nat.reduceAdd]
  generalize hG0 : H0 ++ [AObj.cells [.int .i64 n0, v0] 24 false] = H1
  have p1 : H0 <+: H1 := by rw [← hG0]; exact List.prefix_append _ _
  have CB0_1 : H1[H0.length]? = some (.cells [.int .i64 n0, v0] 24 false) := by rw [← hG0]; exact at_new ..
  have L1 := p1.length_le
  have Lb := at_lt CB0_1
  try simp (maxSteps := 4000000) (disch := omega) only [r1.len Try.underlying32, r2.len Try.underlying32, ld_agg ag24 cs24 CB0_1, S, S1, S2, S3, S4, S5, ST, eq_self, reduceIte, reduceCtorEq, Nat.reduceEqDiff, Nat.reduceAdd]
  refine brD.intro (fun g1 => ?_) (fun g1 => ?_) <;> simp (maxSteps := 4000000) (disch := omega) only [r1.len Try.underlying32, r2.len Try.underlying32, ld_agg ag24 cs24 CB0_1, S, S1, S2, S3, S4, S5, ST, eq_self, reduceIte, reduceCtorEq, Nat.reduceEqDiff, Nat.reduceAdd]
  · refine hQ _ _ _ ?_
    simp (maxSteps := 4000000) (disch := omega) only [ld_agg ag24 cs24 CB0_1, S, S1, S2, S3, S4, S5, ST, eq_self, reduceIte, reduceCtorEq, Nat.reduceEqDiff, Nat.reduceAdd]
  have l1 : xs1.length ≤ 1048576 := by omega
  refine brD.intro (fun g2 => ?_) (fun g2 => ?_) <;> simp (maxSteps := 4000000) (disch := omega) only [r1.len Try.underlying32, r2.len Try.underlying32, ld_agg ag24 cs24 CB0_1, S, S1, S2, S3, S4, S5, ST, eq_self, reduceIte, reduceCtorEq, Nat.reduceEqDiff, Nat.reduceAdd]
  · refine hQ _ _ _ ?_
    simp (maxSteps := 4000000) (disch := omega) only [ld_agg ag24 cs24 CB0_1, S, S1, S2, S3, S4, S5, ST, eq_self, reduceIte, reduceCtorEq, Nat.reduceEqDiff, Nat.reduceAdd]
  have l2 : xs2.length ≤ 1048576 := by omega
  have Ra0_0 := r0.b
  have Ra0_1 := Ra0_0.pre p1
  have Ra1_0 := r1.b
  have Ra1_1 := Ra1_0.pre p1
  have Ra2_0 := r2.b
  have Ra2_1 := Ra2_0.pre p1
  refine CallH.by (szGraph_c n0 v0 xs0 (1048576) H1 Ra0_1.1 (by omega) b0.2) ?_
  rintro _ H2 ⟨rfl, p2⟩
  have Ra0_2 := Ra0_1.pre p2
  have Ra1_2 := Ra1_1.pre p2
  have Ra2_2 := Ra2_1.pre p2
  have CB0_2 := pre_at p2 CB0_1
  have L2 := p2.length_le
  simp (maxSteps := 4000000) (disch := omega) only [ld_agg ag24 cs24 CB0_2, S, S1, S2, S3, S4, S5, ST, eq_self, reduceIte, reduceCtorEq, Nat.reduceEqDiff, Nat.reduceAdd]
  by_cases g0 : 1048576 - (xs0.length : Int) < 0
  · rw [if_pos g0]
    try simp (maxSteps := 4000000) (disch := omega) only [ld_agg ag24 cs24 CB0_2, S, S1, S2, S3, S4, S5, ST, eq_self, reduceIte, reduceCtorEq, Nat.reduceEqDiff, Nat.reduceAdd]
    try (refine brD.intro (fun _ => ?_) (fun h => absurd h (by omega)))
    try simp (maxSteps := 4000000) (disch := omega) only [ld_agg ag24 cs24 CB0_2, S, S1, S2, S3, S4, S5, ST, eq_self, reduceIte, reduceCtorEq, Nat.reduceEqDiff, Nat.reduceAdd]
    refine hQ _ _ _ ?_
    simp (maxSteps := 4000000) (disch := omega) only [ld_agg ag24 cs24 CB0_2, S, S1, S2, S3, S4, S5, ST, eq_self, reduceIte, reduceCtorEq, Nat.reduceEqDiff, Nat.reduceAdd]
  rw [if_neg g0]
  try simp (maxSteps := 4000000) (disch := omega) only [g0, ld_agg ag24 cs24 CB0_2, S, S1, S2, S3, S4, S5, ST, eq_self, reduceIte, reduceCtorEq, Nat.reduceEqDiff, Nat.reduceAdd]
  try refine brD.intro (fun h => absurd h (by omega)) (fun _ => ?_)
  try simp (maxSteps := 4000000) (disch := omega) only [g0, ld_agg ag24 cs24 CB0_2, S, S1, S2, S3, S4, S5, ST, eq_self, reduceIte, reduceCtorEq, Nat.reduceEqDiff, Nat.reduceAdd]
  have l0 : xs0.length ≤ 1048576 := by omega
  have L0_big : xs0.length ≤ 1099511627776 := by omega
  have L1_big : xs1.length ≤ 1099511627776 := by omega
  have L2_big : xs2.length ≤ 1099511627776 := by omega
  refine CallH.by (toGraph_c n0 v0 xs0 H2 Ra0_2.1 L0_big) ?_
  rintro _ H3 ⟨c0, rfl, qc0, p3⟩
  have Ra0_3 := Ra0_2.pre p3
  have Ra1_3 := Ra1_2.pre p3
  have Ra2_3 := Ra2_2.pre p3
  have CB0_3 := pre_at p3 CB0_2
  have L3 := p3.length_le
  have Mc0_3 := InP.of qc0
  have Rc0_3 := Mc0_3.row
  simp (maxSteps := 4000000) (disch := omega) only [ld_agg ag24 cs24 CB0_3, S, S1, S2, S3, S4, S5, ST, eq_self, reduceIte, reduceCtorEq, Nat.reduceEqDiff, Nat.reduceAdd]
  refine CallH.by (toIntS_c v1 xs1 H3 Ra1_3.1 L1_big) ?_
  rintro c1 H4 ⟨qc1, p4⟩
  have Ra0_4 := Ra0_3.pre p4
  have Ra1_4 := Ra1_3.pre p4
  have Ra2_4 := Ra2_3.pre p4
  have Rc0_4 := Rc0_3.pre p4
  have Mc0_4 := Mc0_3.pre p4
  have CB0_4 := pre_at p4 CB0_3
  have L4 := p4.length_le
  have Mc1_4 := InI.of qc1.mine
  have Rc1_4 := Mc1_4.row
  simp (maxSteps := 4000000) (disch := omega) only [ld_agg ag24 cs24 CB0_4, S, S1, S2, S3, S4, S5, ST, eq_self, reduceIte, reduceCtorEq, Nat.reduceEqDiff, Nat.reduceAdd]
  refine CallH.by (toIntS_c v2 xs2 H4 Ra2_4.1 L2_big) ?_
  rintro c2 H5 ⟨qc2, p5⟩
  have Ra0_5 := Ra0_4.pre p5
  have Ra1_5 := Ra1_4.pre p5
  have Ra2_5 := Ra2_4.pre p5
  have Rc0_5 := Rc0_4.pre p5
  have Rc1_5 := Rc1_4.pre p5
  have Mc0_5 := Mc0_4.pre p5
  have Mc1_5 := Mc1_4.pre p5
  have CB0_5 := pre_at p5 CB0_4
  have L5 := p5.length_le
  have Mc2_5 := InI.of qc2.mine
  have Rc2_5 := Mc2_5.row
  simp (maxSteps := 4000000) (disch := omega) only [ld_agg ag24 cs24 CB0_5, S, S1, S2, S3, S4, S5, ST, eq_self, reduceIte, reduceCtorEq, Nat.reduceEqDiff, Nat.reduceAdd]
  refine CallH.by (SlDS_c  n0 c0 c1 c2 xs0 xs1 xs2 H5 Rc0_5.1 L0_big b0.1 Rc1_5.1 L1_big b1 Rc2_5.1 L2_big b2 bn0) ?_
  rintro _ H6 ⟨rfl, p6⟩
  have Ra0_6 := Ra0_5.pre p6
  have Ra1_6 := Ra1_5.pre p6
  have Ra2_6 := Ra2_5.pre p6
  have Rc0_6 := Rc0_5.pre p6
  have Rc1_6 := Rc1_5.pre p6
  have Rc2_6 := Rc2_5.pre p6
  have Mc0_6 := Mc0_5.pre p6
  have Mc1_6 := Mc1_5.pre p6
  have Mc2_6 := Mc2_5.pre p6
  have CB0_6 := pre_at p6 CB0_5
  have L6 := p6.length_le
  simp (maxSteps := 4000000) (disch := omega) only [ld_agg ag24 cs24 CB0_6, S, S1, S2, S3, S4, S5, ST, eq_self, reduceIte, reduceCtorEq, Nat.reduceEqDiff, Nat.reduceAdd]
  refine CallH.by (toGraph_c n0 v0 xs0 H6 Ra0_6.1 L0_big) ?_
  rintro _ H7 ⟨d0, rfl, qd0, p7⟩
  have Ra0_7 := Ra0_6.pre p7
  have Ra1_7 := Ra1_6.pre p7
  have Ra2_7 := Ra2_6.pre p7
  have CB0_7 := pre_at p7 CB0_6
  have L7 := p7.length_le
  have Md0_7 := InP.of qd0
  have Rd0_7 := Md0_7.row
  simp (maxSteps := 4000000) (disch := omega) only [ld_agg ag24 cs24 CB0_7, S, S1, S2, S3, S4, S5, ST, eq_self, reduceIte, reduceCtorEq, Nat.reduceEqDiff, Nat.reduceAdd]
  have hst0 := st_G Rd0_7.1 (at_new H7 (.cells [.int .i64 0, .slice none 0 0] 28 false)) rfl n0
  simp (maxSteps := 4000000) (disch := omega) only [alloc_G, hst0, set_new, ld_agg ag24 cs24 CB0_7, S, S1, S2, S3, S4, S5, ST, eq_self, reduceIte, reduceCtorEq, Nat.reduceEqDiff, Nat.reduceAdd]
  generalize hX0 : H7 ++ [AObj.cells [.int .i64 n0, d0] 28 false] = H8
  have p8 : H7 <+: H8 := by rw [← hX0]; exact List.prefix_append _ _
  have CX0_8 : H8[H7.length]? = some (.cells [.int .i64 n0, d0] 28 false) := by rw [← hX0]; exact at_new ..
  have Lx := at_lt CX0_8
  have Ra0_8 := Ra0_7.pre p8
  have Ra1_8 := Ra1_7.pre p8
  have Ra2_8 := Ra2_7.pre p8
  have Rd0_8 := Rd0_7.pre p8
  have Md0_8 := Md0_7.pre p8
  have CB0_8 := pre_at p8 CB0_7
  have L8 := p8.length_le
  try simp (maxSteps := 4000000) (disch := omega) only [ld_agg ag24 cs24 CB0_8, ld_agg ag28 cs28 CX0_8, S, S1, S2, S3, S4, S5, ST, eq_self, reduceIte, reduceCtorEq, Nat.reduceEqDiff, Nat.reduceAdd]
  refine CallH.by (toIntS_c v1 xs1 H8 Ra1_8.1 L1_big) ?_
  rintro d1 H9 ⟨qd1, p9⟩
  have Ra0_9 := Ra0_8.pre p9
  have Ra1_9 := Ra1_8.pre p9
  have Ra2_9 := Ra2_8.pre p9
  have Rd0_9 := Rd0_8.pre p9
  have Md0_9 := Md0_8.pre p9
  have CB0_9 := pre_at p9 CB0_8
  have CX0_9 := pre_at p9 CX0_8
  have L9 := p9.length_le
  have Md1_9 := InI.of qd1.mine
  have Rd1_9 := Md1_9.row
  simp (maxSteps := 4000000) (disch := omega) only [ld_agg ag24 cs24 CB0_9, ld_agg ag28 cs28 CX0_9, S, S1, S2, S3, S4, S5, ST, eq_self, reduceIte, reduceCtorEq, Nat.reduceEqDiff, Nat.reduceAdd]
  refine CallH.by (toIntS_c v2 xs2 H9 Ra2_9.1 L2_big) ?_
  rintro d2 H10 ⟨qd2, p10⟩
  have Ra0_10 := Ra0_9.pre p10
  have Ra1_10 := Ra1_9.pre p10
  have Ra2_10 := Ra2_9.pre p10
  have Rd0_10 := Rd0_9.pre p10
  have Rd1_10 := Rd1_9.pre p10
  have Md0_10 := Md0_9.pre p10
  have Md1_10 := Md1_9.pre p10
  have CB0_10 := pre_at p10 CB0_9
  have CX0_10 := pre_at p10 CX0_9
  have L10 := p10.length_le
  have Md2_10 := InI.of qd2.mine
  have Rd2_10 := Md2_10.row
  simp (maxSteps := 4000000) (disch := omega) only [ld_agg ag24 cs24 CB0_10, ld_agg ag28 cs28 CX0_10, S, S1, S2, S3, S4, S5, ST, eq_self, reduceIte, reduceCtorEq, Nat.reduceEqDiff, Nat.reduceAdd]
  refine CallH.by (SlDI_c  n0 d0 d1 d2 xs0 xs1 xs2 H10 Rd0_10.1 L0_big b0.1 Rd1_10.1 L1_big b1 Rd2_10.1 L2_big b2 bn0) ?_
  rintro _ H11 ⟨rfl, p11⟩
  have Ra0_11 := Ra0_10.pre p11
  have Ra1_11 := Ra1_10.pre p11
  have Ra2_11 := Ra2_10.pre p11
  have Rd0_11 := Rd0_10.pre p11
  have Rd1_11 := Rd1_10.pre p11
  have Rd2_11 := Rd2_10.pre p11
  have Md0_11 := Md0_10.pre p11
  have Md1_11 := Md1_10.pre p11
  have Md2_11 := Md2_10.pre p11
  have CB0_11 := pre_at p11 CB0_10
  have CX0_11 := pre_at p11 CX0_10
  have L11 := p11.length_le
  simp (maxSteps := 4000000) (disch := omega) only [ld_agg ag24 cs24 CB0_11, ld_agg ag28 cs28 CX0_11, S, S1, S2, S3, S4, S5, ST, eq_self, reduceIte, reduceCtorEq, Nat.reduceEqDiff, Nat.reduceAdd]
  refine CallH.by (toGraph_c n0 v0 xs0 H11 Ra0_11.1 L0_big) ?_
  rintro _ H12 ⟨f0, rfl, qf0, p12⟩
  have Ra0_12 := Ra0_11.pre p12
  have Ra1_12 := Ra1_11.pre p12
  have Ra2_12 := Ra2_11.pre p12
  have Rd0_12 := Rd0_11.pre p12
  have Rd1_12 := Rd1_11.pre p12
  have Rd2_12 := Rd2_11.pre p12
  have Md0_12 := Md0_11.pre p12
  have Md1_12 := Md1_11.pre p12
  have Md2_12 := Md2_11.pre p12
  have CB0_12 := pre_at p12 CB0_11
  have CX0_12 := pre_at p12 CX0_11
  have L12 := p12.length_le
  have Mf0_12 := InP.of qf0
  have Rf0_12 := Mf0_12.row
  simp (maxSteps := 4000000) (disch := omega) only [ld_agg ag24 cs24 CB0_12, ld_agg ag28 cs28 CX0_12, S, S1, S2, S3, S4, S5, ST, eq_self, reduceIte, reduceCtorEq, Nat.reduceEqDiff, Nat.reduceAdd]
  refine CallH.by (eqGraph_c n0 n0 d0 f0 _ _ H12 Rd0_12.1 Rf0_12.1 L0_big) ?_
  rintro _ H13 ⟨rfl, p13⟩
  have Ra0_13 := Ra0_12.pre p13
  have Ra1_13 := Ra1_12.pre p13
  have Ra2_13 := Ra2_12.pre p13
  have Rd0_13 := Rd0_12.pre p13
  have Rd1_13 := Rd1_12.pre p13
  have Rd2_13 := Rd2_12.pre p13
  have Rf0_13 := Rf0_12.pre p13
  have Md0_13 := Md0_12.pre p13
  have Md1_13 := Md1_12.pre p13
  have Md2_13 := Md2_12.pre p13
  have Mf0_13 := Mf0_12.pre p13
  have CB0_13 := pre_at p13 CB0_12
  have CX0_13 := pre_at p13 CX0_12
  have L13 := p13.length_le
  simp (maxSteps := 4000000) (disch := omega) only [ld_agg ag24 cs24 CB0_13, ld_agg ag28 cs28 CX0_13, S, S1, S2, S3, S4, S5, ST, eq_self, reduceIte, reduceCtorEq, Nat.reduceEqDiff, Nat.reduceAdd]
  refine CallH.by (toIntS_c v1 xs1 H13 Ra1_13.1 L1_big) ?_
  rintro f1 H14 ⟨qf1, p14⟩
  have Ra0_14 := Ra0_13.pre p14
  have Ra1_14 := Ra1_13.pre p14
  have Ra2_14 := Ra2_13.pre p14
  have Rd0_14 := Rd0_13.pre p14
  have Rd1_14 := Rd1_13.pre p14
  have Rd2_14 := Rd2_13.pre p14
  have Md0_14 := Md0_13.pre p14
  have Md1_14 := Md1_13.pre p14
  have Md2_14 := Md2_13.pre p14
  have CB0_14 := pre_at p14 CB0_13
  have CX0_14 := pre_at p14 CX0_13
  have L14 := p14.length_le
  have Mf1_14 := InI.of qf1.mine
  have Rf1_14 := Mf1_14.row
  simp (maxSteps := 4000000) (disch := omega) only [ld_agg ag24 cs24 CB0_14, ld_agg ag28 cs28 CX0_14, S, S1, S2, S3, S4, S5, ST, eq_self, reduceIte, reduceCtorEq, Nat.reduceEqDiff, Nat.reduceAdd]
  refine CallH.by (eqIntS_c d1 f1 _ _ H14 Rd1_14.1 Rf1_14.1 L1_big) ?_
  rintro _ _ ⟨rfl, rfl⟩
  simp (maxSteps := 4000000) (disch := omega) only [ld_agg ag24 cs24 CB0_14, ld_agg ag28 cs28 CX0_14, S, S1, S2, S3, S4, S5, ST, eq_self, reduceIte, reduceCtorEq, Nat.reduceEqDiff, Nat.reduceAdd]
  refine CallH.by (toIntS_c v2 xs2 H14 Ra2_14.1 L2_big) ?_
  rintro f2 H15 ⟨qf2, p15⟩
  have Ra0_15 := Ra0_14.pre p15
  have Ra1_15 := Ra1_14.pre p15
  have Ra2_15 := Ra2_14.pre p15
  have Rd0_15 := Rd0_14.pre p15
  have Rd1_15 := Rd1_14.pre p15
  have Rd2_15 := Rd2_14.pre p15
  have Md0_15 := Md0_14.pre p15
  have Md1_15 := Md1_14.pre p15
  have Md2_15 := Md2_14.pre p15
  have CB0_15 := pre_at p15 CB0_14
  have CX0_15 := pre_at p15 CX0_14
  have L15 := p15.length_le
  have Mf2_15 := InI.of qf2.mine
  have Rf2_15 := Mf2_15.row
  simp (maxSteps := 4000000) (disch := omega) only [ld_agg ag24 cs24 CB0_15, ld_agg ag28 cs28 CX0_15, S, S1, S2, S3, S4, S5, ST, eq_self, reduceIte, reduceCtorEq, Nat.reduceEqDiff, Nat.reduceAdd]
  refine CallH.by (eqIntS_c d2 f2 _ _ H15 Rd2_15.1 Rf2_15.1 L2_big) ?_
  rintro _ _ ⟨rfl, rfl⟩
  simp (maxSteps := 4000000) (disch := omega) only [ld_agg ag24 cs24 CB0_15, ld_agg ag28 cs28 CX0_15, S, S1, S2, S3, S4, S5, ST, eq_self, reduceIte, reduceCtorEq, Nat.reduceEqDiff, Nat.reduceAdd]
  refine hQ _ _ _ ?_
  simp (maxSteps := 4000000) (disch := omega) only [ld_agg ag24 cs24 CB0_15, ld_agg ag28 cs28 CX0_15, S, S1, S2, S3, S4, S5, ST, eq_self, reduceIte, reduceCtorEq, Nat.reduceEqDiff, Nat.reduceAdd]

end Go.Proofs.Ythhnpchjjbjabaa.Ai
