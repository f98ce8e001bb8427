/- FnExactTokenSpace: the law, from both sides' contracts. -/
import Derived.Test.YthhnpchjjbjabaaTsp
import Derived.Test.YthhnpchjjbjabaaMark
import Derived.Test.YthhnpchjjbjabaaMarkP
import Derived.Test.YthhnpchjjbjabaaPrs
import Derived.Test.YthhnpchjjbjabaaGrf
import Derived.Test.YthhnpchjjbjabaaMarkS
import Derived.Test.YthhnpchjjbjabaaProg
import Derived.Test.YthhnpchjjbjabaaAiM2
import Derived.KernelRfl
/- Slim code of this translation. By the kernel. -/
namespace Go.Proofs.Ythhnpchjjbjabaa.Ai
open Go

/- loop.example/g01128/laws.FnExactTokenSpace -/
def ords7 : List (Nat × List (Nat × Bool)) := [(10, [(0, false), (1, false), (2, true), (3, true), (4, false)])]
def cd7 : Cd := (.seq (.reg [⟨⟨some 1, Op.box 24 (Operand.tmp 0), none⟩, []⟩,
  ⟨⟨some 2, Op.assign (Operand.const (Value.bool false)), none⟩, []⟩]) (.seq (.reg [⟨⟨some 3, Op.assign (Operand.const (Value.int IntKind.i64 1048576)), none⟩, []⟩]) (.seq (.reg [⟨⟨some 14, Op.load 24 (Operand.tmp 1), none⟩, []⟩,
  ⟨⟨some 15, Op.move (Operand.tmp 3), none⟩, []⟩,
  ⟨⟨some 16, Op.call { callee := (Callee.value (Operand.func 15)), args := #[(Operand.tmp 14), (Operand.tmp 15)], argTypes := #[24, 3] }, none⟩, []⟩,
  ⟨⟨some 3, Op.assign (Operand.tmp 16), none⟩, []⟩]) (.seq (.seq (.reg [⟨⟨some 17, Op.move (Operand.tmp 3), none⟩, []⟩,
  ⟨⟨some 18, Op.binOp BinOp.lss 3 (Operand.tmp 17) (Operand.const (Value.int IntKind.i64 0)) 3, none⟩, []⟩]) (.cond (Operand.tmp 18) (.seq (.reg [⟨⟨some 2, Op.assign (Operand.const (Value.bool true)), none⟩, []⟩]) .ret) .skip)) (.seq (.reg [⟨⟨some 20, Op.load 24 (Operand.tmp 1), none⟩, []⟩,
  ⟨⟨some 21, Op.call { callee := (Callee.value (Operand.func 17)), args := #[(Operand.tmp 20)], argTypes := #[24] }, none⟩, []⟩,
  ⟨⟨some 22, Op.call { callee := (Callee.value (Operand.func 28)), args := #[(Operand.tmp 21)], argTypes := #[28] }, none⟩, []⟩,
  ⟨⟨some 19, Op.move (Operand.tmp 22), none⟩, []⟩,
  ⟨⟨some 23, Op.extract (Operand.tmp 19) 0, none⟩, []⟩,
  ⟨⟨some 24, Op.extract (Operand.tmp 19) 1, none⟩, []⟩,
  ⟨⟨some 4, Op.alloc 40, none⟩, []⟩,
  ⟨⟨none, Op.store 40 (Operand.tmp 4) (Operand.tmp 23), none⟩, []⟩,
  ⟨⟨some 5, Op.assign (Operand.tmp 24), none⟩, []⟩]) (.seq (.reg [⟨⟨some 25, Op.load 24 (Operand.tmp 1), none⟩, []⟩,
  ⟨⟨some 26, Op.call { callee := (Callee.value (Operand.func 17)), args := #[(Operand.tmp 25)], argTypes := #[24] }, none⟩, []⟩,
  ⟨⟨some 6, Op.alloc 28, none⟩, []⟩,
  ⟨⟨none, Op.store 28 (Operand.tmp 6) (Operand.tmp 26), none⟩, []⟩]) (.seq (.reg [⟨⟨some 28, Op.load 28 (Operand.tmp 6), none⟩, []⟩,
  ⟨⟨some 29, Op.call { callee := (Callee.value (Operand.func 29)), args := #[(Operand.tmp 28)], argTypes := #[28] }, none⟩, []⟩,
  ⟨⟨some 27, Op.move (Operand.tmp 29), none⟩, []⟩,
  ⟨⟨some 30, Op.extract (Operand.tmp 27) 0, none⟩, []⟩,
  ⟨⟨some 31, Op.extract (Operand.tmp 27) 1, none⟩, []⟩,
  ⟨⟨some 7, Op.alloc 40, none⟩, []⟩,
  ⟨⟨none, Op.store 40 (Operand.tmp 7) (Operand.tmp 30), none⟩, []⟩,
  ⟨⟨some 8, Op.assign (Operand.tmp 31), none⟩, []⟩]) (.seq (.seq (.reg [⟨⟨some 32, Op.load 40 (Operand.tmp 7), none⟩, []⟩,
  ⟨⟨some 33, Op.load 40 (Operand.tmp 4), none⟩, []⟩,
  ⟨⟨some 34, Op.call { callee := (Callee.value (Operand.func 30)), args := #[(Operand.tmp 32), (Operand.tmp 33)], argTypes := #[40, 40] }, none⟩, []⟩,
  ⟨⟨some 35, Op.unOp UnOp.not 4 (Operand.tmp 34), none⟩, []⟩,
  ⟨⟨some 36, Op.move (Operand.tmp 35), none⟩, []⟩,
  ⟨⟨some 37, Op.move (Operand.tmp 8), some (36, false)⟩, []⟩,
  ⟨⟨some 38, Op.move (Operand.tmp 5), some (36, false)⟩, []⟩,
  ⟨⟨some 39, Op.binOp BinOp.neq 4 (Operand.tmp 37) (Operand.tmp 38) 4, some (36, false)⟩, []⟩,
  ⟨⟨some 40, Op.pick (Operand.tmp 36) (Operand.const (Value.bool true)) (Operand.tmp 39), none⟩, []⟩]) (.cond (Operand.tmp 40) (.seq (.reg [⟨⟨some 2, Op.assign (Operand.const (Value.bool false)), none⟩, []⟩]) .ret) .skip)) (.seq (.seq (.reg [⟨⟨some 41, Op.load 28 (Operand.tmp 6), none⟩, []⟩,
  ⟨⟨some 42, Op.load 24 (Operand.tmp 1), none⟩, []⟩,
  ⟨⟨some 43, Op.call { callee := (Callee.value (Operand.func 17)), args := #[(Operand.tmp 42)], argTypes := #[24] }, none⟩, [⟨some 41, Op.load 28 (Operand.tmp 6), none⟩]⟩,
  ⟨⟨some 44, Op.call { callee := (Callee.value (Operand.func 19)), args := #[(Operand.tmp 41), (Operand.tmp 43)], argTypes := #[28, 28] }, none⟩, []⟩,
  ⟨⟨some 45, Op.unOp UnOp.not 4 (Operand.tmp 44), none⟩, []⟩]) (.cond (Operand.tmp 45) (.seq (.reg [⟨⟨some 2, Op.assign (Operand.const (Value.bool false)), none⟩, []⟩]) .ret) .skip)) (.seq (.reg [⟨⟨some 9, Op.assign (Operand.const (Value.int IntKind.i64 1)), none⟩, []⟩]) (.seq (.reg [⟨⟨some 46, Op.load 28 (Operand.tmp 6), none⟩, []⟩,
  ⟨⟨some 47, Op.move (Operand.tmp 9), none⟩, []⟩,
  ⟨⟨some 48, Op.call { callee := (Callee.value (Operand.func 31)), args := #[(Operand.tmp 46), (Operand.tmp 47)], argTypes := #[28, 3] }, none⟩, []⟩,
  ⟨⟨some 9, Op.assign (Operand.tmp 48), none⟩, []⟩]) (.seq (.seq (.reg [⟨⟨some 49, Op.move (Operand.tmp 9), none⟩, []⟩,
  ⟨⟨some 50, Op.binOp BinOp.lss 3 (Operand.tmp 49) (Operand.const (Value.int IntKind.i64 0)) 3, none⟩, []⟩,
  ⟨⟨some 51, Op.move (Operand.tmp 50), none⟩, []⟩,
  ⟨⟨some 52, Op.load 40 (Operand.tmp 7), some (51, false)⟩, []⟩,
  ⟨⟨some 53, Op.load 40 (Operand.tmp 4), some (51, false)⟩, []⟩,
  ⟨⟨some 54, Op.call { callee := (Callee.value (Operand.func 30)), args := #[(Operand.tmp 52), (Operand.tmp 53)], argTypes := #[40, 40] }, some (51, false)⟩, []⟩,
  ⟨⟨some 55, Op.unOp UnOp.not 4 (Operand.tmp 54), some (51, false)⟩, []⟩,
  ⟨⟨some 56, Op.pick (Operand.tmp 51) (Operand.const (Value.bool true)) (Operand.tmp 55), none⟩, []⟩,
  ⟨⟨some 57, Op.move (Operand.tmp 56), none⟩, []⟩,
  ⟨⟨some 58, Op.move (Operand.tmp 8), some (57, false)⟩, []⟩,
  ⟨⟨some 59, Op.move (Operand.tmp 5), some (57, false)⟩, []⟩,
  ⟨⟨some 60, Op.binOp BinOp.neq 4 (Operand.tmp 58) (Operand.tmp 59) 4, some (57, false)⟩, []⟩,
  ⟨⟨some 61, Op.pick (Operand.tmp 57) (Operand.const (Value.bool true)) (Operand.tmp 60), none⟩, []⟩]) (.cond (Operand.tmp 61) (.seq (.reg [⟨⟨some 2, Op.assign (Operand.const (Value.bool false)), none⟩, []⟩]) .ret) .skip)) (.seq (.reg [⟨⟨some 10, Op.assign (Operand.const (Value.int IntKind.i64 1)), none⟩, []⟩]) (.seq (.reg [⟨⟨some 62, Op.load 40 (Operand.tmp 7), none⟩, []⟩,
  ⟨⟨some 63, Op.move (Operand.tmp 10), none⟩, []⟩,
  ⟨⟨some 64, Op.call { callee := (Callee.value (Operand.func 32)), args := #[(Operand.tmp 62), (Operand.tmp 63)], argTypes := #[40, 3] }, none⟩, []⟩,
  ⟨⟨some 10, Op.assign (Operand.tmp 64), none⟩, []⟩]) (.seq (.reg [⟨⟨some 11, Op.assign (Operand.const (Value.int IntKind.i64 1)), none⟩, []⟩]) (.seq (.reg [⟨⟨some 65, Op.load 40 (Operand.tmp 7), none⟩, []⟩,
  ⟨⟨some 66, Op.move (Operand.tmp 11), none⟩, []⟩,
  ⟨⟨some 67, Op.call { callee := (Callee.value (Operand.func 33)), args := #[(Operand.tmp 65), (Operand.tmp 66)], argTypes := #[40, 3] }, none⟩, []⟩,
  ⟨⟨some 11, Op.assign (Operand.tmp 67), none⟩, []⟩]) (.seq (.seq (.reg [⟨⟨some 68, Op.move (Operand.tmp 11), none⟩, []⟩,
  ⟨⟨some 69, Op.binOp BinOp.lss 3 (Operand.tmp 68) (Operand.const (Value.int IntKind.i64 0)) 3, none⟩, []⟩]) (.cond (Operand.tmp 69) (.seq (.reg [⟨⟨some 2, Op.assign (Operand.const (Value.bool false)), none⟩, []⟩]) .ret) .skip)) (.seq (.seq (.reg [⟨⟨some 70, Op.move (Operand.tmp 11), none⟩, []⟩,
  ⟨⟨some 71, Op.move (Operand.tmp 10), none⟩, []⟩,
  ⟨⟨some 72, Op.binOp BinOp.neq 3 (Operand.tmp 70) (Operand.tmp 71) 3, none⟩, []⟩]) (.cond (Operand.tmp 72) (.seq (.reg [⟨⟨some 2, Op.assign (Operand.const (Value.bool false)), none⟩, []⟩]) .ret) .skip)) (.seq (.reg [⟨⟨some 74, Op.load 24 (Operand.tmp 1), none⟩, []⟩,
  ⟨⟨some 75, Op.call { callee := (Callee.value (Operand.func 17)), args := #[(Operand.tmp 74)], argTypes := #[24] }, none⟩, []⟩,
  ⟨⟨some 76, Op.call { callee := (Callee.value (Operand.func 29)), args := #[(Operand.tmp 75)], argTypes := #[28] }, none⟩, []⟩,
  ⟨⟨some 73, Op.move (Operand.tmp 76), none⟩, []⟩,
  ⟨⟨some 77, Op.extract (Operand.tmp 73) 0, none⟩, []⟩,
  ⟨⟨some 78, Op.extract (Operand.tmp 73) 1, none⟩, []⟩,
  ⟨⟨some 12, Op.alloc 40, none⟩, []⟩,
  ⟨⟨none, Op.store 40 (Operand.tmp 12) (Operand.tmp 77), none⟩, []⟩,
  ⟨⟨some 13, Op.assign (Operand.tmp 78), none⟩, []⟩]) (.seq (.seq (.reg [⟨⟨some 79, Op.load 40 (Operand.tmp 12), none⟩, []⟩,
  ⟨⟨some 80, Op.load 40 (Operand.tmp 4), none⟩, []⟩,
  ⟨⟨some 81, Op.call { callee := (Callee.value (Operand.func 30)), args := #[(Operand.tmp 79), (Operand.tmp 80)], argTypes := #[40, 40] }, none⟩, []⟩,
  ⟨⟨some 82, Op.unOp UnOp.not 4 (Operand.tmp 81), none⟩, []⟩,
  ⟨⟨some 83, Op.move (Operand.tmp 82), none⟩, []⟩,
  ⟨⟨some 84, Op.move (Operand.tmp 13), some (83, false)⟩, []⟩,
  ⟨⟨some 85, Op.move (Operand.tmp 5), some (83, false)⟩, []⟩,
  ⟨⟨some 86, Op.binOp BinOp.neq 4 (Operand.tmp 84) (Operand.tmp 85) 4, some (83, false)⟩, []⟩,
  ⟨⟨some 87, Op.pick (Operand.tmp 83) (Operand.const (Value.bool true)) (Operand.tmp 86), none⟩, []⟩]) (.cond (Operand.tmp 87) (.seq (.reg [⟨⟨some 2, Op.assign (Operand.const (Value.bool false)), none⟩, []⟩]) .ret) .skip)) (.seq (.reg [⟨⟨some 11, Op.assign (Operand.const (Value.int IntKind.i64 1)), none⟩, []⟩]) (.seq (.reg [⟨⟨some 88, Op.load 40 (Operand.tmp 7), none⟩, []⟩,
  ⟨⟨some 89, Op.move (Operand.tmp 11), none⟩, []⟩,
  ⟨⟨some 90, Op.call { callee := (Callee.value (Operand.func 33)), args := #[(Operand.tmp 88), (Operand.tmp 89)], argTypes := #[40, 3] }, none⟩, []⟩,
  ⟨⟨some 11, Op.assign (Operand.tmp 90), none⟩, []⟩]) (.seq (.seq (.reg [⟨⟨some 91, Op.move (Operand.tmp 11), none⟩, []⟩,
  ⟨⟨some 92, Op.binOp BinOp.lss 3 (Operand.tmp 91) (Operand.const (Value.int IntKind.i64 0)) 3, none⟩, []⟩]) (.cond (Operand.tmp 92) (.seq (.reg [⟨⟨some 2, Op.assign (Operand.const (Value.bool false)), none⟩, []⟩]) .ret) .skip)) (.seq (.seq (.reg [⟨⟨some 93, Op.move (Operand.tmp 11), none⟩, []⟩,
  ⟨⟨some 94, Op.move (Operand.tmp 10), none⟩, []⟩,
  ⟨⟨some 95, Op.binOp BinOp.neq 3 (Operand.tmp 93) (Operand.tmp 94) 3, none⟩, []⟩]) (.cond (Operand.tmp 95) (.seq (.reg [⟨⟨some 2, Op.assign (Operand.const (Value.bool false)), none⟩, []⟩]) .ret) .skip)) (.seq (.reg [⟨⟨some 2, Op.assign (Operand.const (Value.bool true)), none⟩, []⟩]) .ret)))))))))))))))))))))))))
theorem sl7 : slim Try.f7.ntmps ords7 (Try.f7.body.getD .skip) = some cd7 := by kernel_rfl
theorem in7 {args : List Value} {H : AH} {R : Value → AH → Prop} (hl : args.length = 1) (h : ∀ (Q : Exit → Sl → AH → Prop), (∀ e s H, endA Try.prog [ResultVar.tmp 2] R e s H → Q e s H) → wpC Try.prog cd7 Q (enterA args) H) : ACalls Try.prog 7 args H R :=
  ACalls.intro (by kernel_rfl) Try.func7 rfl (by kernel_rfl) sl7 hl (of_decide_eq_true (by kernel_rfl)) (by kernel_rfl) h
end Go.Proofs.Ythhnpchjjbjabaa.Ai

namespace Go.Proofs.Ythhnpchjjbjabaa.Ai
open Go Go.RowKit
set_option linter.unusedVariables false
set_option linter.unusedSimpArgs false
set_option maxRecDepth 20000 in
set_option maxHeartbeats 8000000 in
theorem tspLaw_c  (n0 : Int) (v0 : Value) (xs0 : List (Int × Int)) (H0 : AH) (r0 : RowP 76 H0 v0 xs0) (b0 : (∀ y ∈ xs0, I64 y.1 ∧ I64 y.2) ∧ (xs0.length : Int) ≤ 9223372036854775807) (bn0 : I64 n0) :
    ACalls Try.prog 7 [.agg (List.toArray [.int .i64 n0, v0])] H0 fun r H' => r = .bool true := by
  refine in7 rfl ?_
  intro Q hQ
  simp (maxSteps := 4000000) (disch := omega) only [cd7, r0.boxL, S, S1, S2, S3, S4, S5, ST, eq_self, reduceIte, reduceCtorEq, Nat.reduceEqDiff, Nat.reduceAdd]
  generalize hG0 : H0 ++ [AObj.cells [.int .i64 n0, v0] 24 false] = H1
  have p1 : H0 <+: H1 := by rw [← hG0]; exact List.prefix_append _ _
  have CB0_1 : H1[H0.length]? = some (.cells [.int .i64 n0, v0] 24 false) := by rw [← hG0]; exact at_new ..
  have L1 := p1.length_le
  have Lb := at_lt CB0_1
  try simp (maxSteps := 4000000) (disch := omega) only [ld_agg ag24 cs24 CB0_1, S, S1, S2, S3, S4, S5, ST, eq_self, reduceIte, reduceCtorEq, Nat.reduceEqDiff, Nat.reduceAdd]
  have Ra0_0 := r0.b
  have Ra0_1 := Ra0_0.pre p1
  refine CallH.by (szGraph_c n0 v0 xs0 (1048576) H1 Ra0_1.1 (by omega) b0.2) ?_
  rintro _ H2 ⟨rfl, p2⟩
  have Ra0_2 := Ra0_1.pre p2
  have CB0_2 := pre_at p2 CB0_1
  have L2 := p2.length_le
  simp (maxSteps := 4000000) (disch := omega) only [ld_agg ag24 cs24 CB0_2, S, S1, S2, S3, S4, S5, ST, eq_self, reduceIte, reduceCtorEq, Nat.reduceEqDiff, Nat.reduceAdd]
  by_cases g0 : 1048576 - (xs0.length : Int) < 0
  · rw [if_pos g0]
    try simp (maxSteps := 4000000) (disch := omega) only [ld_agg ag24 cs24 CB0_2, S, S1, S2, S3, S4, S5, ST, eq_self, reduceIte, reduceCtorEq, Nat.reduceEqDiff, Nat.reduceAdd]
    try (refine brD.intro (fun _ => ?_) (fun h => absurd h (by omega)))
    try simp (maxSteps := 4000000) (disch := omega) only [ld_agg ag24 cs24 CB0_2, S, S1, S2, S3, S4, S5, ST, eq_self, reduceIte, reduceCtorEq, Nat.reduceEqDiff, Nat.reduceAdd]
    refine hQ _ _ _ ?_
    simp (maxSteps := 4000000) (disch := omega) only [ld_agg ag24 cs24 CB0_2, S, S1, S2, S3, S4, S5, ST, eq_self, reduceIte, reduceCtorEq, Nat.reduceEqDiff, Nat.reduceAdd]
  rw [if_neg g0]
  try simp (maxSteps := 4000000) (disch := omega) only [g0, ld_agg ag24 cs24 CB0_2, S, S1, S2, S3, S4, S5, ST, eq_self, reduceIte, reduceCtorEq, Nat.reduceEqDiff, Nat.reduceAdd]
  try refine brD.intro (fun h => absurd h (by omega)) (fun _ => ?_)
  try simp (maxSteps := 4000000) (disch := omega) only [g0, ld_agg ag24 cs24 CB0_2, S, S1, S2, S3, S4, S5, ST, eq_self, reduceIte, reduceCtorEq, Nat.reduceEqDiff, Nat.reduceAdd]
  have l0 : xs0.length ≤ 1048576 := by omega
  have L0_big : xs0.length ≤ 1099511627776 := by omega
  refine CallH.by (toGraph_c n0 v0 xs0 H2 Ra0_2.1 L0_big) ?_
  rintro _ H3 ⟨c0, rfl, qc0, p3⟩
  have Ra0_3 := Ra0_2.pre p3
  have CB0_3 := pre_at p3 CB0_2
  have L3 := p3.length_le
  have Mc0_3 := InP.of qc0
  have Rc0_3 := Mc0_3.row
  simp (maxSteps := 4000000) (disch := omega) only [ld_agg ag24 cs24 CB0_3, S, S1, S2, S3, S4, S5, ST, eq_self, reduceIte, reduceCtorEq, Nat.reduceEqDiff, Nat.reduceAdd]
  refine CallH.by (TsS_c  n0 c0 xs0 H3 Rc0_3.1 L0_big b0.1 bn0) ?_
  rintro _ H4 ⟨w0a, w0b, rfl, qw0, p4⟩
  have Ra0_4 := Ra0_3.pre p4
  have Rc0_4 := Rc0_3.pre p4
  have Mc0_4 := Mc0_3.pre p4
  have CB0_4 := pre_at p4 CB0_3
  have L4 := p4.length_le
  have Mw0_4 := qw0
  have Rw0_4 := Mw0_4.row
  have hstw0 := Rw0_4.store (at_new H4 (.cells [.slice none 0 0, .slice none 0 0] 40 false)) rfl
  simp (maxSteps := 4000000) (disch := omega) only [alloc_sp, hstw0, set_new, ld_agg ag24 cs24 CB0_4, S, S1, S2, S3, S4, S5, ST, eq_self, reduceIte, reduceCtorEq, Nat.reduceEqDiff, Nat.reduceAdd]
  generalize hXw0 : H4 ++ [AObj.cells [w0a, w0b] 40 false] = H5
  have p5 : H4 <+: H5 := by rw [← hXw0]; exact List.prefix_append _ _
  have Cw0_5 : H5[H4.length]? = some (.cells [w0a, w0b] 40 false) := by rw [← hXw0]; exact at_new ..
  have Lxw0 := at_lt Cw0_5
  have Ra0_5 := Ra0_4.pre p5
  have Rc0_5 := Rc0_4.pre p5
  have Rw0_5 := Rw0_4.pre p5
  have Mc0_5 := Mc0_4.pre p5
  have Mw0_5 := Mw0_4.pre p5
  have CB0_5 := pre_at p5 CB0_4
  have L5 := p5.length_le
  try simp (maxSteps := 4000000) (disch := omega) only [ld_agg ag24 cs24 CB0_5, ld_agg ag40 cs40 Cw0_5, S, S1, S2, S3, S4, S5, ST, eq_self, reduceIte, reduceCtorEq, Nat.reduceEqDiff, Nat.reduceAdd]
  refine CallH.by (toGraph_c n0 v0 xs0 H5 Ra0_5.1 L0_big) ?_
  rintro _ H6 ⟨d0, rfl, qd0, p6⟩
  have Ra0_6 := Ra0_5.pre p6
  have Rw0_6 := Rw0_5.pre p6
  have Mw0_6 := Mw0_5.pre p6
  have CB0_6 := pre_at p6 CB0_5
  have Cw0_6 := pre_at p6 Cw0_5
  have L6 := p6.length_le
  have Md0_6 := InP.of qd0
  have Rd0_6 := Md0_6.row
  simp (maxSteps := 4000000) (disch := omega) only [ld_agg ag24 cs24 CB0_6, ld_agg ag40 cs40 Cw0_6, S, S1, S2, S3, S4, S5, ST, eq_self, reduceIte, reduceCtorEq, Nat.reduceEqDiff, Nat.reduceAdd]
  have hst0 := st_G Rd0_6.1 (at_new H6 (.cells [.int .i64 0, .slice none 0 0] 28 false)) rfl n0
  simp (maxSteps := 4000000) (disch := omega) only [alloc_G, hst0, set_new, ld_agg ag24 cs24 CB0_6, ld_agg ag40 cs40 Cw0_6, S, S1, S2, S3, S4, S5, ST, eq_self, reduceIte, reduceCtorEq, Nat.reduceEqDiff, Nat.reduceAdd]
  generalize hX0 : H6 ++ [AObj.cells [.int .i64 n0, d0] 28 false] = H7
  have p7 : H6 <+: H7 := by rw [← hX0]; exact List.prefix_append _ _
  have CX0_7 : H7[H6.length]? = some (.cells [.int .i64 n0, d0] 28 false) := by rw [← hX0]; exact at_new ..
  have Lx := at_lt CX0_7
  have Ra0_7 := Ra0_6.pre p7
  have Rw0_7 := Rw0_6.pre p7
  have Rd0_7 := Rd0_6.pre p7
  have Mw0_7 := Mw0_6.pre p7
  have Md0_7 := Md0_6.pre p7
  have CB0_7 := pre_at p7 CB0_6
  have Cw0_7 := pre_at p7 Cw0_6
  have L7 := p7.length_le
  try simp (maxSteps := 4000000) (disch := omega) only [ld_agg ag24 cs24 CB0_7, ld_agg ag40 cs40 Cw0_7, ld_agg ag28 cs28 CX0_7, S, S1, S2, S3, S4, S5, ST, eq_self, reduceIte, reduceCtorEq, Nat.reduceEqDiff, Nat.reduceAdd]
  refine CallH.by (TsI_c  n0 d0 xs0 H7 Rd0_7.1 L0_big b0.1 bn0) ?_
  rintro _ H8 ⟨g0a, g0b, rfl, qg0, p8⟩
  have Ra0_8 := Ra0_7.pre p8
  have Rw0_8 := Rw0_7.pre p8
  have Rd0_8 := Rd0_7.pre p8
  have Mw0_8 := Mw0_7.pre p8
  have Md0_8 := Md0_7.pre p8
  have CB0_8 := pre_at p8 CB0_7
  have Cw0_8 := pre_at p8 Cw0_7
  have CX0_8 := pre_at p8 CX0_7
  have L8 := p8.length_le
  have Mg0_8 := qg0
  have Rg0_8 := Mg0_8.row
  have hstg0 := Rg0_8.store (at_new H8 (.cells [.slice none 0 0, .slice none 0 0] 40 false)) rfl
  simp (maxSteps := 4000000) (disch := omega) only [alloc_sp, hstg0, set_new, ld_agg ag24 cs24 CB0_8, ld_agg ag40 cs40 Cw0_8, ld_agg ag28 cs28 CX0_8, S, S1, S2, S3, S4, S5, ST, eq_self, reduceIte, reduceCtorEq, Nat.reduceEqDiff, Nat.reduceAdd]
  generalize hXg0 : H8 ++ [AObj.cells [g0a, g0b] 40 false] = H9
  have p9 : H8 <+: H9 := by rw [← hXg0]; exact List.prefix_append _ _
  have Cg0_9 : H9[H8.length]? = some (.cells [g0a, g0b] 40 false) := by rw [← hXg0]; exact at_new ..
  have Lxg0 := at_lt Cg0_9
  have Ra0_9 := Ra0_8.pre p9
  have Rw0_9 := Rw0_8.pre p9
  have Rd0_9 := Rd0_8.pre p9
  have Rg0_9 := Rg0_8.pre p9
  have Mw0_9 := Mw0_8.pre p9
  have Md0_9 := Md0_8.pre p9
  have Mg0_9 := Mg0_8.pre p9
  have CB0_9 := pre_at p9 CB0_8
  have Cw0_9 := pre_at p9 Cw0_8
  have CX0_9 := pre_at p9 CX0_8
  have L9 := p9.length_le
  try simp (maxSteps := 4000000) (disch := omega) only [ld_agg ag24 cs24 CB0_9, ld_agg ag40 cs40 Cw0_9, ld_agg ag28 cs28 CX0_9, ld_agg ag40 cs40 Cg0_9, S, S1, S2, S3, S4, S5, ST, eq_self, reduceIte, reduceCtorEq, Nat.reduceEqDiff, Nat.reduceAdd]
  have hR := ts_ok n0 xs0
  refine CallH.by (eqSpace_c g0a g0b w0a w0b _ _ _ _ H9 Rg0_9 Rw0_9 hR.1 (Nat.le_trans hR.2.1 (by decide)) hR.2.2) ?_
  rintro _ H10 ⟨rfl, p10⟩
  have Ra0_10 := Ra0_9.pre p10
  have Rw0_10 := Rw0_9.pre p10
  have Rd0_10 := Rd0_9.pre p10
  have Rg0_10 := Rg0_9.pre p10
  have Mw0_10 := Mw0_9.pre p10
  have Md0_10 := Md0_9.pre p10
  have Mg0_10 := Mg0_9.pre p10
  have CB0_10 := pre_at p10 CB0_9
  have Cw0_10 := pre_at p10 Cw0_9
  have CX0_10 := pre_at p10 CX0_9
  have Cg0_10 := pre_at p10 Cg0_9
  have L10 := p10.length_le
  simp (maxSteps := 4000000) (disch := omega) only [ld_agg ag24 cs24 CB0_10, ld_agg ag40 cs40 Cw0_10, ld_agg ag28 cs28 CX0_10, ld_agg ag40 cs40 Cg0_10, S, S1, S2, S3, S4, S5, ST, eq_self, reduceIte, reduceCtorEq, Nat.reduceEqDiff, Nat.reduceAdd]
  refine CallH.by (toGraph_c n0 v0 xs0 H10 Ra0_10.1 L0_big) ?_
  rintro _ H11 ⟨f0, rfl, qf0, p11⟩
  have Ra0_11 := Ra0_10.pre p11
  have Rw0_11 := Rw0_10.pre p11
  have Rd0_11 := Rd0_10.pre p11
  have Rg0_11 := Rg0_10.pre p11
  have Mw0_11 := Mw0_10.pre p11
  have Md0_11 := Md0_10.pre p11
  have Mg0_11 := Mg0_10.pre p11
  have CB0_11 := pre_at p11 CB0_10
  have Cw0_11 := pre_at p11 Cw0_10
  have CX0_11 := pre_at p11 CX0_10
  have Cg0_11 := pre_at p11 Cg0_10
  have L11 := p11.length_le
  have Mf0_11 := InP.of qf0
  have Rf0_11 := Mf0_11.row
  simp (maxSteps := 4000000) (disch := omega) only [ld_agg ag24 cs24 CB0_11, ld_agg ag40 cs40 Cw0_11, ld_agg ag28 cs28 CX0_11, ld_agg ag40 cs40 Cg0_11, S, S1, S2, S3, S4, S5, ST, eq_self, reduceIte, reduceCtorEq, Nat.reduceEqDiff, Nat.reduceAdd]
  refine CallH.by (eqGraph_c n0 n0 d0 f0 _ _ H11 Rd0_11.1 Rf0_11.1 L0_big) ?_
  rintro _ H12 ⟨rfl, p12⟩
  have Ra0_12 := Ra0_11.pre p12
  have Rw0_12 := Rw0_11.pre p12
  have Rd0_12 := Rd0_11.pre p12
  have Rg0_12 := Rg0_11.pre p12
  have Rf0_12 := Rf0_11.pre p12
  have Mw0_12 := Mw0_11.pre p12
  have Md0_12 := Md0_11.pre p12
  have Mg0_12 := Mg0_11.pre p12
  have Mf0_12 := Mf0_11.pre p12
  have CB0_12 := pre_at p12 CB0_11
  have Cw0_12 := pre_at p12 Cw0_11
  have CX0_12 := pre_at p12 CX0_11
  have Cg0_12 := pre_at p12 Cg0_11
  have L12 := p12.length_le
  simp (maxSteps := 4000000) (disch := omega) only [ld_agg ag24 cs24 CB0_12, ld_agg ag40 cs40 Cw0_12, ld_agg ag28 cs28 CX0_12, ld_agg ag40 cs40 Cg0_12, S, S1, S2, S3, S4, S5, ST, eq_self, reduceIte, reduceCtorEq, Nat.reduceEqDiff, Nat.reduceAdd]
  refine CallH.by (markGraph_B n0 d0 _ _ _ _ H12 Md0_12 L0_big (by omega) (by omega)) ?_
  rintro _ H14 ⟨rfl, H13, n_13, e13, p14⟩
  have L13 := Nat.le_of_eq e13.1.symm
  have Ra0_13 := Ra0_12.keep e13 (by omega)
  have Mw0_13 := Mw0_12.keep e13 (by omega)
  have Rw0_13 := Mw0_13.row
  have Mg0_13 := Mg0_12.keep e13 (by omega)
  have Rg0_13 := Mg0_13.row
  have CB0_13 := e13.2 _ _ (by omega) CB0_12
  have Cw0_13 := e13.2 _ _ (by omega) Cw0_12
  have CX0_13 := e13.2 _ _ (by omega) CX0_12
  have Cg0_13 := e13.2 _ _ (by omega) Cg0_12
  have Ra0_14 := Ra0_13.pre p14
  have Rw0_14 := Rw0_13.pre p14
  have Rg0_14 := Rg0_13.pre p14
  have Mw0_14 := Mw0_13.pre p14
  have Mg0_14 := Mg0_13.pre p14
  have CB0_14 := pre_at p14 CB0_13
  have Cw0_14 := pre_at p14 Cw0_13
  have CX0_14 := pre_at p14 CX0_13
  have Cg0_14 := pre_at p14 Cg0_13
  have L14 := p14.length_le
  simp (maxSteps := 4000000) (disch := omega) only [ld_agg ag24 cs24 CB0_14, ld_agg ag40 cs40 Cw0_14, ld_agg ag28 cs28 CX0_14, ld_agg ag40 cs40 Cg0_14, S, S1, S2, S3, S4, S5, ST, eq_self, reduceIte, reduceCtorEq, Nat.reduceEqDiff, Nat.reduceAdd]
  refine brD.intro (fun g => absurd g (by omega)) (fun gk => ?_)
  simp (maxSteps := 4000000) (disch := omega) only [gk, ld_agg ag24 cs24 CB0_14, ld_agg ag40 cs40 Cw0_14, ld_agg ag28 cs28 CX0_14, ld_agg ag40 cs40 Cg0_14, S, S1, S2, S3, S4, S5, ST, eq_self, reduceIte, reduceCtorEq, Nat.reduceEqDiff, Nat.reduceAdd]
  refine CallH.by (eqSpace_c g0a g0b w0a w0b _ _ _ _ H14 Rg0_14 Rw0_14 hR.1 (Nat.le_trans hR.2.1 (by decide)) hR.2.2) ?_
  rintro _ H15 ⟨rfl, p15⟩
  have Ra0_15 := Ra0_14.pre p15
  have Rw0_15 := Rw0_14.pre p15
  have Rg0_15 := Rg0_14.pre p15
  have Mw0_15 := Mw0_14.pre p15
  have Mg0_15 := Mg0_14.pre p15
  have CB0_15 := pre_at p15 CB0_14
  have Cw0_15 := pre_at p15 Cw0_14
  have CX0_15 := pre_at p15 CX0_14
  have Cg0_15 := pre_at p15 Cg0_14
  have L15 := p15.length_le
  simp (maxSteps := 4000000) (disch := omega) only [ld_agg ag24 cs24 CB0_15, ld_agg ag40 cs40 Cw0_15, ld_agg ag28 cs28 CX0_15, ld_agg ag40 cs40 Cg0_15, S, S1, S2, S3, S4, S5, ST, eq_self, reduceIte, reduceCtorEq, Nat.reduceEqDiff, Nat.reduceAdd]
  try simp (maxSteps := 4000000) (disch := omega) only [gk, ld_agg ag24 cs24 CB0_15, ld_agg ag40 cs40 Cw0_15, ld_agg ag28 cs28 CX0_15, ld_agg ag40 cs40 Cg0_15, S, S1, S2, S3, S4, S5, ST, eq_self, reduceIte, reduceCtorEq, Nat.reduceEqDiff, Nat.reduceAdd]
  refine CallH.by (markSpace_B g0a g0b _ _ 1 _ _ H15 Mg0_15 hR.1 hR.2.1 hR.2.2 (by omega) (by omega)) ?_
  rintro _ H17 ⟨rfl, H16, n_16, e16, p17⟩
  have L16 := Nat.le_of_eq e16.1.symm
  have Ra0_16 := Ra0_15.keep e16 (by omega)
  have Mw0_16 := Mw0_15.keep e16 (by omega)
  have Rw0_16 := Mw0_16.row
  have CB0_16 := e16.2 _ _ (by omega) CB0_15
  have Cw0_16 := e16.2 _ _ (by omega) Cw0_15
  have CX0_16 := e16.2 _ _ (by omega) CX0_15
  have Cg0_16 := e16.2 _ _ (by omega) Cg0_15
  have Mg0_16 := n_16
  have Rg0_16 := n_16.row
  have Ra0_17 := Ra0_16.pre p17
  have Rw0_17 := Rw0_16.pre p17
  have Rg0_17 := Rg0_16.pre p17
  have Mw0_17 := Mw0_16.pre p17
  have Mg0_17 := Mg0_16.pre p17
  have CB0_17 := pre_at p17 CB0_16
  have Cw0_17 := pre_at p17 Cw0_16
  have CX0_17 := pre_at p17 CX0_16
  have Cg0_17 := pre_at p17 Cg0_16
  have L17 := p17.length_le
  simp (maxSteps := 4000000) (disch := omega) only [ld_agg ag24 cs24 CB0_17, ld_agg ag40 cs40 Cw0_17, ld_agg ag28 cs28 CX0_17, ld_agg ag40 cs40 Cg0_17, S, S1, S2, S3, S4, S5, ST, eq_self, reduceIte, reduceCtorEq, Nat.reduceEqDiff, Nat.reduceAdd]
  refine CallH.by (heldSpace_c g0a g0b _ _ 1 H17 Rg0_17 hR.1 hR.2.1 hR.2.2 (by omega)) ?_
  rintro _ H18 ⟨rfl, p18⟩
  have Ra0_18 := Ra0_17.pre p18
  have Rw0_18 := Rw0_17.pre p18
  have Rg0_18 := Rg0_17.pre p18
  have Mw0_18 := Mw0_17.pre p18
  have Mg0_18 := Mg0_17.pre p18
  have CB0_18 := pre_at p18 CB0_17
  have Cw0_18 := pre_at p18 Cw0_17
  have CX0_18 := pre_at p18 CX0_17
  have Cg0_18 := pre_at p18 Cg0_17
  have L18 := p18.length_le
  simp (maxSteps := 4000000) (disch := omega) only [ld_agg ag24 cs24 CB0_18, ld_agg ag40 cs40 Cw0_18, ld_agg ag28 cs28 CX0_18, ld_agg ag40 cs40 Cg0_18, S, S1, S2, S3, S4, S5, ST, eq_self, reduceIte, reduceCtorEq, Nat.reduceEqDiff, Nat.reduceAdd]
  refine brD.intro (fun g => absurd g (by omega)) (fun _ => ?_)
  simp (maxSteps := 4000000) (disch := omega) only [ld_agg ag24 cs24 CB0_18, ld_agg ag40 cs40 Cw0_18, ld_agg ag28 cs28 CX0_18, ld_agg ag40 cs40 Cg0_18, S, S1, S2, S3, S4, S5, ST, eq_self, reduceIte, reduceCtorEq, Nat.reduceEqDiff, Nat.reduceAdd]
  refine CallH.by (toGraph_c n0 v0 xs0 H18 Ra0_18.1 L0_big) ?_
  rintro _ H19 ⟨e0, rfl, qe0, p19⟩
  have Ra0_19 := Ra0_18.pre p19
  have Rw0_19 := Rw0_18.pre p19
  have Rg0_19 := Rg0_18.pre p19
  have Mw0_19 := Mw0_18.pre p19
  have Mg0_19 := Mg0_18.pre p19
  have CB0_19 := pre_at p19 CB0_18
  have Cw0_19 := pre_at p19 Cw0_18
  have CX0_19 := pre_at p19 CX0_18
  have Cg0_19 := pre_at p19 Cg0_18
  have L19 := p19.length_le
  have Me0_19 := InP.of qe0
  have Re0_19 := Me0_19.row
  simp (maxSteps := 4000000) (disch := omega) only [ld_agg ag24 cs24 CB0_19, ld_agg ag40 cs40 Cw0_19, ld_agg ag28 cs28 CX0_19, ld_agg ag40 cs40 Cg0_19, S, S1, S2, S3, S4, S5, ST, eq_self, reduceIte, reduceCtorEq, Nat.reduceEqDiff, Nat.reduceAdd]
  refine CallH.by (TsI_c  n0 e0 xs0 H19 Re0_19.1 L0_big b0.1 bn0) ?_
  rintro _ H20 ⟨h0a, h0b, rfl, qh0, p20⟩
  have Ra0_20 := Ra0_19.pre p20
  have Rw0_20 := Rw0_19.pre p20
  have Rg0_20 := Rg0_19.pre p20
  have Re0_20 := Re0_19.pre p20
  have Mw0_20 := Mw0_19.pre p20
  have Mg0_20 := Mg0_19.pre p20
  have Me0_20 := Me0_19.pre p20
  have CB0_20 := pre_at p20 CB0_19
  have Cw0_20 := pre_at p20 Cw0_19
  have CX0_20 := pre_at p20 CX0_19
  have Cg0_20 := pre_at p20 Cg0_19
  have L20 := p20.length_le
  have Mh0_20 := qh0
  have Rh0_20 := Mh0_20.row
  have hsth0 := Rh0_20.store (at_new H20 (.cells [.slice none 0 0, .slice none 0 0] 40 false)) rfl
  simp (maxSteps := 4000000) (disch := omega) only [alloc_sp, hsth0, set_new, ld_agg ag24 cs24 CB0_20, ld_agg ag40 cs40 Cw0_20, ld_agg ag28 cs28 CX0_20, ld_agg ag40 cs40 Cg0_20, S, S1, S2, S3, S4, S5, ST, eq_self, reduceIte, reduceCtorEq, Nat.reduceEqDiff, Nat.reduceAdd]
  generalize hXh0 : H20 ++ [AObj.cells [h0a, h0b] 40 false] = H21
  have p21 : H20 <+: H21 := by rw [← hXh0]; exact List.prefix_append _ _
  have Ch0_21 : H21[H20.length]? = some (.cells [h0a, h0b] 40 false) := by rw [← hXh0]; exact at_new ..
  have Lxh0 := at_lt Ch0_21
  have Ra0_21 := Ra0_20.pre p21
  have Rw0_21 := Rw0_20.pre p21
  have Rg0_21 := Rg0_20.pre p21
  have Re0_21 := Re0_20.pre p21
  have Rh0_21 := Rh0_20.pre p21
  have Mw0_21 := Mw0_20.pre p21
  have Mg0_21 := Mg0_20.pre p21
  have Me0_21 := Me0_20.pre p21
  have Mh0_21 := Mh0_20.pre p21
  have CB0_21 := pre_at p21 CB0_20
  have Cw0_21 := pre_at p21 Cw0_20
  have CX0_21 := pre_at p21 CX0_20
  have Cg0_21 := pre_at p21 Cg0_20
  have L21 := p21.length_le
  try simp (maxSteps := 4000000) (disch := omega) only [ld_agg ag24 cs24 CB0_21, ld_agg ag40 cs40 Cw0_21, ld_agg ag28 cs28 CX0_21, ld_agg ag40 cs40 Cg0_21, ld_agg ag40 cs40 Ch0_21, S, S1, S2, S3, S4, S5, ST, eq_self, reduceIte, reduceCtorEq, Nat.reduceEqDiff, Nat.reduceAdd]
  refine CallH.by (eqSpace_c h0a h0b w0a w0b _ _ _ _ H21 Rh0_21 Rw0_21 hR.1 (Nat.le_trans hR.2.1 (by decide)) hR.2.2) ?_
  rintro _ H22 ⟨rfl, p22⟩
  have Ra0_22 := Ra0_21.pre p22
  have Rw0_22 := Rw0_21.pre p22
  have Rg0_22 := Rg0_21.pre p22
  have Re0_22 := Re0_21.pre p22
  have Rh0_22 := Rh0_21.pre p22
  have Mw0_22 := Mw0_21.pre p22
  have Mg0_22 := Mg0_21.pre p22
  have Me0_22 := Me0_21.pre p22
  have Mh0_22 := Mh0_21.pre p22
  have CB0_22 := pre_at p22 CB0_21
  have Cw0_22 := pre_at p22 Cw0_21
  have CX0_22 := pre_at p22 CX0_21
  have Cg0_22 := pre_at p22 Cg0_21
  have Ch0_22 := pre_at p22 Ch0_21
  have L22 := p22.length_le
  simp (maxSteps := 4000000) (disch := omega) only [ld_agg ag24 cs24 CB0_22, ld_agg ag40 cs40 Cw0_22, ld_agg ag28 cs28 CX0_22, ld_agg ag40 cs40 Cg0_22, ld_agg ag40 cs40 Ch0_22, S, S1, S2, S3, S4, S5, ST, eq_self, reduceIte, reduceCtorEq, Nat.reduceEqDiff, Nat.reduceAdd]
  refine CallH.by (heldSpace_c g0a g0b _ _ 1 H22 Rg0_22 hR.1 hR.2.1 hR.2.2 (by omega)) ?_
  rintro _ H23 ⟨rfl, p23⟩
  have Ra0_23 := Ra0_22.pre p23
  have Rw0_23 := Rw0_22.pre p23
  have Rg0_23 := Rg0_22.pre p23
  have Re0_23 := Re0_22.pre p23
  have Rh0_23 := Rh0_22.pre p23
  have Mw0_23 := Mw0_22.pre p23
  have Mg0_23 := Mg0_22.pre p23
  have Me0_23 := Me0_22.pre p23
  have Mh0_23 := Mh0_22.pre p23
  have CB0_23 := pre_at p23 CB0_22
  have Cw0_23 := pre_at p23 Cw0_22
  have CX0_23 := pre_at p23 CX0_22
  have Cg0_23 := pre_at p23 Cg0_22
  have Ch0_23 := pre_at p23 Ch0_22
  have L23 := p23.length_le
  simp (maxSteps := 4000000) (disch := omega) only [ld_agg ag24 cs24 CB0_23, ld_agg ag40 cs40 Cw0_23, ld_agg ag28 cs28 CX0_23, ld_agg ag40 cs40 Cg0_23, ld_agg ag40 cs40 Ch0_23, S, S1, S2, S3, S4, S5, ST, eq_self, reduceIte, reduceCtorEq, Nat.reduceEqDiff, Nat.reduceAdd]
  refine brD.intro (fun g => absurd g (by omega)) (fun _ => ?_)
  simp (maxSteps := 4000000) (disch := omega) only [ld_agg ag24 cs24 CB0_23, ld_agg ag40 cs40 Cw0_23, ld_agg ag28 cs28 CX0_23, ld_agg ag40 cs40 Cg0_23, ld_agg ag40 cs40 Ch0_23, S, S1, S2, S3, S4, S5, ST, eq_self, reduceIte, reduceCtorEq, Nat.reduceEqDiff, Nat.reduceAdd]
  refine hQ _ _ _ ?_
  simp (maxSteps := 4000000) (disch := omega) only [ld_agg ag24 cs24 CB0_23, ld_agg ag40 cs40 Cw0_23, ld_agg ag28 cs28 CX0_23, ld_agg ag40 cs40 Cg0_23, ld_agg ag40 cs40 Ch0_23, S, S1, S2, S3, S4, S5, ST, eq_self, reduceIte, reduceCtorEq, Nat.reduceEqDiff, Nat.reduceAdd]

end Go.Proofs.Ythhnpchjjbjabaa.Ai
