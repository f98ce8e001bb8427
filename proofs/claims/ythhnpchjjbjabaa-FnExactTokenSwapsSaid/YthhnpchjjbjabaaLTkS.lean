/- FnExactTokenSwaps: the law, from both sides' contracts. -/
import Derived.Test.YthhnpchjjbjabaaStp
import Derived.Test.YthhnpchjjbjabaaMark
import Derived.Test.YthhnpchjjbjabaaMarkP
import Derived.Test.YthhnpchjjbjabaaPrs
import Derived.Test.YthhnpchjjbjabaaGrf
import Derived.Test.YthhnpchjjbjabaaProg
import Derived.Test.YthhnpchjjbjabaaAiM2
import Derived.KernelRfl
/- Slim code of this translation. By the kernel. -/
namespace Go.Proofs.Ythhnpchjjbjabaa.Ai
open Go

/- loop.example/g01128/laws.FnExactTokenSwaps -/
def ords9 : List (Nat × List (Nat × Bool)) := [(13, [(0, false), (1, false), (2, true), (3, true), (4, false)])]
def cd9 : Cd := (.seq (.reg [⟨⟨some 2, Op.box 24 (Operand.tmp 0), none⟩, []⟩,
  ⟨⟨some 4, Op.assign (Operand.const (Value.bool false)), none⟩, []⟩]) (.seq (.seq (.reg [⟨⟨some 17, Op.move (Operand.tmp 1), none⟩, []⟩,
  ⟨⟨some 18, Op.call { callee := (Callee.builtin Builtin.len), args := #[(Operand.tmp 17)], argTypes := #[32] }, none⟩, []⟩,
  ⟨⟨some 19, Op.binOp BinOp.gtr 3 (Operand.tmp 18) (Operand.const (Value.int IntKind.i64 1048576)) 3, none⟩, []⟩]) (.cond (Operand.tmp 19) (.seq (.reg [⟨⟨some 4, Op.assign (Operand.const (Value.bool true)), none⟩, []⟩]) .ret) .skip)) (.seq (.reg [⟨⟨some 5, Op.assign (Operand.const (Value.int IntKind.i64 1048576)), none⟩, []⟩]) (.seq (.reg [⟨⟨some 20, Op.load 24 (Operand.tmp 2), none⟩, []⟩,
  ⟨⟨some 21, Op.move (Operand.tmp 5), none⟩, []⟩,
  ⟨⟨some 22, Op.call { callee := (Callee.value (Operand.func 15)), args := #[(Operand.tmp 20), (Operand.tmp 21)], argTypes := #[24, 3] }, none⟩, []⟩,
  ⟨⟨some 5, Op.assign (Operand.tmp 22), none⟩, []⟩]) (.seq (.seq (.reg [⟨⟨some 23, Op.move (Operand.tmp 5), none⟩, []⟩,
  ⟨⟨some 24, Op.binOp BinOp.lss 3 (Operand.tmp 23) (Operand.const (Value.int IntKind.i64 0)) 3, none⟩, []⟩]) (.cond (Operand.tmp 24) (.seq (.reg [⟨⟨some 4, Op.assign (Operand.const (Value.bool true)), none⟩, []⟩]) .ret) .skip)) (.seq (.reg [⟨⟨some 26, Op.load 24 (Operand.tmp 2), none⟩, []⟩,
  ⟨⟨some 27, Op.call { callee := (Callee.value (Operand.func 17)), args := #[(Operand.tmp 26)], argTypes := #[24] }, none⟩, []⟩,
  ⟨⟨some 28, Op.move (Operand.tmp 1), none⟩, []⟩,
  ⟨⟨some 29, Op.call { callee := (Callee.value (Operand.func 23)), args := #[(Operand.tmp 28)], argTypes := #[32] }, none⟩, []⟩,
  ⟨⟨some 30, Op.call { callee := (Callee.value (Operand.func 36)), args := #[(Operand.tmp 27), (Operand.tmp 29)], argTypes := #[28, 32] }, none⟩, []⟩,
  ⟨⟨some 25, Op.move (Operand.tmp 30), none⟩, []⟩,
  ⟨⟨some 31, Op.extract (Operand.tmp 25) 0, none⟩, []⟩,
  ⟨⟨some 32, Op.extract (Operand.tmp 25) 1, none⟩, []⟩,
  ⟨⟨some 6, Op.assign (Operand.tmp 31), none⟩, []⟩,
  ⟨⟨some 7, Op.assign (Operand.tmp 32), none⟩, []⟩]) (.seq (.reg [⟨⟨some 33, Op.load 24 (Operand.tmp 2), none⟩, []⟩,
  ⟨⟨some 34, Op.call { callee := (Callee.value (Operand.func 17)), args := #[(Operand.tmp 33)], argTypes := #[24] }, none⟩, []⟩,
  ⟨⟨some 8, Op.alloc 28, none⟩, []⟩,
  ⟨⟨none, Op.store 28 (Operand.tmp 8) (Operand.tmp 34), none⟩, []⟩]) (.seq (.reg [⟨⟨some 35, Op.move (Operand.tmp 1), none⟩, []⟩,
  ⟨⟨some 36, Op.call { callee := (Callee.value (Operand.func 23)), args := #[(Operand.tmp 35)], argTypes := #[32] }, none⟩, []⟩,
  ⟨⟨some 9, Op.assign (Operand.tmp 36), none⟩, []⟩]) (.seq (.reg [⟨⟨some 38, Op.load 28 (Operand.tmp 8), none⟩, []⟩,
  ⟨⟨some 39, Op.move (Operand.tmp 9), none⟩, []⟩,
  ⟨⟨some 40, Op.call { callee := (Callee.value (Operand.func 37)), args := #[(Operand.tmp 38), (Operand.tmp 39)], argTypes := #[28, 32] }, none⟩, []⟩,
  ⟨⟨some 37, Op.move (Operand.tmp 40), none⟩, []⟩,
  ⟨⟨some 41, Op.extract (Operand.tmp 37) 0, none⟩, []⟩,
  ⟨⟨some 42, Op.extract (Operand.tmp 37) 1, none⟩, []⟩,
  ⟨⟨some 10, Op.assign (Operand.tmp 41), none⟩, []⟩,
  ⟨⟨some 11, Op.assign (Operand.tmp 42), none⟩, []⟩]) (.seq (.seq (.reg [⟨⟨some 43, Op.move (Operand.tmp 10), none⟩, []⟩,
  ⟨⟨some 44, Op.move (Operand.tmp 6), none⟩, []⟩,
  ⟨⟨some 45, Op.call { callee := (Callee.value (Operand.func 38)), args := #[(Operand.tmp 43), (Operand.tmp 44)], argTypes := #[22, 22] }, none⟩, []⟩,
  ⟨⟨some 46, Op.unOp UnOp.not 4 (Operand.tmp 45), none⟩, []⟩,
  ⟨⟨some 47, Op.move (Operand.tmp 46), none⟩, []⟩,
  ⟨⟨some 48, Op.move (Operand.tmp 11), some (47, false)⟩, []⟩,
  ⟨⟨some 49, Op.move (Operand.tmp 7), some (47, false)⟩, []⟩,
  ⟨⟨some 50, Op.binOp BinOp.neq 4 (Operand.tmp 48) (Operand.tmp 49) 4, some (47, false)⟩, []⟩,
  ⟨⟨some 51, Op.pick (Operand.tmp 47) (Operand.const (Value.bool true)) (Operand.tmp 50), none⟩, []⟩]) (.cond (Operand.tmp 51) (.seq (.reg [⟨⟨some 4, Op.assign (Operand.const (Value.bool false)), none⟩, []⟩]) .ret) .skip)) (.seq (.seq (.reg [⟨⟨some 52, Op.load 28 (Operand.tmp 8), none⟩, []⟩,
  ⟨⟨some 53, Op.load 24 (Operand.tmp 2), none⟩, []⟩,
  ⟨⟨some 54, Op.call { callee := (Callee.value (Operand.func 17)), args := #[(Operand.tmp 53)], argTypes := #[24] }, none⟩, [⟨some 52, Op.load 28 (Operand.tmp 8), none⟩]⟩,
  ⟨⟨some 55, Op.call { callee := (Callee.value (Operand.func 19)), args := #[(Operand.tmp 52), (Operand.tmp 54)], argTypes := #[28, 28] }, none⟩, []⟩,
  ⟨⟨some 56, Op.unOp UnOp.not 4 (Operand.tmp 55), none⟩, []⟩]) (.cond (Operand.tmp 56) (.seq (.reg [⟨⟨some 4, Op.assign (Operand.const (Value.bool false)), none⟩, []⟩]) .ret) .skip)) (.seq (.seq (.reg [⟨⟨some 57, Op.move (Operand.tmp 9), none⟩, []⟩,
  ⟨⟨some 58, Op.move (Operand.tmp 1), none⟩, []⟩,
  ⟨⟨some 59, Op.call { callee := (Callee.value (Operand.func 23)), args := #[(Operand.tmp 58)], argTypes := #[32] }, none⟩, []⟩,
  ⟨⟨some 60, Op.call { callee := (Callee.value (Operand.func 25)), args := #[(Operand.tmp 57), (Operand.tmp 59)], argTypes := #[32, 32] }, none⟩, []⟩,
  ⟨⟨some 61, Op.unOp UnOp.not 4 (Operand.tmp 60), none⟩, []⟩]) (.cond (Operand.tmp 61) (.seq (.reg [⟨⟨some 4, Op.assign (Operand.const (Value.bool false)), none⟩, []⟩]) .ret) .skip)) (.seq (.reg [⟨⟨some 12, Op.assign (Operand.const (Value.int IntKind.i64 1)), none⟩, []⟩]) (.seq (.reg [⟨⟨some 62, Op.load 28 (Operand.tmp 8), none⟩, []⟩,
  ⟨⟨some 63, Op.move (Operand.tmp 12), none⟩, []⟩,
  ⟨⟨some 64, Op.call { callee := (Callee.value (Operand.func 31)), args := #[(Operand.tmp 62), (Operand.tmp 63)], argTypes := #[28, 3] }, none⟩, []⟩,
  ⟨⟨some 12, Op.assign (Operand.tmp 64), none⟩, []⟩]) (.seq (.reg [⟨⟨some 65, Op.move (Operand.tmp 9), none⟩, []⟩,
  ⟨⟨some 66, Op.move (Operand.tmp 12), none⟩, []⟩,
  ⟨⟨some 67, Op.call { callee := (Callee.value (Operand.func 39)), args := #[(Operand.tmp 65), (Operand.tmp 66)], argTypes := #[32, 3] }, none⟩, []⟩,
  ⟨⟨some 12, Op.assign (Operand.tmp 67), none⟩, []⟩]) (.seq (.seq (.reg [⟨⟨some 68, Op.move (Operand.tmp 12), none⟩, []⟩,
  ⟨⟨some 69, Op.binOp BinOp.lss 3 (Operand.tmp 68) (Operand.const (Value.int IntKind.i64 0)) 3, none⟩, []⟩,
  ⟨⟨some 70, Op.move (Operand.tmp 69), none⟩, []⟩,
  ⟨⟨some 71, Op.move (Operand.tmp 10), some (70, false)⟩, []⟩,
  ⟨⟨some 72, Op.move (Operand.tmp 6), some (70, false)⟩, []⟩,
  ⟨⟨some 73, Op.call { callee := (Callee.value (Operand.func 38)), args := #[(Operand.tmp 71), (Operand.tmp 72)], argTypes := #[22, 22] }, some (70, false)⟩, []⟩,
  ⟨⟨some 74, Op.unOp UnOp.not 4 (Operand.tmp 73), some (70, false)⟩, []⟩,
  ⟨⟨some 75, Op.pick (Operand.tmp 70) (Operand.const (Value.bool true)) (Operand.tmp 74), none⟩, []⟩,
  ⟨⟨some 76, Op.move (Operand.tmp 75), none⟩, []⟩,
  ⟨⟨some 77, Op.move (Operand.tmp 11), some (76, false)⟩, []⟩,
  ⟨⟨some 78, Op.move (Operand.tmp 7), some (76, false)⟩, []⟩,
  ⟨⟨some 79, Op.binOp BinOp.neq 4 (Operand.tmp 77) (Operand.tmp 78) 4, some (76, false)⟩, []⟩,
  ⟨⟨some 80, Op.pick (Operand.tmp 76) (Operand.const (Value.bool true)) (Operand.tmp 79), none⟩, []⟩]) (.cond (Operand.tmp 80) (.seq (.reg [⟨⟨some 4, Op.assign (Operand.const (Value.bool false)), none⟩, []⟩]) .ret) .skip)) (.seq (.reg [⟨⟨some 13, Op.assign (Operand.const (Value.int IntKind.i64 1)), none⟩, []⟩]) (.seq (.reg [⟨⟨some 81, Op.move (Operand.tmp 10), none⟩, []⟩,
  ⟨⟨some 82, Op.move (Operand.tmp 13), none⟩, []⟩,
  ⟨⟨some 83, Op.call { callee := (Callee.value (Operand.func 40)), args := #[(Operand.tmp 81), (Operand.tmp 82)], argTypes := #[22, 3] }, none⟩, []⟩,
  ⟨⟨some 13, Op.assign (Operand.tmp 83), none⟩, []⟩]) (.seq (.reg [⟨⟨some 14, Op.assign (Operand.const (Value.int IntKind.i64 1)), none⟩, []⟩]) (.seq (.reg [⟨⟨some 84, Op.move (Operand.tmp 10), none⟩, []⟩,
  ⟨⟨some 85, Op.move (Operand.tmp 14), none⟩, []⟩,
  ⟨⟨some 86, Op.call { callee := (Callee.value (Operand.func 41)), args := #[(Operand.tmp 84), (Operand.tmp 85)], argTypes := #[22, 3] }, none⟩, []⟩,
  ⟨⟨some 14, Op.assign (Operand.tmp 86), none⟩, []⟩]) (.seq (.seq (.reg [⟨⟨some 87, Op.move (Operand.tmp 14), none⟩, []⟩,
  ⟨⟨some 88, Op.binOp BinOp.lss 3 (Operand.tmp 87) (Operand.const (Value.int IntKind.i64 0)) 3, none⟩, []⟩]) (.cond (Operand.tmp 88) (.seq (.reg [⟨⟨some 4, Op.assign (Operand.const (Value.bool false)), none⟩, []⟩]) .ret) .skip)) (.seq (.seq (.reg [⟨⟨some 89, Op.move (Operand.tmp 14), none⟩, []⟩,
  ⟨⟨some 90, Op.move (Operand.tmp 13), none⟩, []⟩,
  ⟨⟨some 91, Op.binOp BinOp.neq 3 (Operand.tmp 89) (Operand.tmp 90) 3, none⟩, []⟩]) (.cond (Operand.tmp 91) (.seq (.reg [⟨⟨some 4, Op.assign (Operand.const (Value.bool false)), none⟩, []⟩]) .ret) .skip)) (.seq (.reg [⟨⟨some 93, Op.load 24 (Operand.tmp 2), none⟩, []⟩,
  ⟨⟨some 94, Op.call { callee := (Callee.value (Operand.func 17)), args := #[(Operand.tmp 93)], argTypes := #[24] }, none⟩, []⟩,
  ⟨⟨some 95, Op.move (Operand.tmp 1), none⟩, []⟩,
  ⟨⟨some 96, Op.call { callee := (Callee.value (Operand.func 23)), args := #[(Operand.tmp 95)], argTypes := #[32] }, none⟩, []⟩,
  ⟨⟨some 97, Op.call { callee := (Callee.value (Operand.func 37)), args := #[(Operand.tmp 94), (Operand.tmp 96)], argTypes := #[28, 32] }, none⟩, []⟩,
  ⟨⟨some 92, Op.move (Operand.tmp 97), none⟩, []⟩,
  ⟨⟨some 98, Op.extract (Operand.tmp 92) 0, none⟩, []⟩,
  ⟨⟨some 99, Op.extract (Operand.tmp 92) 1, none⟩, []⟩,
  ⟨⟨some 15, Op.assign (Operand.tmp 98), none⟩, []⟩,
  ⟨⟨some 16, Op.assign (Operand.tmp 99), none⟩, []⟩]) (.seq (.seq (.reg [⟨⟨some 100, Op.move (Operand.tmp 15), none⟩, []⟩,
  ⟨⟨some 101, Op.move (Operand.tmp 6), none⟩, []⟩,
  ⟨⟨some 102, Op.call { callee := (Callee.value (Operand.func 38)), args := #[(Operand.tmp 100), (Operand.tmp 101)], argTypes := #[22, 22] }, none⟩, []⟩,
  ⟨⟨some 103, Op.unOp UnOp.not 4 (Operand.tmp 102), none⟩, []⟩,
  ⟨⟨some 104, Op.move (Operand.tmp 103), none⟩, []⟩,
  ⟨⟨some 105, Op.move (Operand.tmp 16), some (104, false)⟩, []⟩,
  ⟨⟨some 106, Op.move (Operand.tmp 7), some (104, false)⟩, []⟩,
  ⟨⟨some 107, Op.binOp BinOp.neq 4 (Operand.tmp 105) (Operand.tmp 106) 4, some (104, false)⟩, []⟩,
  ⟨⟨some 108, Op.pick (Operand.tmp 104) (Operand.const (Value.bool true)) (Operand.tmp 107), none⟩, []⟩]) (.cond (Operand.tmp 108) (.seq (.reg [⟨⟨some 4, Op.assign (Operand.const (Value.bool false)), none⟩, []⟩]) .ret) .skip)) (.seq (.reg [⟨⟨some 14, Op.assign (Operand.const (Value.int IntKind.i64 1)), none⟩, []⟩]) (.seq (.reg [⟨⟨some 109, Op.move (Operand.tmp 10), none⟩, []⟩,
  ⟨⟨some 110, Op.move (Operand.tmp 14), none⟩, []⟩,
  ⟨⟨some 111, Op.call { callee := (Callee.value (Operand.func 41)), args := #[(Operand.tmp 109), (Operand.tmp 110)], argTypes := #[22, 3] }, none⟩, []⟩,
  ⟨⟨some 14, Op.assign (Operand.tmp 111), none⟩, []⟩]) (.seq (.seq (.reg [⟨⟨some 112, Op.move (Operand.tmp 14), none⟩, []⟩,
  ⟨⟨some 113, Op.binOp BinOp.lss 3 (Operand.tmp 112) (Operand.const (Value.int IntKind.i64 0)) 3, none⟩, []⟩]) (.cond (Operand.tmp 113) (.seq (.reg [⟨⟨some 4, Op.assign (Operand.const (Value.bool false)), none⟩, []⟩]) .ret) .skip)) (.seq (.seq (.reg [⟨⟨some 114, Op.move (Operand.tmp 14), none⟩, []⟩,
  ⟨⟨some 115, Op.move (Operand.tmp 13), none⟩, []⟩,
  ⟨⟨some 116, Op.binOp BinOp.neq 3 (Operand.tmp 114) (Operand.tmp 115) 3, none⟩, []⟩]) (.cond (Operand.tmp 116) (.seq (.reg [⟨⟨some 4, Op.assign (Operand.const (Value.bool false)), none⟩, []⟩]) .ret) .skip)) (.seq (.reg [⟨⟨some 4, Op.assign (Operand.const (Value.bool true)), none⟩, []⟩]) .ret)))))))))))))))))))))))))))))
theorem sl9 : slim Try.f9.ntmps ords9 (Try.f9.body.getD .skip) = some cd9 := by kernel_rfl
theorem in9 {args : List Value} {H : AH} {R : Value → AH → Prop} (hl : args.length = 2) (h : ∀ (Q : Exit → Sl → AH → Prop), (∀ e s H, endA Try.prog [ResultVar.tmp 4] R e s H → Q e s H) → wpC Try.prog cd9 Q (enterA args) H) : ACalls Try.prog 9 args H R :=
  ACalls.intro (by kernel_rfl) Try.func9 rfl (by kernel_rfl) sl9 hl (of_decide_eq_true (by kernel_rfl)) (by kernel_rfl) h
end Go.Proofs.Ythhnpchjjbjabaa.Ai

namespace Go.Proofs.Ythhnpchjjbjabaa.Ai
open Go Go.RowKit
set_option linter.unusedVariables false
set_option linter.unusedSimpArgs false
set_option maxRecDepth 20000 in
set_option maxHeartbeats 8000000 in
theorem tkSLaw_c  (n0 : Int) (v0 : Value) (v1 : Value) (xs0 : List (Int × Int)) (xs1 : List Int) (H0 : AH) (r0 : RowP 76 H0 v0 xs0) (b0 : (∀ y ∈ xs0, I64 y.1 ∧ I64 y.2) ∧ (xs0.length : Int) ≤ 9223372036854775807) (r1 : Row 3 H0 v1 xs1) (b1 : ∀ y ∈ xs1, I64 y) (bn0 : I64 n0) :
    ACalls Try.prog 9 [.agg (List.toArray [.int .i64 n0, v0]), v1] H0 fun r H' => r = .bool true := by
  refine in9 rfl ?_
  intro Q hQ
  simp (maxSteps := 4000000) (disch := omega) only [cd9, r1.len Try.underlying32, r0.boxL, S, S1, S2, S3, S4, ST, eq_self, ne_eq, not_true_eq_false, not_false_eq_true, and_self, true_and, and_true, reduceIte, reduceCtorEq, Nat.reduceEqDiff, Nat.reduceAdd, Nat.zero_add, Nat.add_zero, Option.map_none, Option.map_some, List.map_cons, List.map_nil, List.append_nil, List.cons_append, List.nil_append, List.getElem?_cons_zero, List.getElem?_cons_succ, List.getD_cons_zero, List.getD_cons_succ, List.getD_nil, Bool.not_true, Bool.not_false, decide_true, decide_false]
  generalize hG0 : H0 ++ [AObj.cells [.int .i64 n0, v0] 24 false] = H1
  have p1 : H0 <+: H1 := by rw [← hG0]; exact List.prefix_append _ _
  have CB0_1 : H1[H0.length]? = some (.cells [.int .i64 n0, v0] 24 false) := by rw [← hG0]; exact at_new ..
  have L1 := p1.length_le
  have Lb := at_lt CB0_1
  try simp (maxSteps := 4000000) (disch := omega) only [r1.len Try.underlying32, ld_agg ag24 cs24 CB0_1, S, S1, S2, S3, S4, ST, eq_self, ne_eq, not_true_eq_false, not_false_eq_true, and_self, true_and, and_true, reduceIte, reduceCtorEq, Nat.reduceEqDiff, Nat.reduceAdd, Nat.zero_add, Nat.add_zero, Option.map_none, Option.map_some, List.map_cons, List.map_nil, List.append_nil, List.cons_append, List.nil_append, List.getElem?_cons_zero, List.getElem?_cons_succ, List.getD_cons_zero, List.getD_cons_succ, List.getD_nil, Bool.not_true, Bool.not_false, decide_true, decide_false]
  refine brD.intro (fun g1 => ?_) (fun g1 => ?_) <;> simp (maxSteps := 4000000) (disch := omega) only [r1.len Try.underlying32, ld_agg ag24 cs24 CB0_1, S, S1, S2, S3, S4, ST, eq_self, ne_eq, not_true_eq_false, not_false_eq_true, and_self, true_and, and_true, reduceIte, reduceCtorEq, Nat.reduceEqDiff, Nat.reduceAdd, Nat.zero_add, Nat.add_zero, Option.map_none, Option.map_some, List.map_cons, List.map_nil, List.append_nil, List.cons_append, List.nil_append, List.getElem?_cons_zero, List.getElem?_cons_succ, List.getD_cons_zero, List.getD_cons_succ, List.getD_nil, Bool.not_true, Bool.not_false, decide_true, decide_false]
  · refine hQ _ _ _ ?_
    simp (maxSteps := 4000000) (disch := omega) only [ld_agg ag24 cs24 CB0_1, S, S1, S2, S3, S4, ST, eq_self, ne_eq, not_true_eq_false, not_false_eq_true, and_self, true_and, and_true, reduceIte, reduceCtorEq, Nat.reduceEqDiff, Nat.reduceAdd, Nat.zero_add, Nat.add_zero, Option.map_none, Option.map_some, List.map_cons, List.map_nil, List.append_nil, List.cons_append, List.nil_append, List.getElem?_cons_zero, List.getElem?_cons_succ, List.getD_cons_zero, List.getD_cons_succ, List.getD_nil, Bool.not_true, Bool.not_false, decide_true, decide_false]
  have l1 : xs1.length ≤ 1048576 := by omega
  have Ra0_0 := r0.b
  have Ra0_1 := Ra0_0.pre p1
  have Ra1_0 := r1.b
  have Ra1_1 := Ra1_0.pre p1
  refine CallH.by (szGraph_c n0 v0 xs0 (1048576) H1 Ra0_1.1 (by omega) b0.2) ?_
  rintro _ H2 ⟨rfl, p2⟩
  have Ra0_2 := Ra0_1.pre p2
  have Ra1_2 := Ra1_1.pre p2
  have CB0_2 := pre_at p2 CB0_1
  have L2 := p2.length_le
  simp (maxSteps := 4000000) (disch := omega) only [ld_agg ag24 cs24 CB0_2, S, S1, S2, S3, S4, ST, eq_self, ne_eq, not_true_eq_false, not_false_eq_true, and_self, true_and, and_true, reduceIte, reduceCtorEq, Nat.reduceEqDiff, Nat.reduceAdd, Nat.zero_add, Nat.add_zero, Option.map_none, Option.map_some, List.map_cons, List.map_nil, List.append_nil, List.cons_append, List.nil_append, List.getElem?_cons_zero, List.getElem?_cons_succ, List.getD_cons_zero, List.getD_cons_succ, List.getD_nil, Bool.not_true, Bool.not_false, decide_true, decide_false]
  by_cases g0 : 1048576 - (xs0.length : Int) < 0
  · rw [if_pos g0]
    try simp (maxSteps := 4000000) (disch := omega) only [ld_agg ag24 cs24 CB0_2, S, S1, S2, S3, S4, ST, eq_self, ne_eq, not_true_eq_false, not_false_eq_true, and_self, true_and, and_true, reduceIte, reduceCtorEq, Nat.reduceEqDiff, Nat.reduceAdd, Nat.zero_add, Nat.add_zero, Option.map_none, Option.map_some, List.map_cons, List.map_nil, List.append_nil, List.cons_append, List.nil_append, List.getElem?_cons_zero, List.getElem?_cons_succ, List.getD_cons_zero, List.getD_cons_succ, List.getD_nil, Bool.not_true, Bool.not_false, decide_true, decide_false]
    try (refine brD.intro (fun _ => ?_) (fun h => absurd h (by omega)))
    try simp (maxSteps := 4000000) (disch := omega) only [ld_agg ag24 cs24 CB0_2, S, S1, S2, S3, S4, ST, eq_self, ne_eq, not_true_eq_false, not_false_eq_true, and_self, true_and, and_true, reduceIte, reduceCtorEq, Nat.reduceEqDiff, Nat.reduceAdd, Nat.zero_add, Nat.add_zero, Option.map_none, Option.map_some, List.map_cons, List.map_nil, List.append_nil, List.cons_append, List.nil_append, List.getElem?_cons_zero, List.getElem?_cons_succ, List.getD_cons_zero, List.getD_cons_succ, List.getD_nil, Bool.not_true, Bool.not_false, decide_true, decide_false]
    refine hQ _ _ _ ?_
    simp (maxSteps := 4000000) (disch := omega) only [ld_agg ag24 cs24 CB0_2, S, S1, S2, S3, S4, ST, eq_self, ne_eq, not_true_eq_false, not_false_eq_true, and_self, true_and, and_true, reduceIte, reduceCtorEq, Nat.reduceEqDiff, Nat.reduceAdd, Nat.zero_add, Nat.add_zero, Option.map_none, Option.map_some, List.map_cons, List.map_nil, List.append_nil, List.cons_append, List.nil_append, List.getElem?_cons_zero, List.getElem?_cons_succ, List.getD_cons_zero, List.getD_cons_succ, List.getD_nil, Bool.not_true, Bool.not_false, decide_true, decide_false]
  rw [if_neg g0]
  try simp (maxSteps := 4000000) (disch := omega) only [g0, ld_agg ag24 cs24 CB0_2, S, S1, S2, S3, S4, ST, eq_self, ne_eq, not_true_eq_false, not_false_eq_true, and_self, true_and, and_true, reduceIte, reduceCtorEq, Nat.reduceEqDiff, Nat.reduceAdd, Nat.zero_add, Nat.add_zero, Option.map_none, Option.map_some, List.map_cons, List.map_nil, List.append_nil, List.cons_append, List.nil_append, List.getElem?_cons_zero, List.getElem?_cons_succ, List.getD_cons_zero, List.getD_cons_succ, List.getD_nil, Bool.not_true, Bool.not_false, decide_true, decide_false]
  try refine brD.intro (fun h => absurd h (by omega)) (fun _ => ?_)
  try simp (maxSteps := 4000000) (disch := omega) only [g0, ld_agg ag24 cs24 CB0_2, S, S1, S2, S3, S4, ST, eq_self, ne_eq, not_true_eq_false, not_false_eq_true, and_self, true_and, and_true, reduceIte, reduceCtorEq, Nat.reduceEqDiff, Nat.reduceAdd, Nat.zero_add, Nat.add_zero, Option.map_none, Option.map_some, List.map_cons, List.map_nil, List.append_nil, List.cons_append, List.nil_append, List.getElem?_cons_zero, List.getElem?_cons_succ, List.getD_cons_zero, List.getD_cons_succ, List.getD_nil, Bool.not_true, Bool.not_false, decide_true, decide_false]
  have l0 : xs0.length ≤ 1048576 := by omega
  have L0_big : xs0.length ≤ 1099511627776 := by omega
  have L1_big : xs1.length ≤ 1099511627776 := by omega
  refine CallH.by (toGraph_c n0 v0 xs0 H2 Ra0_2.1 L0_big) ?_
  rintro _ H3 ⟨c0, rfl, qc0, p3⟩
  have Ra0_3 := Ra0_2.pre p3
  have Ra1_3 := Ra1_2.pre p3
  have CB0_3 := pre_at p3 CB0_2
  have L3 := p3.length_le
  have Mc0_3 := InP.of qc0
  have Rc0_3 := Mc0_3.row
  simp (maxSteps := 4000000) (disch := omega) only [ld_agg ag24 cs24 CB0_3, S, S1, S2, S3, S4, ST, eq_self, ne_eq, not_true_eq_false, not_false_eq_true, and_self, true_and, and_true, reduceIte, reduceCtorEq, Nat.reduceEqDiff, Nat.reduceAdd, Nat.zero_add, Nat.add_zero, Option.map_none, Option.map_some, List.map_cons, List.map_nil, List.append_nil, List.cons_append, List.nil_append, List.getElem?_cons_zero, List.getElem?_cons_succ, List.getD_cons_zero, List.getD_cons_succ, List.getD_nil, Bool.not_true, Bool.not_false, decide_true, decide_false]
  refine CallH.by (toIntS_c v1 xs1 H3 Ra1_3.1 L1_big) ?_
  rintro c1 H4 ⟨qc1, p4⟩
  have Ra0_4 := Ra0_3.pre p4
  have Ra1_4 := Ra1_3.pre p4
  have Rc0_4 := Rc0_3.pre p4
  have Mc0_4 := Mc0_3.pre p4
  have CB0_4 := pre_at p4 CB0_3
  have L4 := p4.length_le
  have Mc1_4 := InI.of qc1.mine
  have Rc1_4 := Mc1_4.row
  simp (maxSteps := 4000000) (disch := omega) only [ld_agg ag24 cs24 CB0_4, S, S1, S2, S3, S4, ST, eq_self, ne_eq, not_true_eq_false, not_false_eq_true, and_self, true_and, and_true, reduceIte, reduceCtorEq, Nat.reduceEqDiff, Nat.reduceAdd, Nat.zero_add, Nat.add_zero, Option.map_none, Option.map_some, List.map_cons, List.map_nil, List.append_nil, List.cons_append, List.nil_append, List.getElem?_cons_zero, List.getElem?_cons_succ, List.getD_cons_zero, List.getD_cons_succ, List.getD_nil, Bool.not_true, Bool.not_false, decide_true, decide_false]
  refine CallH.by (TkS_c  n0 c0 c1 xs0 xs1 H4 Rc0_4.1 L0_big b0.1 Rc1_4.1 L1_big b1 bn0) ?_
  rintro _ H5 ⟨w0, rfl, qw0, p5⟩
  have Ra0_5 := Ra0_4.pre p5
  have Ra1_5 := Ra1_4.pre p5
  have Rc0_5 := Rc0_4.pre p5
  have Rc1_5 := Rc1_4.pre p5
  have Mc0_5 := Mc0_4.pre p5
  have Mc1_5 := Mc1_4.pre p5
  have CB0_5 := pre_at p5 CB0_4
  have L5 := p5.length_le
  have Mw0_5 := InP.of qw0
  have Rw0_5 := Mw0_5.row
  simp (maxSteps := 4000000) (disch := omega) only [ld_agg ag24 cs24 CB0_5, S, S1, S2, S3, S4, ST, eq_self, ne_eq, not_true_eq_false, not_false_eq_true, and_self, true_and, and_true, reduceIte, reduceCtorEq, Nat.reduceEqDiff, Nat.reduceAdd, Nat.zero_add, Nat.add_zero, Option.map_none, Option.map_some, List.map_cons, List.map_nil, List.append_nil, List.cons_append, List.nil_append, List.getElem?_cons_zero, List.getElem?_cons_succ, List.getD_cons_zero, List.getD_cons_succ, List.getD_nil, Bool.not_true, Bool.not_false, decide_true, decide_false]
  refine CallH.by (toGraph_c n0 v0 xs0 H5 Ra0_5.1 L0_big) ?_
  rintro _ H6 ⟨d0, rfl, qd0, p6⟩
  have Ra0_6 := Ra0_5.pre p6
  have Ra1_6 := Ra1_5.pre p6
  have Rw0_6 := Rw0_5.pre p6
  have Mw0_6 := Mw0_5.pre p6
  have CB0_6 := pre_at p6 CB0_5
  have L6 := p6.length_le
  have Md0_6 := InP.of qd0
  have Rd0_6 := Md0_6.row
  simp (maxSteps := 4000000) (disch := omega) only [ld_agg ag24 cs24 CB0_6, S, S1, S2, S3, S4, ST, eq_self, ne_eq, not_true_eq_false, not_false_eq_true, and_self, true_and, and_true, reduceIte, reduceCtorEq, Nat.reduceEqDiff, Nat.reduceAdd, Nat.zero_add, Nat.add_zero, Option.map_none, Option.map_some, List.map_cons, List.map_nil, List.append_nil, List.cons_append, List.nil_append, List.getElem?_cons_zero, List.getElem?_cons_succ, List.getD_cons_zero, List.getD_cons_succ, List.getD_nil, Bool.not_true, Bool.not_false, decide_true, decide_false]
  have hst0 := st_G Rd0_6.1 (at_new H6 (.cells [.int .i64 0, .slice none 0 0] 28 false)) rfl n0
  simp (maxSteps := 4000000) (disch := omega) only [alloc_G, hst0, set_new, ld_agg ag24 cs24 CB0_6, S, S1, S2, S3, S4, ST, eq_self, ne_eq, not_true_eq_false, not_false_eq_true, and_self, true_and, and_true, reduceIte, reduceCtorEq, Nat.reduceEqDiff, Nat.reduceAdd, Nat.zero_add, Nat.add_zero, Option.map_none, Option.map_some, List.map_cons, List.map_nil, List.append_nil, List.cons_append, List.nil_append, List.getElem?_cons_zero, List.getElem?_cons_succ, List.getD_cons_zero, List.getD_cons_succ, List.getD_nil, Bool.not_true, Bool.not_false, decide_true, decide_false]
  generalize hX0 : H6 ++ [AObj.cells [.int .i64 n0, d0] 28 false] = H7
  have p7 : H6 <+: H7 := by rw [← hX0]; exact List.prefix_append _ _
  have CX0_7 : H7[H6.length]? = some (.cells [.int .i64 n0, d0] 28 false) := by rw [← hX0]; exact at_new ..
  have Lx := at_lt CX0_7
  have Ra0_7 := Ra0_6.pre p7
  have Ra1_7 := Ra1_6.pre p7
  have Rw0_7 := Rw0_6.pre p7
  have Rd0_7 := Rd0_6.pre p7
  have Mw0_7 := Mw0_6.pre p7
  have Md0_7 := Md0_6.pre p7
  have CB0_7 := pre_at p7 CB0_6
  have L7 := p7.length_le
  try simp (maxSteps := 4000000) (disch := omega) only [ld_agg ag24 cs24 CB0_7, ld_agg ag28 cs28 CX0_7, S, S1, S2, S3, S4, ST, eq_self, ne_eq, not_true_eq_false, not_false_eq_true, and_self, true_and, and_true, reduceIte, reduceCtorEq, Nat.reduceEqDiff, Nat.reduceAdd, Nat.zero_add, Nat.add_zero, Option.map_none, Option.map_some, List.map_cons, List.map_nil, List.append_nil, List.cons_append, List.nil_append, List.getElem?_cons_zero, List.getElem?_cons_succ, List.getD_cons_zero, List.getD_cons_succ, List.getD_nil, Bool.not_true, Bool.not_false, decide_true, decide_false]
  refine CallH.by (toIntS_c v1 xs1 H7 Ra1_7.1 L1_big) ?_
  rintro d1 H8 ⟨qd1, p8⟩
  have Ra0_8 := Ra0_7.pre p8
  have Ra1_8 := Ra1_7.pre p8
  have Rw0_8 := Rw0_7.pre p8
  have Rd0_8 := Rd0_7.pre p8
  have Mw0_8 := Mw0_7.pre p8
  have Md0_8 := Md0_7.pre p8
  have CB0_8 := pre_at p8 CB0_7
  have CX0_8 := pre_at p8 CX0_7
  have L8 := p8.length_le
  have Md1_8 := InI.of qd1.mine
  have Rd1_8 := Md1_8.row
  simp (maxSteps := 4000000) (disch := omega) only [ld_agg ag24 cs24 CB0_8, ld_agg ag28 cs28 CX0_8, S, S1, S2, S3, S4, ST, eq_self, ne_eq, not_true_eq_false, not_false_eq_true, and_self, true_and, and_true, reduceIte, reduceCtorEq, Nat.reduceEqDiff, Nat.reduceAdd, Nat.zero_add, Nat.add_zero, Option.map_none, Option.map_some, List.map_cons, List.map_nil, List.append_nil, List.cons_append, List.nil_append, List.getElem?_cons_zero, List.getElem?_cons_succ, List.getD_cons_zero, List.getD_cons_succ, List.getD_nil, Bool.not_true, Bool.not_false, decide_true, decide_false]
  refine CallH.by (TkI_c  n0 d0 d1 xs0 xs1 H8 Rd0_8.1 L0_big b0.1 Rd1_8.1 L1_big b1 bn0) ?_
  rintro _ H9 ⟨g0, rfl, qg0, p9⟩
  have Ra0_9 := Ra0_8.pre p9
  have Ra1_9 := Ra1_8.pre p9
  have Rw0_9 := Rw0_8.pre p9
  have Rd0_9 := Rd0_8.pre p9
  have Rd1_9 := Rd1_8.pre p9
  have Mw0_9 := Mw0_8.pre p9
  have Md0_9 := Md0_8.pre p9
  have Md1_9 := Md1_8.pre p9
  have CB0_9 := pre_at p9 CB0_8
  have CX0_9 := pre_at p9 CX0_8
  have L9 := p9.length_le
  have Mg0_9 := InP.of qg0
  have Rg0_9 := Mg0_9.row
  simp (maxSteps := 4000000) (disch := omega) only [ld_agg ag24 cs24 CB0_9, ld_agg ag28 cs28 CX0_9, S, S1, S2, S3, S4, ST, eq_self, ne_eq, not_true_eq_false, not_false_eq_true, and_self, true_and, and_true, reduceIte, reduceCtorEq, Nat.reduceEqDiff, Nat.reduceAdd, Nat.zero_add, Nat.add_zero, Option.map_none, Option.map_some, List.map_cons, List.map_nil, List.append_nil, List.cons_append, List.nil_append, List.getElem?_cons_zero, List.getElem?_cons_succ, List.getD_cons_zero, List.getD_cons_succ, List.getD_nil, Bool.not_true, Bool.not_false, decide_true, decide_false]
  have hR := (tkL_bd n0 xs0 xs1)
  refine CallH.by (eqIntA2S_c g0 w0 _ _ H9 Rg0_9.1 Rw0_9.1 hR) ?_
  rintro _ H10 ⟨rfl, p10⟩
  have Ra0_10 := Ra0_9.pre p10
  have Ra1_10 := Ra1_9.pre p10
  have Rw0_10 := Rw0_9.pre p10
  have Rd0_10 := Rd0_9.pre p10
  have Rd1_10 := Rd1_9.pre p10
  have Rg0_10 := Rg0_9.pre p10
  have Mw0_10 := Mw0_9.pre p10
  have Md0_10 := Md0_9.pre p10
  have Md1_10 := Md1_9.pre p10
  have Mg0_10 := Mg0_9.pre p10
  have CB0_10 := pre_at p10 CB0_9
  have CX0_10 := pre_at p10 CX0_9
  have L10 := p10.length_le
  simp (maxSteps := 4000000) (disch := omega) only [ld_agg ag24 cs24 CB0_10, ld_agg ag28 cs28 CX0_10, S, S1, S2, S3, S4, ST, eq_self, ne_eq, not_true_eq_false, not_false_eq_true, and_self, true_and, and_true, reduceIte, reduceCtorEq, Nat.reduceEqDiff, Nat.reduceAdd, Nat.zero_add, Nat.add_zero, Option.map_none, Option.map_some, List.map_cons, List.map_nil, List.append_nil, List.cons_append, List.nil_append, List.getElem?_cons_zero, List.getElem?_cons_succ, List.getD_cons_zero, List.getD_cons_succ, List.getD_nil, Bool.not_true, Bool.not_false, decide_true, decide_false]
  refine CallH.by (toGraph_c n0 v0 xs0 H10 Ra0_10.1 L0_big) ?_
  rintro _ H11 ⟨f0, rfl, qf0, p11⟩
  have Ra0_11 := Ra0_10.pre p11
  have Ra1_11 := Ra1_10.pre p11
  have Rw0_11 := Rw0_10.pre p11
  have Rd0_11 := Rd0_10.pre p11
  have Rd1_11 := Rd1_10.pre p11
  have Rg0_11 := Rg0_10.pre p11
  have Mw0_11 := Mw0_10.pre p11
  have Md0_11 := Md0_10.pre p11
  have Md1_11 := Md1_10.pre p11
  have Mg0_11 := Mg0_10.pre p11
  have CB0_11 := pre_at p11 CB0_10
  have CX0_11 := pre_at p11 CX0_10
  have L11 := p11.length_le
  have Mf0_11 := InP.of qf0
  have Rf0_11 := Mf0_11.row
  simp (maxSteps := 4000000) (disch := omega) only [ld_agg ag24 cs24 CB0_11, ld_agg ag28 cs28 CX0_11, S, S1, S2, S3, S4, ST, eq_self, ne_eq, not_true_eq_false, not_false_eq_true, and_self, true_and, and_true, reduceIte, reduceCtorEq, Nat.reduceEqDiff, Nat.reduceAdd, Nat.zero_add, Nat.add_zero, Option.map_none, Option.map_some, List.map_cons, List.map_nil, List.append_nil, List.cons_append, List.nil_append, List.getElem?_cons_zero, List.getElem?_cons_succ, List.getD_cons_zero, List.getD_cons_succ, List.getD_nil, Bool.not_true, Bool.not_false, decide_true, decide_false]
  refine CallH.by (eqGraph_c n0 n0 d0 f0 _ _ H11 Rd0_11.1 Rf0_11.1 L0_big) ?_
  rintro _ H12 ⟨rfl, p12⟩
  have Ra0_12 := Ra0_11.pre p12
  have Ra1_12 := Ra1_11.pre p12
  have Rw0_12 := Rw0_11.pre p12
  have Rd0_12 := Rd0_11.pre p12
  have Rd1_12 := Rd1_11.pre p12
  have Rg0_12 := Rg0_11.pre p12
  have Rf0_12 := Rf0_11.pre p12
  have Mw0_12 := Mw0_11.pre p12
  have Md0_12 := Md0_11.pre p12
  have Md1_12 := Md1_11.pre p12
  have Mg0_12 := Mg0_11.pre p12
  have Mf0_12 := Mf0_11.pre p12
  have CB0_12 := pre_at p12 CB0_11
  have CX0_12 := pre_at p12 CX0_11
  have L12 := p12.length_le
  simp (maxSteps := 4000000) (disch := omega) only [ld_agg ag24 cs24 CB0_12, ld_agg ag28 cs28 CX0_12, S, S1, S2, S3, S4, ST, eq_self, ne_eq, not_true_eq_false, not_false_eq_true, and_self, true_and, and_true, reduceIte, reduceCtorEq, Nat.reduceEqDiff, Nat.reduceAdd, Nat.zero_add, Nat.add_zero, Option.map_none, Option.map_some, List.map_cons, List.map_nil, List.append_nil, List.cons_append, List.nil_append, List.getElem?_cons_zero, List.getElem?_cons_succ, List.getD_cons_zero, List.getD_cons_succ, List.getD_nil, Bool.not_true, Bool.not_false, decide_true, decide_false]
  refine CallH.by (toIntS_c v1 xs1 H12 Ra1_12.1 L1_big) ?_
  rintro f1 H13 ⟨qf1, p13⟩
  have Ra0_13 := Ra0_12.pre p13
  have Ra1_13 := Ra1_12.pre p13
  have Rw0_13 := Rw0_12.pre p13
  have Rd0_13 := Rd0_12.pre p13
  have Rd1_13 := Rd1_12.pre p13
  have Rg0_13 := Rg0_12.pre p13
  have Mw0_13 := Mw0_12.pre p13
  have Md0_13 := Md0_12.pre p13
  have Md1_13 := Md1_12.pre p13
  have Mg0_13 := Mg0_12.pre p13
  have CB0_13 := pre_at p13 CB0_12
  have CX0_13 := pre_at p13 CX0_12
  have L13 := p13.length_le
  have Mf1_13 := InI.of qf1.mine
  have Rf1_13 := Mf1_13.row
  simp (maxSteps := 4000000) (disch := omega) only [ld_agg ag24 cs24 CB0_13, ld_agg ag28 cs28 CX0_13, S, S1, S2, S3, S4, ST, eq_self, ne_eq, not_true_eq_false, not_false_eq_true, and_self, true_and, and_true, reduceIte, reduceCtorEq, Nat.reduceEqDiff, Nat.reduceAdd, Nat.zero_add, Nat.add_zero, Option.map_none, Option.map_some, List.map_cons, List.map_nil, List.append_nil, List.cons_append, List.nil_append, List.getElem?_cons_zero, List.getElem?_cons_succ, List.getD_cons_zero, List.getD_cons_succ, List.getD_nil, Bool.not_true, Bool.not_false, decide_true, decide_false]
  refine CallH.by (eqIntS_c d1 f1 _ _ H13 Rd1_13.1 Rf1_13.1 L1_big) ?_
  rintro _ _ ⟨rfl, rfl⟩
  simp (maxSteps := 4000000) (disch := omega) only [ld_agg ag24 cs24 CB0_13, ld_agg ag28 cs28 CX0_13, S, S1, S2, S3, S4, ST, eq_self, ne_eq, not_true_eq_false, not_false_eq_true, and_self, true_and, and_true, reduceIte, reduceCtorEq, Nat.reduceEqDiff, Nat.reduceAdd, Nat.zero_add, Nat.add_zero, Option.map_none, Option.map_some, List.map_cons, List.map_nil, List.append_nil, List.cons_append, List.nil_append, List.getElem?_cons_zero, List.getElem?_cons_succ, List.getD_cons_zero, List.getD_cons_succ, List.getD_nil, Bool.not_true, Bool.not_false, decide_true, decide_false]
  refine CallH.by (markGraph_B n0 d0 _ _ _ _ H13 Md0_13 L0_big (by omega) (by omega)) ?_
  rintro _ H15 ⟨rfl, H14, n_14, e14, p15⟩
  have L14 := Nat.le_of_eq e14.1.symm
  have Ra0_14 := Ra0_13.keep e14 (by omega)
  have Ra1_14 := Ra1_13.keep e14 (by omega)
  have Mw0_14 := Mw0_13.keep e14 (by omega)
  have Rw0_14 := Mw0_14.row
  have Md1_14 := Md1_13.keep e14 (by omega)
  have Rd1_14 := Md1_14.row
  have Mg0_14 := Mg0_13.keep e14 (by omega)
  have Rg0_14 := Mg0_14.row
  have CB0_14 := e14.2 _ _ (by omega) CB0_13
  have CX0_14 := e14.2 _ _ (by omega) CX0_13
  have Ra0_15 := Ra0_14.pre p15
  have Ra1_15 := Ra1_14.pre p15
  have Rw0_15 := Rw0_14.pre p15
  have Rd1_15 := Rd1_14.pre p15
  have Rg0_15 := Rg0_14.pre p15
  have Mw0_15 := Mw0_14.pre p15
  have Md1_15 := Md1_14.pre p15
  have Mg0_15 := Mg0_14.pre p15
  have CB0_15 := pre_at p15 CB0_14
  have CX0_15 := pre_at p15 CX0_14
  have L15 := p15.length_le
  simp (maxSteps := 4000000) (disch := omega) only [ld_agg ag24 cs24 CB0_15, ld_agg ag28 cs28 CX0_15, S, S1, S2, S3, S4, ST, eq_self, ne_eq, not_true_eq_false, not_false_eq_true, and_self, true_and, and_true, reduceIte, reduceCtorEq, Nat.reduceEqDiff, Nat.reduceAdd, Nat.zero_add, Nat.add_zero, Option.map_none, Option.map_some, List.map_cons, List.map_nil, List.append_nil, List.cons_append, List.nil_append, List.getElem?_cons_zero, List.getElem?_cons_succ, List.getD_cons_zero, List.getD_cons_succ, List.getD_nil, Bool.not_true, Bool.not_false, decide_true, decide_false]
  refine CallH.by (markIntS_B d1 _ _ _ _ H15 Md1_15 L1_big (by omega)) ?_
  rintro _ H16 ⟨rfl, n_16, e16⟩
  have L16 := Nat.le_of_eq e16.1.symm
  have Ra0_16 := Ra0_15.keep e16 (by omega)
  have Ra1_16 := Ra1_15.keep e16 (by omega)
  have Mw0_16 := Mw0_15.keep e16 (by omega)
  have Rw0_16 := Mw0_16.row
  have Mg0_16 := Mg0_15.keep e16 (by omega)
  have Rg0_16 := Mg0_16.row
  have CB0_16 := e16.2 _ _ (by omega) CB0_15
  have CX0_16 := e16.2 _ _ (by omega) CX0_15
  simp (maxSteps := 4000000) (disch := omega) only [ld_agg ag24 cs24 CB0_16, ld_agg ag28 cs28 CX0_16, S, S1, S2, S3, S4, ST, eq_self, ne_eq, not_true_eq_false, not_false_eq_true, and_self, true_and, and_true, reduceIte, reduceCtorEq, Nat.reduceEqDiff, Nat.reduceAdd, Nat.zero_add, Nat.add_zero, Option.map_none, Option.map_some, List.map_cons, List.map_nil, List.append_nil, List.cons_append, List.nil_append, List.getElem?_cons_zero, List.getElem?_cons_succ, List.getD_cons_zero, List.getD_cons_succ, List.getD_nil, Bool.not_true, Bool.not_false, decide_true, decide_false]
  refine brD.intro (fun g => absurd g (by omega)) (fun gk => ?_)
  simp (maxSteps := 4000000) (disch := omega) only [gk, ld_agg ag24 cs24 CB0_16, ld_agg ag28 cs28 CX0_16, S, S1, S2, S3, S4, ST, eq_self, ne_eq, not_true_eq_false, not_false_eq_true, and_self, true_and, and_true, reduceIte, reduceCtorEq, Nat.reduceEqDiff, Nat.reduceAdd, Nat.zero_add, Nat.add_zero, Option.map_none, Option.map_some, List.map_cons, List.map_nil, List.append_nil, List.cons_append, List.nil_append, List.getElem?_cons_zero, List.getElem?_cons_succ, List.getD_cons_zero, List.getD_cons_succ, List.getD_nil, Bool.not_true, Bool.not_false, decide_true, decide_false]
  refine CallH.by (eqIntA2S_c g0 w0 _ _ H16 Rg0_16.1 Rw0_16.1 hR) ?_
  rintro _ H17 ⟨rfl, p17⟩
  have Ra0_17 := Ra0_16.pre p17
  have Ra1_17 := Ra1_16.pre p17
  have Rw0_17 := Rw0_16.pre p17
  have Rg0_17 := Rg0_16.pre p17
  have Mw0_17 := Mw0_16.pre p17
  have Mg0_17 := Mg0_16.pre p17
  have CB0_17 := pre_at p17 CB0_16
  have CX0_17 := pre_at p17 CX0_16
  have L17 := p17.length_le
  simp (maxSteps := 4000000) (disch := omega) only [ld_agg ag24 cs24 CB0_17, ld_agg ag28 cs28 CX0_17, S, S1, S2, S3, S4, ST, eq_self, ne_eq, not_true_eq_false, not_false_eq_true, and_self, true_and, and_true, reduceIte, reduceCtorEq, Nat.reduceEqDiff, Nat.reduceAdd, Nat.zero_add, Nat.add_zero, Option.map_none, Option.map_some, List.map_cons, List.map_nil, List.append_nil, List.cons_append, List.nil_append, List.getElem?_cons_zero, List.getElem?_cons_succ, List.getD_cons_zero, List.getD_cons_succ, List.getD_nil, Bool.not_true, Bool.not_false, decide_true, decide_false]
  try simp (maxSteps := 4000000) (disch := omega) only [gk, ld_agg ag24 cs24 CB0_17, ld_agg ag28 cs28 CX0_17, S, S1, S2, S3, S4, ST, eq_self, ne_eq, not_true_eq_false, not_false_eq_true, and_self, true_and, and_true, reduceIte, reduceCtorEq, Nat.reduceEqDiff, Nat.reduceAdd, Nat.zero_add, Nat.add_zero, Option.map_none, Option.map_some, List.map_cons, List.map_nil, List.append_nil, List.cons_append, List.nil_append, List.getElem?_cons_zero, List.getElem?_cons_succ, List.getD_cons_zero, List.getD_cons_succ, List.getD_nil, Bool.not_true, Bool.not_false, decide_true, decide_false]
  refine CallH.by (markIntA2S_B g0 _ _ _ _ H17 Mg0_17 hR (by omega)) ?_
  rintro _ H18 ⟨rfl, n_18, e18⟩
  have L18 := Nat.le_of_eq e18.1.symm
  have Ra0_18 := Ra0_17.keep e18 (by omega)
  have Ra1_18 := Ra1_17.keep e18 (by omega)
  have Mw0_18 := Mw0_17.keep e18 (by omega)
  have Rw0_18 := Mw0_18.row
  have CB0_18 := e18.2 _ _ (by omega) CB0_17
  have CX0_18 := e18.2 _ _ (by omega) CX0_17
  have Mg0_18 := n_18
  have Rg0_18 := n_18.row
  simp (maxSteps := 4000000) (disch := omega) only [ld_agg ag24 cs24 CB0_18, ld_agg ag28 cs28 CX0_18, S, S1, S2, S3, S4, ST, eq_self, ne_eq, not_true_eq_false, not_false_eq_true, and_self, true_and, and_true, reduceIte, reduceCtorEq, Nat.reduceEqDiff, Nat.reduceAdd, Nat.zero_add, Nat.add_zero, Option.map_none, Option.map_some, List.map_cons, List.map_nil, List.append_nil, List.cons_append, List.nil_append, List.getElem?_cons_zero, List.getElem?_cons_succ, List.getD_cons_zero, List.getD_cons_succ, List.getD_nil, Bool.not_true, Bool.not_false, decide_true, decide_false]
  refine CallH.by (heldIntA2S_c g0 _ 1 H18 Rg0_18.1 hR (by omega)) ?_
  rintro _ _ ⟨rfl, rfl⟩
  simp (maxSteps := 4000000) (disch := omega) only [runP_len, ld_agg ag24 cs24 CB0_18, ld_agg ag28 cs28 CX0_18, S, S1, S2, S3, S4, ST, eq_self, ne_eq, not_true_eq_false, not_false_eq_true, and_self, true_and, and_true, reduceIte, reduceCtorEq, Nat.reduceEqDiff, Nat.reduceAdd, Nat.zero_add, Nat.add_zero, Option.map_none, Option.map_some, List.map_cons, List.map_nil, List.append_nil, List.cons_append, List.nil_append, List.getElem?_cons_zero, List.getElem?_cons_succ, List.getD_cons_zero, List.getD_cons_succ, List.getD_nil, Bool.not_true, Bool.not_false, decide_true, decide_false]
  refine brD.intro (fun g => absurd g (by omega)) (fun _ => ?_)
  simp (maxSteps := 4000000) (disch := omega) only [ld_agg ag24 cs24 CB0_18, ld_agg ag28 cs28 CX0_18, S, S1, S2, S3, S4, ST, eq_self, ne_eq, not_true_eq_false, not_false_eq_true, and_self, true_and, and_true, reduceIte, reduceCtorEq, Nat.reduceEqDiff, Nat.reduceAdd, Nat.zero_add, Nat.add_zero, Option.map_none, Option.map_some, List.map_cons, List.map_nil, List.append_nil, List.cons_append, List.nil_append, List.getElem?_cons_zero, List.getElem?_cons_succ, List.getD_cons_zero, List.getD_cons_succ, List.getD_nil, Bool.not_true, Bool.not_false, decide_true, decide_false]
  refine CallH.by (toGraph_c n0 v0 xs0 H18 Ra0_18.1 L0_big) ?_
  rintro _ H19 ⟨e0, rfl, qe0, p19⟩
  have Ra0_19 := Ra0_18.pre p19
  have Ra1_19 := Ra1_18.pre p19
  have Rw0_19 := Rw0_18.pre p19
  have Rg0_19 := Rg0_18.pre p19
  have Mw0_19 := Mw0_18.pre p19
  have Mg0_19 := Mg0_18.pre p19
  have CB0_19 := pre_at p19 CB0_18
  have CX0_19 := pre_at p19 CX0_18
  have L19 := p19.length_le
  have Me0_19 := InP.of qe0
  have Re0_19 := Me0_19.row
  simp (maxSteps := 4000000) (disch := omega) only [ld_agg ag24 cs24 CB0_19, ld_agg ag28 cs28 CX0_19, S, S1, S2, S3, S4, ST, eq_self, ne_eq, not_true_eq_false, not_false_eq_true, and_self, true_and, and_true, reduceIte, reduceCtorEq, Nat.reduceEqDiff, Nat.reduceAdd, Nat.zero_add, Nat.add_zero, Option.map_none, Option.map_some, List.map_cons, List.map_nil, List.append_nil, List.cons_append, List.nil_append, List.getElem?_cons_zero, List.getElem?_cons_succ, List.getD_cons_zero, List.getD_cons_succ, List.getD_nil, Bool.not_true, Bool.not_false, decide_true, decide_false]
  refine CallH.by (toIntS_c v1 xs1 H19 Ra1_19.1 L1_big) ?_
  rintro e1 H20 ⟨qe1, p20⟩
  have Ra0_20 := Ra0_19.pre p20
  have Ra1_20 := Ra1_19.pre p20
  have Rw0_20 := Rw0_19.pre p20
  have Rg0_20 := Rg0_19.pre p20
  have Re0_20 := Re0_19.pre p20
  have Mw0_20 := Mw0_19.pre p20
  have Mg0_20 := Mg0_19.pre p20
  have Me0_20 := Me0_19.pre p20
  have CB0_20 := pre_at p20 CB0_19
  have CX0_20 := pre_at p20 CX0_19
  have L20 := p20.length_le
  have Me1_20 := InI.of qe1.mine
  have Re1_20 := Me1_20.row
  simp (maxSteps := 4000000) (disch := omega) only [ld_agg ag24 cs24 CB0_20, ld_agg ag28 cs28 CX0_20, S, S1, S2, S3, S4, ST, eq_self, ne_eq, not_true_eq_false, not_false_eq_true, and_self, true_and, and_true, reduceIte, reduceCtorEq, Nat.reduceEqDiff, Nat.reduceAdd, Nat.zero_add, Nat.add_zero, Option.map_none, Option.map_some, List.map_cons, List.map_nil, List.append_nil, List.cons_append, List.nil_append, List.getElem?_cons_zero, List.getElem?_cons_succ, List.getD_cons_zero, List.getD_cons_succ, List.getD_nil, Bool.not_true, Bool.not_false, decide_true, decide_false]
  refine CallH.by (TkI_c  n0 e0 e1 xs0 xs1 H20 Re0_20.1 L0_big b0.1 Re1_20.1 L1_big b1 bn0) ?_
  rintro _ H21 ⟨h0, rfl, qh0, p21⟩
  have Ra0_21 := Ra0_20.pre p21
  have Ra1_21 := Ra1_20.pre p21
  have Rw0_21 := Rw0_20.pre p21
  have Rg0_21 := Rg0_20.pre p21
  have Re0_21 := Re0_20.pre p21
  have Re1_21 := Re1_20.pre p21
  have Mw0_21 := Mw0_20.pre p21
  have Mg0_21 := Mg0_20.pre p21
  have Me0_21 := Me0_20.pre p21
  have Me1_21 := Me1_20.pre p21
  have CB0_21 := pre_at p21 CB0_20
  have CX0_21 := pre_at p21 CX0_20
  have L21 := p21.length_le
  have Mh0_21 := InP.of qh0
  have Rh0_21 := Mh0_21.row
  simp (maxSteps := 4000000) (disch := omega) only [ld_agg ag24 cs24 CB0_21, ld_agg ag28 cs28 CX0_21, S, S1, S2, S3, S4, ST, eq_self, ne_eq, not_true_eq_false, not_false_eq_true, and_self, true_and, and_true, reduceIte, reduceCtorEq, Nat.reduceEqDiff, Nat.reduceAdd, Nat.zero_add, Nat.add_zero, Option.map_none, Option.map_some, List.map_cons, List.map_nil, List.append_nil, List.cons_append, List.nil_append, List.getElem?_cons_zero, List.getElem?_cons_succ, List.getD_cons_zero, List.getD_cons_succ, List.getD_nil, Bool.not_true, Bool.not_false, decide_true, decide_false]
  refine CallH.by (eqIntA2S_c h0 w0 _ _ H21 Rh0_21.1 Rw0_21.1 hR) ?_
  rintro _ H22 ⟨rfl, p22⟩
  have Ra0_22 := Ra0_21.pre p22
  have Ra1_22 := Ra1_21.pre p22
  have Rw0_22 := Rw0_21.pre p22
  have Rg0_22 := Rg0_21.pre p22
  have Re0_22 := Re0_21.pre p22
  have Re1_22 := Re1_21.pre p22
  have Rh0_22 := Rh0_21.pre p22
  have Mw0_22 := Mw0_21.pre p22
  have Mg0_22 := Mg0_21.pre p22
  have Me0_22 := Me0_21.pre p22
  have Me1_22 := Me1_21.pre p22
  have Mh0_22 := Mh0_21.pre p22
  have CB0_22 := pre_at p22 CB0_21
  have CX0_22 := pre_at p22 CX0_21
  have L22 := p22.length_le
  simp (maxSteps := 4000000) (disch := omega) only [ld_agg ag24 cs24 CB0_22, ld_agg ag28 cs28 CX0_22, S, S1, S2, S3, S4, ST, eq_self, ne_eq, not_true_eq_false, not_false_eq_true, and_self, true_and, and_true, reduceIte, reduceCtorEq, Nat.reduceEqDiff, Nat.reduceAdd, Nat.zero_add, Nat.add_zero, Option.map_none, Option.map_some, List.map_cons, List.map_nil, List.append_nil, List.cons_append, List.nil_append, List.getElem?_cons_zero, List.getElem?_cons_succ, List.getD_cons_zero, List.getD_cons_succ, List.getD_nil, Bool.not_true, Bool.not_false, decide_true, decide_false]
  refine CallH.by (heldIntA2S_c g0 _ 1 H22 Rg0_22.1 hR (by omega)) ?_
  rintro _ _ ⟨rfl, rfl⟩
  simp (maxSteps := 4000000) (disch := omega) only [runP_len, ld_agg ag24 cs24 CB0_22, ld_agg ag28 cs28 CX0_22, S, S1, S2, S3, S4, ST, eq_self, ne_eq, not_true_eq_false, not_false_eq_true, and_self, true_and, and_true, reduceIte, reduceCtorEq, Nat.reduceEqDiff, Nat.reduceAdd, Nat.zero_add, Nat.add_zero, Option.map_none, Option.map_some, List.map_cons, List.map_nil, List.append_nil, List.cons_append, List.nil_append, List.getElem?_cons_zero, List.getElem?_cons_succ, List.getD_cons_zero, List.getD_cons_succ, List.getD_nil, Bool.not_true, Bool.not_false, decide_true, decide_false]
  refine brD.intro (fun g => absurd g (by omega)) (fun _ => ?_)
  simp (maxSteps := 4000000) (disch := omega) only [ld_agg ag24 cs24 CB0_22, ld_agg ag28 cs28 CX0_22, S, S1, S2, S3, S4, ST, eq_self, ne_eq, not_true_eq_false, not_false_eq_true, and_self, true_and, and_true, reduceIte, reduceCtorEq, Nat.reduceEqDiff, Nat.reduceAdd, Nat.zero_add, Nat.add_zero, Option.map_none, Option.map_some, List.map_cons, List.map_nil, List.append_nil, List.cons_append, List.nil_append, List.getElem?_cons_zero, List.getElem?_cons_succ, List.getD_cons_zero, List.getD_cons_succ, List.getD_nil, Bool.not_true, Bool.not_false, decide_true, decide_false]
  refine hQ _ _ _ ?_
  simp (maxSteps := 4000000) (disch := omega) only [ld_agg ag24 cs24 CB0_22, ld_agg ag28 cs28 CX0_22, S, S1, S2, S3, S4, ST, eq_self, ne_eq, not_true_eq_false, not_false_eq_true, and_self, true_and, and_true, reduceIte, reduceCtorEq, Nat.reduceEqDiff, Nat.reduceAdd, Nat.zero_add, Nat.add_zero, Option.map_none, Option.map_some, List.map_cons, List.map_nil, List.append_nil, List.cons_append, List.nil_append, List.getElem?_cons_zero, List.getElem?_cons_succ, List.getD_cons_zero, List.getD_cons_succ, List.getD_nil, Bool.not_true, Bool.not_false, decide_true, decide_false]

end Go.Proofs.Ythhnpchjjbjabaa.Ai
