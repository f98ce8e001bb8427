/- Colourings with two colours that begin with some (spec.l5More), spec.l9Even. -/
import Derived.Test.YthhnpchjjbjabaaEvenP
import Derived.Test.YthhnpchjjbjabaaSwp
import Derived.Test.YthhnpchjjbjabaaNear
import Derived.Test.YthhnpchjjbjabaaReach
import Derived.Test.YthhnpchjjbjabaaProg
import Derived.Test.YthhnpchjjbjabaaAiM2
import Derived.KernelRfl
/- Slim code of this translation. By the kernel. -/
namespace Go.Proofs.Ythhnpchjjbjabaa.Ai
open Go

/- loop.example/g01128/spec.l5More -/
def ords115 : List (Nat × List (Nat × Bool)) := [(12, [(0, false), (1, false), (2, false), (4, false), (5, false), (7, false), (3, true), (6, true), (8, true), (9, true)])]
def cd115 : Cd := (.seq (.reg [⟨⟨some 4, Op.box 28 (Operand.tmp 0), none⟩, []⟩,
  ⟨⟨some 8, Op.assign (Operand.const (Value.slice none 0 0)), none⟩, []⟩]) (.seq (.seq (.reg [⟨⟨some 12, Op.move (Operand.tmp 2), none⟩, []⟩,
  ⟨⟨some 13, Op.call { callee := (Callee.builtin Builtin.len), args := #[(Operand.tmp 12)], argTypes := #[32] }, none⟩, []⟩,
  ⟨⟨some 14, Op.fieldAddr 28 (Operand.tmp 4) 0, none⟩, []⟩,
  ⟨⟨some 15, Op.load 3 (Operand.tmp 14), none⟩, []⟩,
  ⟨⟨some 16, Op.binOp BinOp.eql 3 (Operand.tmp 13) (Operand.tmp 15) 3, none⟩, []⟩]) (.cond (Operand.tmp 16) (.seq (.reg [⟨⟨some 17, Op.move (Operand.tmp 3), none⟩, []⟩,
  ⟨⟨some 18, Op.move (Operand.tmp 2), none⟩, []⟩,
  ⟨⟨some 19, Op.call { callee := (Callee.value (Operand.func 121)), args := #[(Operand.tmp 18)], argTypes := #[32] }, none⟩, []⟩,
  ⟨⟨some 20, Op.buildSlice 38 1 #[(0, (Operand.tmp 19))], none⟩, []⟩,
  ⟨⟨some 21, Op.call { callee := (Callee.builtin Builtin.append), args := #[(Operand.tmp 17), (Operand.tmp 20)], argTypes := #[38, 38] }, none⟩, []⟩,
  ⟨⟨some 8, Op.assign (Operand.tmp 21), none⟩, []⟩]) .ret) .skip)) (.seq (.seq (.reg [⟨⟨some 9, Op.assign (Operand.const (Value.int IntKind.i64 0)), none⟩, []⟩]) (.block 0 (.loop (.seq (.seq (.reg [⟨⟨some 22, Op.move (Operand.tmp 9), none⟩, []⟩,
  ⟨⟨some 23, Op.move (Operand.tmp 1), none⟩, []⟩,
  ⟨⟨some 24, Op.binOp BinOp.lss 3 (Operand.tmp 22) (Operand.tmp 23) 3, none⟩, []⟩,
  ⟨⟨some 25, Op.move (Operand.tmp 24), none⟩, []⟩,
  ⟨⟨some 26, Op.move (Operand.tmp 3), some (25, true)⟩, []⟩,
  ⟨⟨some 27, Op.call { callee := (Callee.builtin Builtin.len), args := #[(Operand.tmp 26)], argTypes := #[38] }, some (25, true)⟩, []⟩,
  ⟨⟨some 28, Op.binOp BinOp.leq 3 (Operand.tmp 27) (Operand.const (Value.int IntKind.i64 300)) 3, some (25, true)⟩, []⟩,
  ⟨⟨some 29, Op.pick (Operand.tmp 25) (Operand.tmp 28) (Operand.const (Value.bool false)), none⟩, []⟩]) (.cond (Operand.tmp 29) .skip (.exit 0))) (.seq (.block 1 (.seq (.reg [⟨⟨some 10, Op.assign (Operand.const (Value.bool true)), none⟩, []⟩]) (.seq (.seq (.reg [⟨⟨some 11, Op.assign (Operand.const (Value.int IntKind.i64 0)), none⟩, []⟩]) (.block 2 (.loop (.seq (.seq (.reg [⟨⟨some 32, Op.move (Operand.tmp 11), none⟩, []⟩,
  ⟨⟨some 33, Op.move (Operand.tmp 2), none⟩, []⟩,
  ⟨⟨some 34, Op.call { callee := (Callee.builtin Builtin.len), args := #[(Operand.tmp 33)], argTypes := #[32] }, none⟩, []⟩,
  ⟨⟨some 35, Op.binOp BinOp.lss 3 (Operand.tmp 32) (Operand.tmp 34) 3, none⟩, []⟩]) (.cond (Operand.tmp 35) .skip (.exit 2))) (.seq (.block 3 (.reg [⟨⟨some 38, Op.move (Operand.tmp 10), none⟩, []⟩,
  ⟨⟨some 39, Op.move (Operand.tmp 38), none⟩, []⟩,
  ⟨⟨some 40, Op.move (Operand.tmp 2), some (39, true)⟩, []⟩,
  ⟨⟨some 41, Op.move (Operand.tmp 11), some (39, true)⟩, []⟩,
  ⟨⟨some 42, Op.indexAddr 32 (Operand.tmp 40) (Operand.tmp 41), some (39, true)⟩, []⟩,
  ⟨⟨some 43, Op.load 3 (Operand.tmp 42), some (39, true)⟩, []⟩,
  ⟨⟨some 44, Op.move (Operand.tmp 9), some (39, true)⟩, []⟩,
  ⟨⟨some 45, Op.binOp BinOp.neq 3 (Operand.tmp 43) (Operand.tmp 44) 3, some (39, true)⟩, []⟩,
  ⟨⟨some 46, Op.move (Operand.tmp 45), some (39, true)⟩, []⟩,
  ⟨⟨some 47, Op.load 28 (Operand.tmp 4), some (46, false)⟩, []⟩,
  ⟨⟨some 48, Op.move (Operand.tmp 11), some (46, false)⟩, []⟩,
  ⟨⟨some 49, Op.move (Operand.tmp 2), some (46, false)⟩, []⟩,
  ⟨⟨some 50, Op.call { callee := (Callee.builtin Builtin.len), args := #[(Operand.tmp 49)], argTypes := #[32] }, some (46, false)⟩, []⟩,
  ⟨⟨some 51, Op.call { callee := (Callee.value (Operand.func 75)), args := #[(Operand.tmp 47), (Operand.tmp 48), (Operand.tmp 50)], argTypes := #[28, 3, 3] }, some (46, false)⟩, []⟩,
  ⟨⟨some 52, Op.unOp UnOp.not 4 (Operand.tmp 51), some (46, false)⟩, []⟩,
  ⟨⟨some 53, Op.pick (Operand.tmp 46) (Operand.const (Value.bool true)) (Operand.tmp 52), some (39, true)⟩, []⟩,
  ⟨⟨some 54, Op.pick (Operand.tmp 39) (Operand.tmp 53) (Operand.const (Value.bool false)), none⟩, []⟩,
  ⟨⟨some 10, Op.assign (Operand.tmp 54), none⟩, []⟩])) (.reg [⟨⟨some 36, Op.move (Operand.tmp 11), none⟩, []⟩,
  ⟨⟨some 37, Op.binOp BinOp.add 3 (Operand.tmp 36) (Operand.const (Value.int IntKind.i64 1)) 3, none⟩, []⟩,
  ⟨⟨some 11, Op.assign (Operand.tmp 37), none⟩, []⟩])))))) (.seq (.reg [⟨⟨some 55, Op.move (Operand.tmp 10), none⟩, []⟩]) (.cond (Operand.tmp 55) (.reg [⟨⟨some 56, Op.load 28 (Operand.tmp 4), none⟩, []⟩,
  ⟨⟨some 57, Op.move (Operand.tmp 1), none⟩, []⟩,
  ⟨⟨some 58, Op.move (Operand.tmp 2), none⟩, []⟩,
  ⟨⟨some 60, Op.move (Operand.tmp 9), none⟩, []⟩,
  ⟨⟨some 61, Op.buildSlice 32 1 #[(0, (Operand.tmp 60))], none⟩, []⟩,
  ⟨⟨some 63, Op.move (Operand.tmp 3), none⟩, []⟩,
  ⟨⟨some 59, Op.call { callee := (Callee.value (Operand.func 121)), args := #[(Operand.tmp 58)], argTypes := #[32] }, none⟩, [⟨some 61, Op.buildSlice 32 1 #[(0, (Operand.tmp 60))], none⟩, ⟨some 56, Op.load 28 (Operand.tmp 4), none⟩]⟩,
  ⟨⟨some 62, Op.call { callee := (Callee.builtin Builtin.append), args := #[(Operand.tmp 59), (Operand.tmp 61)], argTypes := #[32, 32] }, none⟩, [⟨some 56, Op.load 28 (Operand.tmp 4), none⟩]⟩,
  ⟨⟨some 64, Op.call { callee := (Callee.value (Operand.func 115)), args := #[(Operand.tmp 56), (Operand.tmp 57), (Operand.tmp 62), (Operand.tmp 63)], argTypes := #[28, 3, 32, 38] }, none⟩, []⟩,
  ⟨⟨some 3, Op.assign (Operand.tmp 64), none⟩, []⟩]) .skip))))) (.reg [⟨⟨some 30, Op.move (Operand.tmp 9), none⟩, []⟩,
  ⟨⟨some 31, Op.binOp BinOp.add 3 (Operand.tmp 30) (Operand.const (Value.int IntKind.i64 1)) 3, none⟩, []⟩,
  ⟨⟨some 9, Op.assign (Operand.tmp 31), none⟩, []⟩])))))) (.seq (.reg [⟨⟨some 65, Op.move (Operand.tmp 3), none⟩, []⟩,
  ⟨⟨some 8, Op.assign (Operand.tmp 65), none⟩, []⟩]) .ret))))
theorem sl115 : slim Try.f115.ntmps ords115 (Try.f115.body.getD .skip) = some cd115 := by kernel_rfl
theorem in115 {args : List Value} {H : AH} {R : Value → AH → Prop} (hl : args.length = 4) (h : ∀ (Q : Exit → Sl → AH → Prop), (∀ e s H, endA Try.prog [ResultVar.tmp 8] R e s H → Q e s H) → wpC Try.prog cd115 Q (enterA args) H) : ACalls Try.prog 115 args H R :=
  ACalls.intro (by kernel_rfl) Try.func115 rfl (by kernel_rfl) sl115 hl (of_decide_eq_true (by kernel_rfl)) (by kernel_rfl) h

/- loop.example/g01128/spec.l9Even -/
def ords62 : List (Nat × List (Nat × Bool)) := []
def cd62 : Cd := (.seq (.reg [⟨⟨some 1, Op.box 28 (Operand.tmp 0), none⟩, []⟩,
  ⟨⟨some 2, Op.assign (Operand.const (Value.bool false)), none⟩, []⟩]) (.seq (.reg [⟨⟨some 3, Op.load 28 (Operand.tmp 1), none⟩, []⟩,
  ⟨⟨some 4, Op.buildSlice 32 0 #[], none⟩, []⟩,
  ⟨⟨some 5, Op.buildSlice 38 0 #[], none⟩, []⟩,
  ⟨⟨some 6, Op.call { callee := (Callee.value (Operand.func 115)), args := #[(Operand.tmp 3), (Operand.const (Value.int IntKind.i64 2)), (Operand.tmp 4), (Operand.tmp 5)], argTypes := #[28, 3, 32, 38] }, none⟩, []⟩,
  ⟨⟨some 7, Op.call { callee := (Callee.builtin Builtin.len), args := #[(Operand.tmp 6)], argTypes := #[38] }, none⟩, []⟩,
  ⟨⟨some 8, Op.binOp BinOp.gtr 3 (Operand.tmp 7) (Operand.const (Value.int IntKind.i64 0)) 3, none⟩, []⟩,
  ⟨⟨some 2, Op.assign (Operand.tmp 8), none⟩, []⟩]) .ret))
theorem sl62 : slim Try.f62.ntmps ords62 (Try.f62.body.getD .skip) = some cd62 := by kernel_rfl
theorem in62 {args : List Value} {H : AH} {R : Value → AH → Prop} (hl : args.length = 1) (h : ∀ (Q : Exit → Sl → AH → Prop), (∀ e s H, endA Try.prog [ResultVar.tmp 2] R e s H → Q e s H) → wpC Try.prog cd62 Q (enterA args) H) : ACalls Try.prog 62 args H R :=
  ACalls.intro (by kernel_rfl) Try.func62 rfl (by kernel_rfl) sl62 hl (of_decide_eq_true (by kernel_rfl)) (by kernel_rfl) h
end Go.Proofs.Ythhnpchjjbjabaa.Ai

namespace Go.Proofs.Ythhnpchjjbjabaa.Ai
open Go Go.RowKit
set_option linter.unusedVariables false
set_option linter.unusedSimpArgs false

set_option maxRecDepth 20000 in
set_option maxHeartbeats 4000000 in
theorem l5More_c (n : Nat) (v : Value) (es : List (Int × Int)) (hlen : es.length ≤ 1099511627776) (hn : n ≤ 8) (lo : Nat) : ∀ (f : Nat) (w : Value) (b : List Int) (o : Nat) (us : List Value) (ls : List (List Int)) (H : AH), b.length + f = n → RowP 76 H v es → Row 3 H w b →
    Apart w (.slice (some ⟨o, 0, none⟩) 0 0) → Apart v (.slice (some ⟨o, 0, none⟩) 0 0) → InU lo H.length 32 3 H o us ls → ls.length ≤ 300 →
    ACalls Try.prog 115 [.agg (List.toArray [.int .i64 (n : Int), v]), .int .i64 2, w, .slice (some ⟨o, 0, none⟩) ls.length ls.length] H fun r H' => ∃ o' us', r = .slice (some ⟨o', 0, none⟩) (moreL es f b ls).length (moreL es f b ls).length ∧ InU lo H'.length 32 3 H' o' us' (moreL es f b ls) ∧
      (∀ (j : Nat) (y : AObj), j ≠ o → H[j]? = some y → H'[j]? = some y) ∧ H.length ≤ H'.length ∧ (o' = o ∨ H.length ≤ o') := by
  intro f
  induction f with
  | zero =>
    intro w b o us ls H hb hr hw haw hav hin hls
    refine in115 rfl ?_
    intro Q hQ
    simp (maxSteps := 1000000) (disch := omega) only [cd115, hr.boxG, S, S1, S2, S3, S4, ST, eq_self, ne_eq, not_true_eq_false, not_false_eq_true, and_self, true_and, and_true, reduceIte, reduceCtorEq, Nat.reduceEqDiff, Nat.reduceAdd, Nat.zero_add, Nat.add_zero, Option.map_none, Option.map_some, List.map_cons, List.map_nil, List.append_nil, List.cons_append, List.nil_append, List.getElem?_cons_zero, List.getElem?_cons_succ, List.getD_cons_zero, List.getD_cons_succ, List.getD_nil, Bool.not_true, Bool.not_false, decide_true, decide_false]
    generalize hA : H ++ [AObj.cells [.int .i64 ↑n, v] 28 false] = A
    have pA : H <+: A := by rw [← hA]; exact List.prefix_append _ _
    have cA : A[H.length]? = some (.cells [.int .i64 ↑n, v] 28 false) := by rw [← hA]; exact at_new ..
    have rA := hr.pre pA
    simp (maxSteps := 1000000) (disch := omega) only [cell_of cA, (hw.pre pA).len Try.underlying32, S, S1, S2, S3, S4, ST, eq_self, ne_eq, not_true_eq_false, not_false_eq_true, and_self, true_and, and_true, reduceIte, reduceCtorEq, Nat.reduceEqDiff, Nat.reduceAdd, Nat.zero_add, Nat.add_zero, Option.map_none, Option.map_some, List.map_cons, List.map_nil, List.append_nil, List.cons_append, List.nil_append, List.getElem?_cons_zero, List.getElem?_cons_succ, List.getD_cons_zero, List.getD_cons_succ, List.getD_nil, Bool.not_true, Bool.not_false, decide_true, decide_false]
    refine brD.intro (fun g => ?_) (fun g => absurd (show (b.length : Int) = n by omega) g)
    simp (maxSteps := 1000000) (disch := omega) only [g, S, S1, S2, S3, S4, ST, eq_self, ne_eq, not_true_eq_false, not_false_eq_true, and_self, true_and, and_true, reduceIte, reduceCtorEq, Nat.reduceEqDiff, Nat.reduceAdd, Nat.zero_add, Nat.add_zero, Option.map_none, Option.map_some, List.map_cons, List.map_nil, List.append_nil, List.cons_append, List.nil_append, List.getElem?_cons_zero, List.getElem?_cons_succ, List.getD_cons_zero, List.getD_cons_succ, List.getD_nil, Bool.not_true, Bool.not_false, decide_true, decide_false]
    refine CallH.by (l1Own_c w b A (hw.pre pA) (by omega)) ?_
    rintro c C ⟨hc, pC⟩
    have hinw := InI.of hc.mine
    have hinC := (hin.pre (pA.trans pC)).wide (Nat.le_refl _) pA.length_le
    have hlo := hin.1
    have hlo2 := hin.2.1
    obtain ⟨H3, k1, k2, k3, k4⟩ := hinC.app1 (P := Try.prog) (t2 := 38) Try.underlying38 cs32 (by rw [by32]; decide) zk32 hinw (by have := pA.length_le; omega) pC.length_le (Nat.le_refl _) (by omega)
    simp (maxSteps := 1000000) (disch := omega) only [bsRow hc.row C, k1, S, S1, S2, S3, S4, ST, eq_self, ne_eq, not_true_eq_false, not_false_eq_true, and_self, true_and, and_true, reduceIte, reduceCtorEq, Nat.reduceEqDiff, Nat.reduceAdd, Nat.zero_add, Nat.add_zero, Option.map_none, Option.map_some, List.map_cons, List.map_nil, List.append_nil, List.cons_append, List.nil_append, List.getElem?_cons_zero, List.getElem?_cons_succ, List.getD_cons_zero, List.getD_cons_succ, List.getD_nil, Bool.not_true, Bool.not_false, decide_true, decide_false]
    refine hQ _ _ _ ?_
    simp (maxSteps := 1000000) (disch := omega) only [S, S1, S2, S3, S4, ST, eq_self, ne_eq, not_true_eq_false, not_false_eq_true, and_self, true_and, and_true, reduceIte, reduceCtorEq, Nat.reduceEqDiff, Nat.reduceAdd, Nat.zero_add, Nat.add_zero, Option.map_none, Option.map_some, List.map_cons, List.map_nil, List.append_nil, List.cons_append, List.nil_append, List.getElem?_cons_zero, List.getElem?_cons_succ, List.getD_cons_zero, List.getD_cons_succ, List.getD_nil, Bool.not_true, Bool.not_false, decide_true, decide_false]
    have e : moreL es 0 b ls = ls ++ [b] := rfl
    have hl1 := pA.length_le
    have hl2 := pC.length_le
    rw [e]
    refine ⟨C.length + 1, us.take ls.length ++ [c], by simp, by rw [k3]; exact k2, fun j y hj hy => k4 j y hj (pre_at (pA.trans pC) hy), by omega, by omega⟩
  | succ f ih =>
    intro w b o us ls H hb hr hw haw hav hin hls
    refine in115 rfl ?_
    intro Q hQ
    simp (maxSteps := 1000000) (disch := omega) only [cd115, hr.boxG, S, S1, S2, S3, S4, ST, eq_self, ne_eq, not_true_eq_false, not_false_eq_true, and_self, true_and, and_true, reduceIte, reduceCtorEq, Nat.reduceEqDiff, Nat.reduceAdd, Nat.zero_add, Nat.add_zero, Option.map_none, Option.map_some, List.map_cons, List.map_nil, List.append_nil, List.cons_append, List.nil_append, List.getElem?_cons_zero, List.getElem?_cons_succ, List.getD_cons_zero, List.getD_cons_succ, List.getD_nil, Bool.not_true, Bool.not_false, decide_true, decide_false]
    generalize hA : H ++ [AObj.cells [.int .i64 ↑n, v] 28 false] = A
    have pA : H <+: A := by rw [← hA]; exact List.prefix_append _ _
    have cA : A[H.length]? = some (.cells [.int .i64 ↑n, v] 28 false) := by rw [← hA]; exact at_new ..
    have rA := hr.pre pA
    have lA : A.length = H.length + 1 := by rw [← hA]; simp
    simp (maxSteps := 1000000) (disch := omega) only [cell_of cA, (hw.pre pA).len Try.underlying32, S, S1, S2, S3, S4, ST, eq_self, ne_eq, not_true_eq_false, not_false_eq_true, and_self, true_and, and_true, reduceIte, reduceCtorEq, Nat.reduceEqDiff, Nat.reduceAdd, Nat.zero_add, Nat.add_zero, Option.map_none, Option.map_some, List.map_cons, List.map_nil, List.append_nil, List.cons_append, List.nil_append, List.getElem?_cons_zero, List.getElem?_cons_succ, List.getD_cons_zero, List.getD_cons_succ, List.getD_nil, Bool.not_true, Bool.not_false, decide_true, decide_false]
    refine brD.intro (fun g => absurd g (by omega)) (fun g => ?_)
    simp (maxSteps := 1000000) (disch := omega) only [g, S, S1, S2, S3, S4, ST, eq_self, ne_eq, not_true_eq_false, not_false_eq_true, and_self, true_and, and_true, reduceIte, reduceCtorEq, Nat.reduceEqDiff, Nat.reduceAdd, Nat.zero_add, Nat.add_zero, Option.map_none, Option.map_some, List.map_cons, List.map_nil, List.append_nil, List.cons_append, List.nil_append, List.getElem?_cons_zero, List.getElem?_cons_succ, List.getD_cons_zero, List.getD_cons_succ, List.getD_nil, Bool.not_true, Bool.not_false, decide_true, decide_false]
    have eM : moreL es (f + 1) b ls = tryC es (moreL es f) b 2 0 ls := rfl
    rw [eM] at hQ
    have hlo := hin.1
    have hlo2 := hin.2.1
    refine LoopH.by (fun m s H' => ∃ (c o' : Nat) (us' : List Value) (ls' : List (List Int)), m + c = 2 ∧ s 1 = .int .i64 2 ∧ s 2 = w ∧ s 3 = .slice (some ⟨o', 0, none⟩) ls'.length ls'.length ∧ s 4 = .pointer (some ⟨H.length, 0, none⟩) ∧ s 9 = .int .i64 ((c : Nat) : Int) ∧
      tryC es (moreL es f) b m c ls' = tryC es (moreL es f) b 2 0 ls ∧ ls'.length ≤ 301 ∧ InU lo H'.length 32 3 H' o' us' ls' ∧ (o' = o ∨ A.length ≤ o') ∧ (∀ (j : Nat) (y : AObj), j ≠ o → A[j]? = some y → H'[j]? = some y) ∧ A.length ≤ H'.length) 2 ?_ ?_
    · exact ⟨0, o, us, ls, rfl, rfl, rfl, rfl, rfl, rfl, rfl, by omega, (hin.pre pA).wide (Nat.le_refl _) pA.length_le, .inl rfl, fun j y _ hy => hy, Nat.le_refl _⟩
    rintro m s H' ⟨c, o', us', ls', hm, h1, h2, h3, h4, h9, hT, hl', hin', ho', hk, hAl⟩
    have hkA : Kept (.slice (some ⟨o, 0, none⟩) 0 0) A H' := fun j y hj hy => by
      rcases hj with hj | hj
      · cases hj
      · exact hk j y hj hy
    have hw' : Row 3 H' w b := (hw.pre pA).kept haw hkA
    have hr' : RowP 76 H' v es := (hr.pre pA).kept hav hkA
    have cH' : H'[H.length]? = some (.cells [.int .i64 (n : Int), v] 28 false) := hk _ _ (by omega) cA
    have done : tryC es (moreL es f) b m c ls' = ls' → ∃ o2 us', Value.slice (some ⟨o', 0, none⟩) ls'.length ls'.length = .slice (some ⟨o2, 0, none⟩) (tryC es (moreL es f) b 2 0 ls).length (tryC es (moreL es f) b 2 0 ls).length ∧ InU lo H'.length 32 3 H' o2 us' (tryC es (moreL es f) b 2 0 ls) ∧
      (∀ (j : Nat) (y : AObj), j ≠ o → H[j]? = some y → H'[j]? = some y) ∧ H.length ≤ H'.length ∧ (o2 = o ∨ H.length ≤ o2) := by
      intro e
      rw [e] at hT
      rw [← hT]
      exact ⟨o', us', rfl, hin', fun j y hj hy => hk j y hj (pre_at pA hy), by omega, by omega⟩
    simp (maxSteps := 1000000) (disch := omega) only [h1, h2, h3, h4, h9, S, S1, S2, S3, S4, ST, eq_self, ne_eq, not_true_eq_false, not_false_eq_true, and_self, true_and, and_true, reduceIte, reduceCtorEq, Nat.reduceEqDiff, Nat.reduceAdd, Nat.zero_add, Nat.add_zero, Option.map_none, Option.map_some, List.map_cons, List.map_nil, List.append_nil, List.cons_append, List.nil_append, List.getElem?_cons_zero, List.getElem?_cons_succ, List.getD_cons_zero, List.getD_cons_succ, List.getD_nil, Bool.not_true, Bool.not_false, decide_true, decide_false]
    refine brD.intro (fun g1 => ?_) (fun g1 => ?_)
    rotate_left
    · simp (maxSteps := 1000000) (disch := omega) only [g1, h3, S, S1, S2, S3, S4, ST, eq_self, ne_eq, not_true_eq_false, not_false_eq_true, and_self, true_and, and_true, reduceIte, reduceCtorEq, Nat.reduceEqDiff, Nat.reduceAdd, Nat.zero_add, Nat.add_zero, Option.map_none, Option.map_some, List.map_cons, List.map_nil, List.append_nil, List.cons_append, List.nil_append, List.getElem?_cons_zero, List.getElem?_cons_succ, List.getD_cons_zero, List.getD_cons_succ, List.getD_nil, Bool.not_true, Bool.not_false, decide_true, decide_false]
      refine hQ _ _ _ ?_
      simp (maxSteps := 1000000) (disch := omega) only [h3, S, S1, S2, S3, S4, ST, eq_self, ne_eq, not_true_eq_false, not_false_eq_true, and_self, true_and, and_true, reduceIte, reduceCtorEq, Nat.reduceEqDiff, Nat.reduceAdd, Nat.zero_add, Nat.add_zero, Option.map_none, Option.map_some, List.map_cons, List.map_nil, List.append_nil, List.cons_append, List.nil_append, List.getElem?_cons_zero, List.getElem?_cons_succ, List.getD_cons_zero, List.getD_cons_succ, List.getD_nil, Bool.not_true, Bool.not_false, decide_true, decide_false]
      have hm0 : m = 0 := by omega
      subst hm0
      exact done rfl
    simp (maxSteps := 1000000) (disch := omega) only [g1, h1, h2, h3, h4, h9, S, S1, S2, S3, S4, ST, eq_self, ne_eq, not_true_eq_false, not_false_eq_true, and_self, true_and, and_true, reduceIte, reduceCtorEq, Nat.reduceEqDiff, Nat.reduceAdd, Nat.zero_add, Nat.add_zero, Option.map_none, Option.map_some, List.map_cons, List.map_nil, List.append_nil, List.cons_append, List.nil_append, List.getElem?_cons_zero, List.getElem?_cons_succ, List.getD_cons_zero, List.getD_cons_succ, List.getD_nil, Bool.not_true, Bool.not_false, decide_true, decide_false]
    refine brD.intro (fun g2 => ?_) (fun g2 => ?_)
    rotate_left
    · simp (maxSteps := 1000000) (disch := omega) only [g1, g2, h3, S, S1, S2, S3, S4, ST, eq_self, ne_eq, not_true_eq_false, not_false_eq_true, and_self, true_and, and_true, reduceIte, reduceCtorEq, Nat.reduceEqDiff, Nat.reduceAdd, Nat.zero_add, Nat.add_zero, Option.map_none, Option.map_some, List.map_cons, List.map_nil, List.append_nil, List.cons_append, List.nil_append, List.getElem?_cons_zero, List.getElem?_cons_succ, List.getD_cons_zero, List.getD_cons_succ, List.getD_nil, Bool.not_true, Bool.not_false, decide_true, decide_false]
      refine hQ _ _ _ ?_
      simp (maxSteps := 1000000) (disch := omega) only [h3, S, S1, S2, S3, S4, ST, eq_self, ne_eq, not_true_eq_false, not_false_eq_true, and_self, true_and, and_true, reduceIte, reduceCtorEq, Nat.reduceEqDiff, Nat.reduceAdd, Nat.zero_add, Nat.add_zero, Option.map_none, Option.map_some, List.map_cons, List.map_nil, List.append_nil, List.cons_append, List.nil_append, List.getElem?_cons_zero, List.getElem?_cons_succ, List.getD_cons_zero, List.getD_cons_succ, List.getD_nil, Bool.not_true, Bool.not_false, decide_true, decide_false]
      exact done (tryC_full es _ b ls' (by omega) m c)
    obtain ⟨d, rfl⟩ : ∃ d, m = d + 1 := ⟨m - 1, by omega⟩
    have hstep : tryC es (moreL es f) b (d + 1) c ls' = tryC es (moreL es f) b d (c + 1) (if ls'.length ≤ 300 ∧ freeK es b (c : Int) b.length = true then moreL es f (b ++ [(c : Int)]) ls' else ls') := rfl
    rw [hstep] at hT
    simp (maxSteps := 1000000) (disch := omega) only [g1, g2, h1, h2, h3, h4, h9, S, S1, S2, S3, S4, ST, eq_self, ne_eq, not_true_eq_false, not_false_eq_true, and_self, true_and, and_true, reduceIte, reduceCtorEq, Nat.reduceEqDiff, Nat.reduceAdd, Nat.zero_add, Nat.add_zero, Option.map_none, Option.map_some, List.map_cons, List.map_nil, List.append_nil, List.cons_append, List.nil_append, List.getElem?_cons_zero, List.getElem?_cons_succ, List.getD_cons_zero, List.getD_cons_succ, List.getD_nil, Bool.not_true, Bool.not_false, decide_true, decide_false]
    refine LoopH.by (fun m' s' H'' => ∃ y, m' + y = b.length ∧ s' 1 = .int .i64 2 ∧ s' 2 = w ∧ s' 3 = .slice (some ⟨o', 0, none⟩) ls'.length ls'.length ∧ s' 4 = .pointer (some ⟨H.length, 0, none⟩) ∧ s' 9 = .int .i64 ((c : Nat) : Int) ∧ s' 10 = .bool (freeK es b (c : Int) y) ∧ s' 11 = .int .i64 ((y : Nat) : Int) ∧ H' <+: H'') b.length ?_ ?_
    · refine ⟨0, by simp, ?_⟩
      simp (maxSteps := 1000000) (disch := omega) only [h1, h2, h3, h4, h9, S, S1, S2, S3, S4, ST, eq_self, ne_eq, not_true_eq_false, not_false_eq_true, and_self, true_and, and_true, reduceIte, reduceCtorEq, Nat.reduceEqDiff, Nat.reduceAdd, Nat.zero_add, Nat.add_zero, Option.map_none, Option.map_some, List.map_cons, List.map_nil, List.append_nil, List.cons_append, List.nil_append, List.getElem?_cons_zero, List.getElem?_cons_succ, List.getD_cons_zero, List.getD_cons_succ, List.getD_nil, Bool.not_true, Bool.not_false, decide_true, decide_false]
      (repeat' first | apply And.intro) <;> first | (simp only [Value.int.injEq, true_and]; omega) | omega | rfl | assumption | (simp; done) | (simp; omega)
    · rintro m' s' H'' ⟨y, hm', k1, k2, k3, k4, k9, k10, k11, hp⟩
      have hw2 := hw'.pre hp
      have hr2 := hr'.pre hp
      have cH2 := pre_at hp cH'
      simp (maxSteps := 1000000) (disch := omega) only [k1, k2, k3, k4, k9, k11, hw2.len Try.underlying32, S, S1, S2, S3, S4, ST, eq_self, ne_eq, not_true_eq_false, not_false_eq_true, and_self, true_and, and_true, reduceIte, reduceCtorEq, Nat.reduceEqDiff, Nat.reduceAdd, Nat.zero_add, Nat.add_zero, Option.map_none, Option.map_some, List.map_cons, List.map_nil, List.append_nil, List.cons_append, List.nil_append, List.getElem?_cons_zero, List.getElem?_cons_succ, List.getD_cons_zero, List.getD_cons_succ, List.getD_nil, Bool.not_true, Bool.not_false, decide_true, decide_false]
      refine brD.intro (fun q => ?_) (fun q => ?_)
      · have hy : y < b.length := by omega
        have hf : freeK es b (c : Int) (y + 1) = (freeK es b (c : Int) y && (decide (b.getD y 0 ≠ (c : Int)) || !nearB es (y : Int) (b.length : Int))) := rfl
        by_cases hfk : freeK es b (c : Int) y = true
        · rw [hfk] at k10 hf
          rw [Bool.true_and] at hf
          simp (maxSteps := 1000000) (disch := omega) only [k1, k2, k3, k4, k9, k10, k11, hw2.ix Try.underlying32 cs3, hw2.cell, Int.toNat_natCast, S, S1, S2, S3, S4, ST, eq_self, ne_eq, not_true_eq_false, not_false_eq_true, and_self, true_and, and_true, reduceIte, reduceCtorEq, Nat.reduceEqDiff, Nat.reduceAdd, Nat.zero_add, Nat.add_zero, Option.map_none, Option.map_some, List.map_cons, List.map_nil, List.append_nil, List.cons_append, List.nil_append, List.getElem?_cons_zero, List.getElem?_cons_succ, List.getD_cons_zero, List.getD_cons_succ, List.getD_nil, Bool.not_true, Bool.not_false, decide_true, decide_false]
          refine brD.intro (fun q2 => ?_) (fun q2 => ?_)
          · rw [decide_eq_true q2, Bool.true_or] at hf
            simp (maxSteps := 1000000) (disch := omega) only [q2, k1, k2, k3, k4, k9, k10, k11, wrap64, S, S1, S2, S3, S4, ST, eq_self, ne_eq, not_true_eq_false, not_false_eq_true, and_self, true_and, and_true, reduceIte, reduceCtorEq, Nat.reduceEqDiff, Nat.reduceAdd, Nat.zero_add, Nat.add_zero, Option.map_none, Option.map_some, List.map_cons, List.map_nil, List.append_nil, List.cons_append, List.nil_append, List.getElem?_cons_zero, List.getElem?_cons_succ, List.getD_cons_zero, List.getD_cons_succ, List.getD_nil, Bool.not_true, Bool.not_false, decide_true, decide_false]
            refine ⟨m' - 1, by omega, y + 1, ?_⟩
            rw [hf]
            (repeat' first | exact hp | apply And.intro) <;> first | (simp only [Value.int.injEq, true_and]; omega) | omega | rfl | assumption | (simp; done) | (simp; omega)
          · rw [decide_eq_false q2, Bool.false_or] at hf
            simp (maxSteps := 1000000) (disch := omega) only [q2, k1, k2, k3, k4, k9, k10, k11, ld_agg ag28 cs28 cH2, hw2.len Try.underlying32, S, S1, S2, S3, S4, ST, eq_self, ne_eq, not_true_eq_false, not_false_eq_true, and_self, true_and, and_true, reduceIte, reduceCtorEq, Nat.reduceEqDiff, Nat.reduceAdd, Nat.zero_add, Nat.add_zero, Option.map_none, Option.map_some, List.map_cons, List.map_nil, List.append_nil, List.cons_append, List.nil_append, List.getElem?_cons_zero, List.getElem?_cons_succ, List.getD_cons_zero, List.getD_cons_succ, List.getD_nil, Bool.not_true, Bool.not_false, decide_true, decide_false]
            refine CallH.by (l2Near_c n v es y b.length H'' hr2 hlen) ?_
            rintro _ D ⟨rfl, pD⟩
            simp (maxSteps := 1000000) (disch := omega) only [q2, k1, k2, k3, k4, k9, k10, k11, wrap64, S, S1, S2, S3, S4, ST, eq_self, ne_eq, not_true_eq_false, not_false_eq_true, and_self, true_and, and_true, reduceIte, reduceCtorEq, Nat.reduceEqDiff, Nat.reduceAdd, Nat.zero_add, Nat.add_zero, Option.map_none, Option.map_some, List.map_cons, List.map_nil, List.append_nil, List.cons_append, List.nil_append, List.getElem?_cons_zero, List.getElem?_cons_succ, List.getD_cons_zero, List.getD_cons_succ, List.getD_nil, Bool.not_true, Bool.not_false, decide_true, decide_false]
            have f1 := hp.trans pD
            refine ⟨m' - 1, by omega, y + 1, ?_⟩
            rw [hf]
            (repeat' first | exact f1 | apply And.intro) <;> first | (simp only [Value.int.injEq, true_and]; omega) | omega | rfl | assumption | (simp; done) | (simp; omega)
        · have hfk' : freeK es b (c : Int) y = false := by simpa using hfk
          rw [hfk'] at k10 hf
          rw [Bool.false_and] at hf
          simp (maxSteps := 1000000) (disch := omega) only [k1, k2, k3, k4, k9, k10, k11, wrap64, S, S1, S2, S3, S4, ST, eq_self, ne_eq, not_true_eq_false, not_false_eq_true, and_self, true_and, and_true, reduceIte, reduceCtorEq, Nat.reduceEqDiff, Nat.reduceAdd, Nat.zero_add, Nat.add_zero, Option.map_none, Option.map_some, List.map_cons, List.map_nil, List.append_nil, List.cons_append, List.nil_append, List.getElem?_cons_zero, List.getElem?_cons_succ, List.getD_cons_zero, List.getD_cons_succ, List.getD_nil, Bool.not_true, Bool.not_false, decide_true, decide_false]
          refine ⟨m' - 1, by omega, y + 1, ?_⟩
          rw [hf]
          (repeat' first | exact hp | apply And.intro) <;> first | (simp only [Value.int.injEq, true_and]; omega) | omega | rfl | assumption | (simp; done) | (simp; omega)
      · have hy : y = b.length := by omega
        subst hy
        simp (maxSteps := 1000000) (disch := omega) only [k1, k2, k3, k4, k9, k10, S, S1, S2, S3, S4, ST, eq_self, ne_eq, not_true_eq_false, not_false_eq_true, and_self, true_and, and_true, reduceIte, reduceCtorEq, Nat.reduceEqDiff, Nat.reduceAdd, Nat.zero_add, Nat.add_zero, Option.map_none, Option.map_some, List.map_cons, List.map_nil, List.append_nil, List.cons_append, List.nil_append, List.getElem?_cons_zero, List.getElem?_cons_succ, List.getD_cons_zero, List.getD_cons_succ, List.getD_nil, Bool.not_true, Bool.not_false, decide_true, decide_false]
        refine brH.intro (fun e => ?_) (fun e => ?_)
        · rw [if_pos ⟨by omega, e⟩] at hT
          simp (maxSteps := 1000000) (disch := omega) only [e, k1, k2, k3, k4, k9, ld_agg ag28 cs28 cH2, S, S1, S2, S3, S4, ST, eq_self, ne_eq, not_true_eq_false, not_false_eq_true, and_self, true_and, and_true, reduceIte, reduceCtorEq, Nat.reduceEqDiff, Nat.reduceAdd, Nat.zero_add, Nat.add_zero, Option.map_none, Option.map_some, List.map_cons, List.map_nil, List.append_nil, List.cons_append, List.nil_append, List.getElem?_cons_zero, List.getElem?_cons_succ, List.getD_cons_zero, List.getD_cons_succ, List.getD_nil, Bool.not_true, Bool.not_false, decide_true, decide_false]
          generalize hB : H'' ++ [AObj.cells [.int .i64 (c : Int)] 3 false] = B
          have pB : H'' <+: B := by rw [← hB]; exact List.prefix_append _ _
          have cB : B[H''.length]? = some (.cells [.int .i64 (c : Int)] 3 false) := by rw [← hB]; exact at_new ..
          have lB : B.length = H''.length + 1 := by rw [← hB]; simp
          refine CallH.by (l1Own_c w b B (hw2.pre pB) (by omega)) ?_
          rintro w1 C ⟨hc, pC⟩
          have cC := pre_at pC cB
          have cG := pre_at (pB.trans pC) cH2
          have hx : Row 3 C (.slice (some ⟨H''.length, 0, none⟩) 1 1) [(c : Int)] := .inr ⟨H''.length, 0, [.int .i64 (c : Int)], false, rfl, cC, by simp, rfl⟩
          obtain ⟨v', H2, j1, j2, j3, j4, j5⟩ := hc.app (P := Try.prog) (t := 32) Try.underlying32 cs3 (by rw [by3]; decide) zk3 hx pC (by simp; omega)
          have pH2 := (hp.trans pB).trans j3
          have cG2 := pre_at (pB.trans j3) cH2
          have lH2 := pH2.length_le
          have lb1 := hp.length_le
          have hl1 : ls'.length ≤ 300 := by omega
          have hinH := (hin'.pre pH2).wide (Nat.le_refl _) lH2
          have ho1 := hin'.2.1
          have hap1 : Apart v' (.slice (some ⟨o', 0, none⟩) 0 0) := by
            rcases InI.of j2.mine with q1 | ⟨oo, zs, q1, q2, _⟩
            · exact .inr (.inl q1.1)
            · refine .inr (.inr ?_)
              rw [q1]
              show oo ≠ o'
              omega
          have hap2 : Apart v (.slice (some ⟨o', 0, none⟩) 0 0) := by
            rcases ho' with rfl | ho'
            · exact hav
            · rcases hr.nil with q1 | q1
              · exact .inr (.inl q1.1)
              · exact .inr (.inr (by show rowO v ≠ o'; omega))
          have hrec := ih v' (b ++ [(c : Int)]) o' us' ls' H2 (by simp; omega) (hr'.pre pH2) j2.row hap1 hap2 hinH hl1
          simp (maxSteps := 1000000) (disch := omega) only [e, k1, k2, k3, k4, k9, cC, cB, ld_agg ag28 cs28 cG, ld_agg ag28 cs28 cG2, j1, S, S1, S2, S3, S4, ST, eq_self, ne_eq, not_true_eq_false, not_false_eq_true, and_self, true_and, and_true, reduceIte, reduceCtorEq, Nat.reduceEqDiff, Nat.reduceAdd, Nat.zero_add, Nat.add_zero, Option.map_none, Option.map_some, List.map_cons, List.map_nil, List.append_nil, List.cons_append, List.nil_append, List.getElem?_cons_zero, List.getElem?_cons_succ, List.getD_cons_zero, List.getD_cons_succ, List.getD_nil, Bool.not_true, Bool.not_false, decide_true, decide_false]
          refine CallH.by hrec ?_
          rintro _ H3 ⟨o2, us2, rfl, i1, i2, i3, i4⟩
          have hml := moreL_len es f (b ++ [(c : Int)]) ls' hl1
          have f1 : o2 = o ∨ A.length ≤ o2 := by omega
          have f2 : ∀ (j : Nat) (y : AObj), j ≠ o → A[j]? = some y → H3[j]? = some y := fun j y hj hy => by
            refine i2 j y ?_ (pre_at pH2 (hk j y hj hy))
            rcases ho' with q1 | q1
            · rw [q1]; exact hj
            · have := at_lt hy; omega
          simp (maxSteps := 1000000) (disch := omega) only [k1, k2, k3, k4, k9, wrap64, S, S1, S2, S3, S4, ST, eq_self, ne_eq, not_true_eq_false, not_false_eq_true, and_self, true_and, and_true, reduceIte, reduceCtorEq, Nat.reduceEqDiff, Nat.reduceAdd, Nat.zero_add, Nat.add_zero, Option.map_none, Option.map_some, List.map_cons, List.map_nil, List.append_nil, List.cons_append, List.nil_append, List.getElem?_cons_zero, List.getElem?_cons_succ, List.getD_cons_zero, List.getD_cons_succ, List.getD_nil, Bool.not_true, Bool.not_false, decide_true, decide_false]
          refine ⟨d, by omega, c + 1, o2, us2, moreL es f (b ++ [(c : Int)]) ls', ?_⟩
          (repeat' first | exact hT | exact hml | exact i1 | exact f1 | exact f2 | apply And.intro) <;> first | (simp only [Value.int.injEq, true_and]; omega) | omega | rfl | assumption | (simp; done) | (simp; omega)
        · rw [if_neg (fun h => by rw [e] at h; exact absurd h.2 (by decide))] at hT
          simp (maxSteps := 1000000) (disch := omega) only [e, k1, k2, k3, k4, k9, wrap64, S, S1, S2, S3, S4, ST, eq_self, ne_eq, not_true_eq_false, not_false_eq_true, and_self, true_and, and_true, reduceIte, reduceCtorEq, Nat.reduceEqDiff, Nat.reduceAdd, Nat.zero_add, Nat.add_zero, Option.map_none, Option.map_some, List.map_cons, List.map_nil, List.append_nil, List.cons_append, List.nil_append, List.getElem?_cons_zero, List.getElem?_cons_succ, List.getD_cons_zero, List.getD_cons_succ, List.getD_nil, Bool.not_true, Bool.not_false, decide_true, decide_false]
          have f2 : ∀ (j : Nat) (y : AObj), j ≠ o → A[j]? = some y → H''[j]? = some y := fun j y hj hy => pre_at hp (hk j y hj hy)
          have f3 := (hin'.pre hp).wide (Nat.le_refl _) hp.length_le
          have f4 : A.length ≤ H''.length := by have := hp.length_le; omega
          refine ⟨d, by omega, c + 1, o', us', ls', ?_⟩
          (repeat' first | exact hT | exact hl' | exact f3 | exact ho' | exact f2 | exact f4 | apply And.intro) <;> first | (simp only [Value.int.injEq, true_and]; omega) | omega | rfl | assumption | (simp; done) | (simp; omega)

set_option maxRecDepth 20000 in
set_option maxHeartbeats 1000000 in
theorem l9Even_c (n : Nat) (v : Value) (es : List (Int × Int)) (H : AH) (hr : RowP 76 H v es) (hlen : es.length ≤ 1099511627776) (hn : n ≤ 8) :
    ACalls Try.prog 62 [.agg (List.toArray [.int .i64 (n : Int), v])] H fun r H' => r = .bool (evB n es) ∧ H <+: H' := by
  refine in62 rfl ?_
  intro Q hQ
  simp (maxSteps := 1000000) (disch := omega) only [cd62, hr.boxG, S, S1, S2, S3, S4, ST, eq_self, ne_eq, not_true_eq_false, not_false_eq_true, and_self, true_and, and_true, reduceIte, reduceCtorEq, Nat.reduceEqDiff, Nat.reduceAdd, Nat.zero_add, Nat.add_zero, Option.map_none, Option.map_some, List.map_cons, List.map_nil, List.append_nil, List.cons_append, List.nil_append, List.getElem?_cons_zero, List.getElem?_cons_succ, List.getD_cons_zero, List.getD_cons_succ, List.getD_nil, Bool.not_true, Bool.not_false, decide_true, decide_false]
  generalize hA : H ++ [AObj.cells [.int .i64 ↑n, v] 28 false] = A
  have pA : H <+: A := by rw [← hA]; exact List.prefix_append _ _
  have cA : A[H.length]? = some (.cells [.int .i64 ↑n, v] 28 false) := by rw [← hA]; exact at_new ..
  have rA := hr.pre pA
  simp (maxSteps := 1000000) (disch := omega) only [ld_agg ag28 cs28 cA, S, S1, S2, S3, S4, ST, eq_self, ne_eq, not_true_eq_false, not_false_eq_true, and_self, true_and, and_true, reduceIte, reduceCtorEq, Nat.reduceEqDiff, Nat.reduceAdd, Nat.zero_add, Nat.add_zero, Option.map_none, Option.map_some, List.map_cons, List.map_nil, List.append_nil, List.cons_append, List.nil_append, List.getElem?_cons_zero, List.getElem?_cons_succ, List.getD_cons_zero, List.getD_cons_succ, List.getD_nil, Bool.not_true, Bool.not_false, decide_true, decide_false]
  generalize hB : A ++ [AObj.cells [] 3 false] = B
  have pB : A <+: B := by rw [← hB]; exact List.prefix_append _ _
  have cB : B[A.length]? = some (.cells [] 3 false) := by rw [← hB]; exact at_new ..
  have lB : B.length = A.length + 1 := by rw [← hB]; simp
  generalize hC : B ++ [AObj.cells [] 32 false] = C
  have pC : B <+: C := by rw [← hC]; exact List.prefix_append _ _
  have lC : C.length = B.length + 1 := by rw [← hC]; simp
  have hin0 := InU.new A.length 32 3 B (by omega)
  rw [hC] at hin0
  have hw : Row 3 C (.slice (some ⟨A.length, 0, none⟩) 0 0) [] := .inr ⟨A.length, 0, [], false, rfl, pre_at pC cB, by simp, rfl⟩
  have hpA := pA.length_le
  have hap : Apart v (.slice (some ⟨B.length, 0, none⟩) 0 0) := by
    rcases hr.nil with q1 | q1
    · exact .inr (.inl q1.1)
    · exact .inr (.inr (by show rowO v ≠ B.length; omega))
  have hc := l5More_c n v es hlen hn A.length n (.slice (some ⟨A.length, 0, none⟩) 0 0) [] B.length [] [] C (by simp) (rA.pre (pB.trans pC)) hw (.inr (.inr (by show A.length ≠ B.length; omega))) hap (by rw [lC]; exact hin0) (by simp)
  refine CallH.by hc ?_
  rintro _ D ⟨o', us', rfl, i1, i2, i3, i4⟩
  simp (maxSteps := 1000000) (disch := omega) only [S, S1, S2, S3, S4, ST, eq_self, ne_eq, not_true_eq_false, not_false_eq_true, and_self, true_and, and_true, reduceIte, reduceCtorEq, Nat.reduceEqDiff, Nat.reduceAdd, Nat.zero_add, Nat.add_zero, Option.map_none, Option.map_some, List.map_cons, List.map_nil, List.append_nil, List.cons_append, List.nil_append, List.getElem?_cons_zero, List.getElem?_cons_succ, List.getD_cons_zero, List.getD_cons_succ, List.getD_nil, Bool.not_true, Bool.not_false, decide_true, decide_false]
  refine hQ _ _ _ ?_
  simp (maxSteps := 1000000) (disch := omega) only [S, S1, S2, S3, S4, ST, eq_self, ne_eq, not_true_eq_false, not_false_eq_true, and_self, true_and, and_true, reduceIte, reduceCtorEq, Nat.reduceEqDiff, Nat.reduceAdd, Nat.zero_add, Nat.add_zero, Option.map_none, Option.map_some, List.map_cons, List.map_nil, List.append_nil, List.cons_append, List.nil_append, List.getElem?_cons_zero, List.getElem?_cons_succ, List.getD_cons_zero, List.getD_cons_succ, List.getD_nil, Bool.not_true, Bool.not_false, decide_true, decide_false]
  refine ⟨?_, prefix_of fun j y hy => i2 j y (by have := at_lt hy; omega) (pre_at (pA.trans (pB.trans pC)) hy)⟩
  unfold evB
  rw [Value.bool.injEq, decide_eq_decide]
  omega
end Go.Proofs.Ythhnpchjjbjabaa.Ai
