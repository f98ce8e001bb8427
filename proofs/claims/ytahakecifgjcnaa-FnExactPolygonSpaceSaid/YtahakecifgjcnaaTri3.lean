/- Triangulations, the reference's side. -/
import Derived.Test.YtahakecifgjcnaaTri2
import Derived.Test.YtahakecifgjcnaaInts
import Derived.Test.YtahakecifgjcnaaProg
import Derived.Test.YtahakecifgjcnaaAiM2
import Derived.KernelRfl
/- Slim code of this translation. By the kernel. -/
namespace Go.Proofs.Ytahakecifgjcnaa.Ai
open Go

/- loop.example/g01128/spec.l8Diagonals -/
def ords68 : List (Nat × List (Nat × Bool)) := []
def cd68 : Cd := (.seq (.reg [⟨⟨some 2, Op.assign (Operand.const (Value.slice none 0 0)), none⟩, []⟩]) (.seq (.reg [⟨⟨some 6, Op.buildSlice 22 0 #[], none⟩, []⟩,
  ⟨⟨some 3, Op.assign (Operand.tmp 6), none⟩, []⟩]) (.seq (.seq (.reg [⟨⟨some 4, Op.assign (Operand.const (Value.int IntKind.i64 0)), none⟩, []⟩]) (.block 0 (.loop (.seq (.seq (.reg [⟨⟨some 7, Op.move (Operand.tmp 4), none⟩, []⟩,
  ⟨⟨some 8, Op.move (Operand.tmp 0), none⟩, []⟩,
  ⟨⟨some 9, Op.binOp BinOp.lss 3 (Operand.tmp 7) (Operand.tmp 8) 3, none⟩, []⟩]) (.cond (Operand.tmp 9) .skip (.exit 0))) (.seq (.block 1 (.seq (.reg [⟨⟨some 12, Op.move (Operand.tmp 4), none⟩, []⟩,
  ⟨⟨some 13, Op.binOp BinOp.add 3 (Operand.tmp 12) (Operand.const (Value.int IntKind.i64 2)) 3, none⟩, []⟩,
  ⟨⟨some 5, Op.assign (Operand.tmp 13), none⟩, []⟩]) (.block 2 (.loop (.seq (.seq (.reg [⟨⟨some 14, Op.move (Operand.tmp 5), none⟩, []⟩,
  ⟨⟨some 15, Op.move (Operand.tmp 0), none⟩, []⟩,
  ⟨⟨some 16, Op.binOp BinOp.lss 3 (Operand.tmp 14) (Operand.tmp 15) 3, none⟩, []⟩]) (.cond (Operand.tmp 16) .skip (.exit 2))) (.seq (.block 3 (.seq (.reg [⟨⟨some 19, Op.move (Operand.tmp 4), none⟩, []⟩,
  ⟨⟨some 20, Op.binOp BinOp.gtr 3 (Operand.tmp 19) (Operand.const (Value.int IntKind.i64 0)) 3, none⟩, []⟩,
  ⟨⟨some 21, Op.move (Operand.tmp 20), none⟩, []⟩,
  ⟨⟨some 22, Op.move (Operand.tmp 5), some (21, false)⟩, []⟩,
  ⟨⟨some 23, Op.move (Operand.tmp 0), some (21, false)⟩, []⟩,
  ⟨⟨some 24, Op.binOp BinOp.sub 3 (Operand.tmp 23) (Operand.const (Value.int IntKind.i64 1)) 3, some (21, false)⟩, []⟩,
  ⟨⟨some 25, Op.binOp BinOp.lss 3 (Operand.tmp 22) (Operand.tmp 24) 3, some (21, false)⟩, []⟩,
  ⟨⟨some 26, Op.pick (Operand.tmp 21) (Operand.const (Value.bool true)) (Operand.tmp 25), none⟩, []⟩]) (.cond (Operand.tmp 26) (.reg [⟨⟨some 27, Op.move (Operand.tmp 3), none⟩, []⟩,
  ⟨⟨some 28, Op.move (Operand.tmp 4), none⟩, []⟩,
  ⟨⟨some 29, Op.binOp BinOp.mul 3 (Operand.const (Value.int IntKind.i64 10)) (Operand.tmp 28) 3, none⟩, []⟩,
  ⟨⟨some 30, Op.move (Operand.tmp 5), none⟩, []⟩,
  ⟨⟨some 31, Op.binOp BinOp.add 3 (Operand.tmp 29) (Operand.tmp 30) 3, none⟩, []⟩,
  ⟨⟨some 32, Op.buildSlice 22 1 #[(0, (Operand.tmp 31))], none⟩, []⟩,
  ⟨⟨some 33, Op.call { callee := (Callee.builtin Builtin.append), args := #[(Operand.tmp 27), (Operand.tmp 32)], argTypes := #[22, 22] }, none⟩, []⟩,
  ⟨⟨some 3, Op.assign (Operand.tmp 33), none⟩, []⟩]) .skip))) (.reg [⟨⟨some 17, Op.move (Operand.tmp 5), none⟩, []⟩,
  ⟨⟨some 18, Op.binOp BinOp.add 3 (Operand.tmp 17) (Operand.const (Value.int IntKind.i64 1)) 3, none⟩, []⟩,
  ⟨⟨some 5, Op.assign (Operand.tmp 18), none⟩, []⟩]))))))) (.reg [⟨⟨some 10, Op.move (Operand.tmp 4), none⟩, []⟩,
  ⟨⟨some 11, Op.binOp BinOp.add 3 (Operand.tmp 10) (Operand.const (Value.int IntKind.i64 1)) 3, none⟩, []⟩,
  ⟨⟨some 4, Op.assign (Operand.tmp 11), none⟩, []⟩])))))) (.seq (.reg [⟨⟨some 34, Op.move (Operand.tmp 3), none⟩, []⟩,
  ⟨⟨some 2, Op.assign (Operand.tmp 34), none⟩, []⟩]) .ret))))
theorem sl68 : slim Try.f68.ntmps ords68 (Try.f68.body.getD .skip) = some cd68 := by kernel_rfl
theorem in68 {args : List Value} {H : AH} {R : Value → AH → Prop} (hl : args.length = 1) (h : ∀ (Q : Exit → Sl → AH → Prop), (∀ e s H, endA Try.prog [ResultVar.tmp 2] R e s H → Q e s H) → wpC Try.prog cd68 Q (enterA args) H) : ACalls Try.prog 68 args H R :=
  ACalls.intro (by kernel_rfl) Try.func68 rfl (by kernel_rfl) sl68 hl (of_decide_eq_true (by kernel_rfl)) (by kernel_rfl) h

/- loop.example/g01128/spec.l8Triangulates -/
def ords117 : List (Nat × List (Nat × Bool)) := [(5, [(0, false), (1, false), (2, false), (3, false), (4, false), (5, true), (6, false), (7, false), (8, false), (9, false), (10, false), (11, false), (12, false), (13, false), (14, false), (15, false), (16, false), (17, false), (18, false), (19, false), (20, false), (21, false), (22, false), (23, false), (24, false), (25, false), (26, false), (27, false), (28, false), (29, false), (30, false), (31, true), (32, false), (33, false)])]
def cd117 : Cd := (.seq (.reg [⟨⟨some 4, Op.assign (Operand.const (Value.bool false)), none⟩, []⟩]) (.seq (.reg [⟨⟨some 7, Op.move (Operand.tmp 0), none⟩, []⟩,
  ⟨⟨some 8, Op.call { callee := (Callee.value (Operand.func 68)), args := #[(Operand.tmp 7)], argTypes := #[3] }, none⟩, []⟩,
  ⟨⟨some 5, Op.assign (Operand.tmp 8), none⟩, []⟩]) (.seq (.seq (.reg [⟨⟨some 6, Op.assign (Operand.const (Value.int IntKind.i64 0)), none⟩, []⟩]) (.block 0 (.loop (.seq (.seq (.reg [⟨⟨some 9, Op.move (Operand.tmp 6), none⟩, []⟩,
  ⟨⟨some 10, Op.move (Operand.tmp 1), none⟩, []⟩,
  ⟨⟨some 11, Op.call { callee := (Callee.builtin Builtin.len), args := #[(Operand.tmp 10)], argTypes := #[22] }, none⟩, []⟩,
  ⟨⟨some 12, Op.binOp BinOp.lss 3 (Operand.tmp 9) (Operand.tmp 11) 3, none⟩, []⟩]) (.cond (Operand.tmp 12) .skip (.exit 0))) (.seq (.block 1 (.seq (.reg [⟨⟨some 15, Op.move (Operand.tmp 5), none⟩, []⟩,
  ⟨⟨some 16, Op.move (Operand.tmp 1), none⟩, []⟩,
  ⟨⟨some 17, Op.move (Operand.tmp 6), none⟩, []⟩,
  ⟨⟨some 18, Op.indexAddr 22 (Operand.tmp 16) (Operand.tmp 17), none⟩, []⟩,
  ⟨⟨some 19, Op.load 3 (Operand.tmp 18), none⟩, []⟩,
  ⟨⟨some 20, Op.call { callee := (Callee.value (Operand.func 66)), args := #[(Operand.tmp 15), (Operand.tmp 19)], argTypes := #[22, 3] }, none⟩, []⟩,
  ⟨⟨some 21, Op.unOp UnOp.not 4 (Operand.tmp 20), none⟩, []⟩,
  ⟨⟨some 22, Op.move (Operand.tmp 21), none⟩, []⟩,
  ⟨⟨some 23, Op.move (Operand.tmp 6), some (22, false)⟩, []⟩,
  ⟨⟨some 24, Op.binOp BinOp.gtr 3 (Operand.tmp 23) (Operand.const (Value.int IntKind.i64 0)) 3, some (22, false)⟩, []⟩,
  ⟨⟨some 25, Op.move (Operand.tmp 24), some (22, false)⟩, []⟩,
  ⟨⟨some 26, Op.move (Operand.tmp 1), some (25, true)⟩, []⟩,
  ⟨⟨some 27, Op.move (Operand.tmp 6), some (25, true)⟩, []⟩,
  ⟨⟨some 28, Op.binOp BinOp.sub 3 (Operand.tmp 27) (Operand.const (Value.int IntKind.i64 1)) 3, some (25, true)⟩, []⟩,
  ⟨⟨some 29, Op.indexAddr 22 (Operand.tmp 26) (Operand.tmp 28), some (25, true)⟩, []⟩,
  ⟨⟨some 30, Op.load 3 (Operand.tmp 29), some (25, true)⟩, []⟩,
  ⟨⟨some 31, Op.move (Operand.tmp 1), some (25, true)⟩, []⟩,
  ⟨⟨some 32, Op.move (Operand.tmp 6), some (25, true)⟩, []⟩,
  ⟨⟨some 33, Op.indexAddr 22 (Operand.tmp 31) (Operand.tmp 32), some (25, true)⟩, []⟩,
  ⟨⟨some 34, Op.load 3 (Operand.tmp 33), some (25, true)⟩, []⟩,
  ⟨⟨some 35, Op.binOp BinOp.geq 3 (Operand.tmp 30) (Operand.tmp 34) 3, some (25, true)⟩, []⟩,
  ⟨⟨some 36, Op.pick (Operand.tmp 25) (Operand.tmp 35) (Operand.const (Value.bool false)), some (22, false)⟩, []⟩,
  ⟨⟨some 37, Op.pick (Operand.tmp 22) (Operand.const (Value.bool true)) (Operand.tmp 36), none⟩, []⟩,
  ⟨⟨some 38, Op.move (Operand.tmp 37), none⟩, []⟩,
  ⟨⟨some 39, Op.move (Operand.tmp 1), some (38, false)⟩, []⟩,
  ⟨⟨some 40, Op.move (Operand.tmp 6), some (38, false)⟩, []⟩,
  ⟨⟨some 41, Op.slice 22 (Operand.tmp 39) none (some (Operand.tmp 40)) none, some (38, false)⟩, []⟩,
  ⟨⟨some 42, Op.move (Operand.tmp 1), some (38, false)⟩, []⟩,
  ⟨⟨some 43, Op.move (Operand.tmp 6), some (38, false)⟩, []⟩,
  ⟨⟨some 44, Op.indexAddr 22 (Operand.tmp 42) (Operand.tmp 43), some (38, false)⟩, []⟩,
  ⟨⟨some 45, Op.load 3 (Operand.tmp 44), some (38, false)⟩, []⟩,
  ⟨⟨some 46, Op.call { callee := (Callee.value (Operand.func 69)), args := #[(Operand.tmp 41), (Operand.tmp 45)], argTypes := #[22, 3] }, some (38, false)⟩, []⟩,
  ⟨⟨some 47, Op.unOp UnOp.not 4 (Operand.tmp 46), some (38, false)⟩, []⟩,
  ⟨⟨some 48, Op.pick (Operand.tmp 38) (Operand.const (Value.bool true)) (Operand.tmp 47), none⟩, []⟩]) (.cond (Operand.tmp 48) (.seq (.reg [⟨⟨some 4, Op.assign (Operand.const (Value.bool false)), none⟩, []⟩]) .ret) .skip))) (.reg [⟨⟨some 13, Op.move (Operand.tmp 6), none⟩, []⟩,
  ⟨⟨some 14, Op.binOp BinOp.add 3 (Operand.tmp 13) (Operand.const (Value.int IntKind.i64 1)) 3, none⟩, []⟩,
  ⟨⟨some 6, Op.assign (Operand.tmp 14), none⟩, []⟩])))))) (.seq (.reg [⟨⟨some 49, Op.move (Operand.tmp 1), none⟩, []⟩,
  ⟨⟨some 50, Op.call { callee := (Callee.builtin Builtin.len), args := #[(Operand.tmp 49)], argTypes := #[22] }, none⟩, []⟩,
  ⟨⟨some 51, Op.move (Operand.tmp 0), none⟩, []⟩,
  ⟨⟨some 52, Op.binOp BinOp.sub 3 (Operand.tmp 51) (Operand.const (Value.int IntKind.i64 3)) 3, none⟩, []⟩,
  ⟨⟨some 53, Op.binOp BinOp.eql 3 (Operand.tmp 50) (Operand.tmp 52) 3, none⟩, []⟩,
  ⟨⟨some 4, Op.assign (Operand.tmp 53), none⟩, []⟩]) .ret))))
theorem sl117 : slim Try.f117.ntmps ords117 (Try.f117.body.getD .skip) = some cd117 := by kernel_rfl
theorem in117 {args : List Value} {H : AH} {R : Value → AH → Prop} (hl : args.length = 2) (h : ∀ (Q : Exit → Sl → AH → Prop), (∀ e s H, endA Try.prog [ResultVar.tmp 4] R e s H → Q e s H) → wpC Try.prog cd117 Q (enterA args) H) : ACalls Try.prog 117 args H R :=
  ACalls.intro (by kernel_rfl) Try.func117 rfl (by kernel_rfl) sl117 hl (of_decide_eq_true (by kernel_rfl)) (by kernel_rfl) h
end Go.Proofs.Ytahakecifgjcnaa.Ai

namespace Go.Proofs.Ytahakecifgjcnaa.Ai
open Go Go.RowKit
set_option linter.unusedVariables false
set_option linter.unusedSimpArgs false

/-- the diagonals at a corner, as far as b -/
def dgRow (n a : Int) : Nat → List Int
  | 0 => []
  | k + 1 => dgRow n a k ++ (if 0 < a ∨ a + 2 + (k : Int) < n - 1 then [10 * a + (a + 2 + (k : Int))] else [])
def dgs (n : Int) : Nat → List Int
  | 0 => []
  | a + 1 => dgs n a ++ dgRow n a (n - a - 2).toNat
theorem dgRow_len (n a : Int) (k : Nat) : (dgRow n a k).length ≤ k := by
  induction k with
  | zero => exact Nat.le_refl _
  | succ k ih => simp only [dgRow, List.length_append]; split <;> simp <;> omega
theorem dgs_len (n : Int) (a : Nat) (h : n ≤ 10) (h0 : 0 ≤ n) : (dgs n a).length ≤ 20 * a := by
  induction a with
  | zero => exact Nat.le_refl _
  | succ a ih =>
    have := dgRow_len n a (n - a - 2).toNat
    simp only [dgs, List.length_append]; omega

set_option maxHeartbeats 1000000 in
theorem l8Diagonals_c (n : Int) (H : AH) (hn : 0 ≤ n ∧ n ≤ 9) : ACalls Try.prog 68 [.int .i64 n] H fun r H' => Own 3 H H' r (dgs n n.toNat) ∧ H <+: H' := by
  refine in68 rfl ?_
  intro Q hQ
  simp (maxSteps := 1000000) (disch := omega) only [cd68, S, S1, S2, S3, S4, ST, eq_self, ne_eq, not_true_eq_false, not_false_eq_true, and_self, true_and, and_true, reduceIte, reduceCtorEq, Nat.reduceEqDiff, Nat.reduceAdd, Nat.zero_add, Nat.add_zero, Option.map_none, Option.map_some, List.map_cons, List.map_nil, List.append_nil, List.cons_append, List.nil_append, List.getElem?_cons_zero, List.getElem?_cons_succ, List.getD_cons_zero, List.getD_cons_succ, List.getD_nil, Bool.not_true, Bool.not_false, decide_true, decide_false]
  refine LoopH.by (fun m s H' => ∃ a : Nat, (m : Int) + a = n ∧ s 0 = .int .i64 n ∧ s 4 = .int .i64 (a : Int) ∧ (∃ o, s 3 = .slice (some ⟨o, 0, none⟩) (dgs n a).length (dgs n a).length ∧ H.length ≤ o ∧ H'[o]? = some (.cells (ints (dgs n a)) 3 false)) ∧ H <+: H') n.toNat ?_ ?_
  · refine ⟨0, by omega, rfl, by simp [S, S1, S2, S3, S4, ST, eq_self, ne_eq, not_true_eq_false, not_false_eq_true, and_self, true_and, and_true, reduceIte, reduceCtorEq, Nat.reduceEqDiff, Nat.reduceAdd, Nat.zero_add, Nat.add_zero, Option.map_none, Option.map_some, List.map_cons, List.map_nil, List.append_nil, List.cons_append, List.nil_append, List.getElem?_cons_zero, List.getElem?_cons_succ, List.getD_cons_zero, List.getD_cons_succ, List.getD_nil, Bool.not_true, Bool.not_false, decide_true, decide_false], ⟨H.length, by simp [S, S1, S2, S3, S4, ST, eq_self, ne_eq, not_true_eq_false, not_false_eq_true, and_self, true_and, and_true, reduceIte, reduceCtorEq, Nat.reduceEqDiff, Nat.reduceAdd, Nat.zero_add, Nat.add_zero, Option.map_none, Option.map_some, List.map_cons, List.map_nil, List.append_nil, List.cons_append, List.nil_append, List.getElem?_cons_zero, List.getElem?_cons_succ, List.getD_cons_zero, List.getD_cons_succ, List.getD_nil, Bool.not_true, Bool.not_false, decide_true, decide_false, dgs], Nat.le_refl _, by simp [dgs, ints]⟩, List.prefix_append _ _⟩
  · rintro m s H' ⟨a, hm, h0, h4, ⟨o, h3, ho, hc⟩, hp⟩
    have hdl := dgs_len n a (by omega) hn.1
    simp (maxSteps := 1000000) (disch := omega) only [h0, h4, S, S1, S2, S3, S4, ST, eq_self, ne_eq, not_true_eq_false, not_false_eq_true, and_self, true_and, and_true, reduceIte, reduceCtorEq, Nat.reduceEqDiff, Nat.reduceAdd, Nat.zero_add, Nat.add_zero, Option.map_none, Option.map_some, List.map_cons, List.map_nil, List.append_nil, List.cons_append, List.nil_append, List.getElem?_cons_zero, List.getElem?_cons_succ, List.getD_cons_zero, List.getD_cons_succ, List.getD_nil, Bool.not_true, Bool.not_false, decide_true, decide_false]
    refine brD.intro (fun g => ?_) (fun g => ?_) <;> simp (maxSteps := 1000000) (disch := omega) only [h0, h4, wrap64, S, S1, S2, S3, S4, ST, eq_self, ne_eq, not_true_eq_false, not_false_eq_true, and_self, true_and, and_true, reduceIte, reduceCtorEq, Nat.reduceEqDiff, Nat.reduceAdd, Nat.zero_add, Nat.add_zero, Option.map_none, Option.map_some, List.map_cons, List.map_nil, List.append_nil, List.cons_append, List.nil_append, List.getElem?_cons_zero, List.getElem?_cons_succ, List.getD_cons_zero, List.getD_cons_succ, List.getD_nil, Bool.not_true, Bool.not_false, decide_true, decide_false]
    · refine LoopH.by (fun m' s' H'' => ∃ k : Nat, (m' : Int) + k = (n - a - 2).toNat ∧ s' 0 = .int .i64 n ∧ s' 4 = .int .i64 (a : Int) ∧ s' 5 = .int .i64 ((a : Int) + 2 + k) ∧ (∃ o, s' 3 = .slice (some ⟨o, 0, none⟩) (dgs n a ++ dgRow n a k).length (dgs n a ++ dgRow n a k).length ∧ H.length ≤ o ∧ H''[o]? = some (.cells (ints (dgs n a ++ dgRow n a k)) 3 false)) ∧ H <+: H'') (n - a - 2).toNat ?_ ?_
      · exact ⟨0, by omega, by simp [S, S1, S2, S3, S4, ST, eq_self, ne_eq, not_true_eq_false, not_false_eq_true, and_self, true_and, and_true, reduceIte, reduceCtorEq, Nat.reduceEqDiff, Nat.reduceAdd, Nat.zero_add, Nat.add_zero, Option.map_none, Option.map_some, List.map_cons, List.map_nil, List.append_nil, List.cons_append, List.nil_append, List.getElem?_cons_zero, List.getElem?_cons_succ, List.getD_cons_zero, List.getD_cons_succ, List.getD_nil, Bool.not_true, Bool.not_false, decide_true, decide_false, h0], by simp [S, S1, S2, S3, S4, ST, eq_self, ne_eq, not_true_eq_false, not_false_eq_true, and_self, true_and, and_true, reduceIte, reduceCtorEq, Nat.reduceEqDiff, Nat.reduceAdd, Nat.zero_add, Nat.add_zero, Option.map_none, Option.map_some, List.map_cons, List.map_nil, List.append_nil, List.cons_append, List.nil_append, List.getElem?_cons_zero, List.getElem?_cons_succ, List.getD_cons_zero, List.getD_cons_succ, List.getD_nil, Bool.not_true, Bool.not_false, decide_true, decide_false, h4], by simp [S, S1, S2, S3, S4, ST, eq_self, ne_eq, not_true_eq_false, not_false_eq_true, and_self, true_and, and_true, reduceIte, reduceCtorEq, Nat.reduceEqDiff, Nat.reduceAdd, Nat.zero_add, Nat.add_zero, Option.map_none, Option.map_some, List.map_cons, List.map_nil, List.append_nil, List.cons_append, List.nil_append, List.getElem?_cons_zero, List.getElem?_cons_succ, List.getD_cons_zero, List.getD_cons_succ, List.getD_nil, Bool.not_true, Bool.not_false, decide_true, decide_false], ⟨o, by simp [S, S1, S2, S3, S4, ST, eq_self, ne_eq, not_true_eq_false, not_false_eq_true, and_self, true_and, and_true, reduceIte, reduceCtorEq, Nat.reduceEqDiff, Nat.reduceAdd, Nat.zero_add, Nat.add_zero, Option.map_none, Option.map_some, List.map_cons, List.map_nil, List.append_nil, List.cons_append, List.nil_append, List.getElem?_cons_zero, List.getElem?_cons_succ, List.getD_cons_zero, List.getD_cons_succ, List.getD_nil, Bool.not_true, Bool.not_false, decide_true, decide_false, h3, dgRow], ho, by simpa [dgRow] using hc⟩, hp⟩
      · rintro m' s' H'' ⟨k, hm', g0, g4, g5, ⟨o', g3, ho', hc'⟩, hp'⟩
        have hrl := dgRow_len n a k
        have hll : (dgs n a ++ dgRow n a k).length = (dgs n a).length + (dgRow n a k).length := List.length_append
        generalize hL : dgs n a ++ dgRow n a k = L at *
        simp (maxSteps := 1000000) (disch := omega) only [g0, g5, S, S1, S2, S3, S4, ST, eq_self, ne_eq, not_true_eq_false, not_false_eq_true, and_self, true_and, and_true, reduceIte, reduceCtorEq, Nat.reduceEqDiff, Nat.reduceAdd, Nat.zero_add, Nat.add_zero, Option.map_none, Option.map_some, List.map_cons, List.map_nil, List.append_nil, List.cons_append, List.nil_append, List.getElem?_cons_zero, List.getElem?_cons_succ, List.getD_cons_zero, List.getD_cons_succ, List.getD_nil, Bool.not_true, Bool.not_false, decide_true, decide_false]
        refine brD.intro (fun q => ?_) (fun q => ?_) <;> simp (maxSteps := 1000000) (disch := omega) only [g0, g4, g5, wrap64, S, S1, S2, S3, S4, ST, eq_self, ne_eq, not_true_eq_false, not_false_eq_true, and_self, true_and, and_true, reduceIte, reduceCtorEq, Nat.reduceEqDiff, Nat.reduceAdd, Nat.zero_add, Nat.add_zero, Option.map_none, Option.map_some, List.map_cons, List.map_nil, List.append_nil, List.cons_append, List.nil_append, List.getElem?_cons_zero, List.getElem?_cons_succ, List.getD_cons_zero, List.getD_cons_succ, List.getD_nil, Bool.not_true, Bool.not_false, decide_true, decide_false]
        · have app : (0 < (a : Int) ∨ (a : Int) + 2 + k < n - 1) → dgs n a ++ dgRow n a (k + 1) = L ++ [10 * (a : Int) + ((a : Int) + 2 + k)] := by
            intro hh; rw [dgRow, if_pos hh, ← List.append_assoc, hL]
          have noapp : ¬ (0 < (a : Int) ∨ (a : Int) + 2 + k < n - 1) → dgs n a ++ dgRow n a (k + 1) = L := by
            intro hh; rw [dgRow, if_neg hh, List.append_nil, hL]
          have fin : ∀ x, dgs n a ++ dgRow n a (k + 1) = L ++ [x] → ∃ o, (Value.slice (some ⟨H''.length + 1, 0, none⟩) (L.length + 1) (L.length + 1) = .slice (some ⟨o, 0, none⟩) (dgs n a ++ dgRow n a (k + 1)).length (dgs n a ++ dgRow n a (k + 1)).length) ∧ H.length ≤ o ∧ (H''.set o' .dead ++ [.cells [.int .i64 x] 3 false, .cells (ints (L ++ [x])) 3 false])[o]? = some (.cells (ints (dgs n a ++ dgRow n a (k + 1))) 3 false) := by
            intro x hx
            have hlt := at_lt hc'
            exact ⟨H''.length + 1, by rw [hx]; simp, by omega, by rw [hx]; exact at_new1 ..⟩
          refine brD.intro (fun q1 => ?_) (fun q1 => ?_) <;> simp (maxSteps := 1000000) (disch := omega) only [q1, g0, g3, g4, g5, wrap64, appi22 hc', S, S1, S2, S3, S4, ST, eq_self, ne_eq, not_true_eq_false, not_false_eq_true, and_self, true_and, and_true, reduceIte, reduceCtorEq, Nat.reduceEqDiff, Nat.reduceAdd, Nat.zero_add, Nat.add_zero, Option.map_none, Option.map_some, List.map_cons, List.map_nil, List.append_nil, List.cons_append, List.nil_append, List.getElem?_cons_zero, List.getElem?_cons_succ, List.getD_cons_zero, List.getD_cons_succ, List.getD_nil, Bool.not_true, Bool.not_false, decide_true, decide_false]
          · refine ⟨m' - 1, by omega, k + 1, by omega, ?_⟩
            have fx := fin _ (app (.inl q1))
            have hpp := pre_app (pre_set hp' ho' .dead) [.cells [.int .i64 (10 * (a : Int) + ((a : Int) + 2 + k))] 3 false, .cells (ints (L ++ [10 * (a : Int) + ((a : Int) + 2 + k)])) 3 false]
            (repeat' apply And.intro) <;> first | rfl | trivial | assumption | omega | (simp only [Value.int.injEq, true_and]; omega) | (simp; done) | (simp; omega) | exact fx | exact hpp
          · refine brD.intro (fun q2 => ?_) (fun q2 => ?_) <;> simp (maxSteps := 1000000) (disch := omega) only [q1, q2, g0, g3, g4, g5, wrap64, appi22 hc', S, S1, S2, S3, S4, ST, eq_self, ne_eq, not_true_eq_false, not_false_eq_true, and_self, true_and, and_true, reduceIte, reduceCtorEq, Nat.reduceEqDiff, Nat.reduceAdd, Nat.zero_add, Nat.add_zero, Option.map_none, Option.map_some, List.map_cons, List.map_nil, List.append_nil, List.cons_append, List.nil_append, List.getElem?_cons_zero, List.getElem?_cons_succ, List.getD_cons_zero, List.getD_cons_succ, List.getD_nil, Bool.not_true, Bool.not_false, decide_true, decide_false]
            · refine ⟨m' - 1, by omega, k + 1, by omega, ?_⟩
              have fx := fin _ (app (.inr q2))
              have hpp := pre_app (pre_set hp' ho' .dead) [.cells [.int .i64 (10 * (a : Int) + ((a : Int) + 2 + k))] 3 false, .cells (ints (L ++ [10 * (a : Int) + ((a : Int) + 2 + k)])) 3 false]
              (repeat' apply And.intro) <;> first | rfl | trivial | assumption | omega | (simp only [Value.int.injEq, true_and]; omega) | (simp; done) | (simp; omega) | exact fx | exact hpp
            · refine ⟨m' - 1, by omega, k + 1, by omega, ?_⟩
              have fx : ∃ o, Value.slice (some ⟨o', 0, none⟩) L.length L.length = .slice (some ⟨o, 0, none⟩) (dgs n a ++ dgRow n a (k + 1)).length (dgs n a ++ dgRow n a (k + 1)).length ∧ H.length ≤ o ∧ H''[o]? = some (.cells (ints (dgs n a ++ dgRow n a (k + 1))) 3 false) := by
                rw [noapp (by omega)]; exact ⟨o', rfl, ho', hc'⟩
              (repeat' apply And.intro) <;> first | rfl | trivial | assumption | omega | (simp only [Value.int.injEq, true_and]; omega) | (simp; done) | (simp; omega) | exact fx
        · refine ⟨m - 1, by omega, a + 1, by omega, ?_⟩
          have hk : k = (n - a - 2).toNat := by omega
          have fx : ∃ o, s' 3 = .slice (some ⟨o, 0, none⟩) (dgs n (a + 1)).length (dgs n (a + 1)).length ∧ H.length ≤ o ∧ H''[o]? = some (.cells (ints (dgs n (a + 1))) 3 false) := by
            rw [dgs, ← hk, hL, g3]; exact ⟨o', rfl, ho', hc'⟩
          (repeat' apply And.intro) <;> first | rfl | trivial | assumption | omega | (simp only [Value.int.injEq, true_and]; omega) | (simp; done) | (simp; omega) | exact fx
    · refine hQ _ _ _ ?_
      simp (maxSteps := 1000000) (disch := omega) only [h3, S, S1, S2, S3, S4, ST, eq_self, ne_eq, not_true_eq_false, not_false_eq_true, and_self, true_and, and_true, reduceIte, reduceCtorEq, Nat.reduceEqDiff, Nat.reduceAdd, Nat.zero_add, Nat.add_zero, Option.map_none, Option.map_some, List.map_cons, List.map_nil, List.append_nil, List.cons_append, List.nil_append, List.getElem?_cons_zero, List.getElem?_cons_succ, List.getD_cons_zero, List.getD_cons_succ, List.getD_nil, Bool.not_true, Bool.not_false, decide_true, decide_false]
      have : n.toNat = a := by omega
      rw [this]
      exact ⟨.inr ⟨o, rfl, ho, hc⟩, hp⟩

def triOkS (n : Int) (xs : List Int) (i : Nat) : Bool := decide (xs.getD i 0 ∈ dgs n n.toNat) && (decide (i = 0) || decide (xs.getD (i - 1) 0 < xs.getD i 0)) && !(xs.take i).any fun y => decide (Crs y (xs.getD i 0))
def triS (n : Int) (xs : List Int) : Bool := (List.range xs.length).all (triOkS n xs) && decide ((xs.length : Int) = n - 3)

set_option maxHeartbeats 2000000 in
theorem l8Triangulates_c (n : Int) (v : Value) (xs : List Int) (H : AH) (hn : 0 ≤ n ∧ n ≤ 9) (hr : Row 3 H v xs) (hlen : xs.length ≤ 1099511627776) (hxs : ∀ y ∈ xs, I64 y) :
    ACalls Try.prog 117 [.int .i64 n, v] H fun r H' => r = .bool (triS n xs) ∧ H <+: H' := by
  refine in117 rfl ?_
  intro Q hQ
  simp (maxSteps := 1000000) (disch := omega) only [cd117, S, S1, S2, S3, S4, ST, eq_self, ne_eq, not_true_eq_false, not_false_eq_true, and_self, true_and, and_true, reduceIte, reduceCtorEq, Nat.reduceEqDiff, Nat.reduceAdd, Nat.zero_add, Nat.add_zero, Option.map_none, Option.map_some, List.map_cons, List.map_nil, List.append_nil, List.cons_append, List.nil_append, List.getElem?_cons_zero, List.getElem?_cons_succ, List.getD_cons_zero, List.getD_cons_succ, List.getD_nil, Bool.not_true, Bool.not_false, decide_true, decide_false]
  refine CallH.by (l8Diagonals_c n H hn) ?_
  rintro all H1 ⟨hall, hp⟩
  have hra := hall.row
  have hr1 := hr.pre hp
  have hal := dgs_len n n.toNat (by omega) hn.1
  simp (maxSteps := 1000000) (disch := omega) only [S, S1, S2, S3, S4, ST, eq_self, ne_eq, not_true_eq_false, not_false_eq_true, and_self, true_and, and_true, reduceIte, reduceCtorEq, Nat.reduceEqDiff, Nat.reduceAdd, Nat.zero_add, Nat.add_zero, Option.map_none, Option.map_some, List.map_cons, List.map_nil, List.append_nil, List.cons_append, List.nil_append, List.getElem?_cons_zero, List.getElem?_cons_succ, List.getD_cons_zero, List.getD_cons_succ, List.getD_nil, Bool.not_true, Bool.not_false, decide_true, decide_false]
  refine LoopH.by (fun m s H' => ∃ i, m + i = xs.length ∧ s 0 = .int .i64 n ∧ s 1 = v ∧ s 5 = all ∧ s 6 = .int .i64 ((i : Nat) : Int) ∧ H1 = H' ∧ ∀ j, j < i → triOkS n xs j = true) xs.length ?_ ?_
  · exact ⟨0, by simp, rfl, rfl, rfl, rfl, rfl, by omega⟩
  · rintro m s H' ⟨i, hm, h0, h1, h5, h6, rfl, hj⟩
    simp (maxSteps := 1000000) (disch := omega) only [h0, h1, h5, h6, hr1.len Try.underlying22, S, S1, S2, S3, S4, ST, eq_self, ne_eq, not_true_eq_false, not_false_eq_true, and_self, true_and, and_true, reduceIte, reduceCtorEq, Nat.reduceEqDiff, Nat.reduceAdd, Nat.zero_add, Nat.add_zero, Option.map_none, Option.map_some, List.map_cons, List.map_nil, List.append_nil, List.cons_append, List.nil_append, List.getElem?_cons_zero, List.getElem?_cons_succ, List.getD_cons_zero, List.getD_cons_succ, List.getD_nil, Bool.not_true, Bool.not_false, decide_true, decide_false]
    refine brD.intro (fun g => ?_) (fun g => ?_) <;> simp (maxSteps := 1000000) (disch := omega) only [h0, h1, h5, h6, wrap64, hr1.len Try.underlying22, hr1.ix Try.underlying22 cs3, hr1.cell, Int.toNat_natCast, S, S1, S2, S3, S4, ST, eq_self, ne_eq, not_true_eq_false, not_false_eq_true, and_self, true_and, and_true, reduceIte, reduceCtorEq, Nat.reduceEqDiff, Nat.reduceAdd, Nat.zero_add, Nat.add_zero, Option.map_none, Option.map_some, List.map_cons, List.map_nil, List.append_nil, List.cons_append, List.nil_append, List.getElem?_cons_zero, List.getElem?_cons_succ, List.getD_cons_zero, List.getD_cons_succ, List.getD_nil, Bool.not_true, Bool.not_false, decide_true, decide_false]
    · have hi : i < xs.length := by omega
      have hx : xs.getD i 0 = xs[i] := by simp [hi]
      have hI : I64 (xs.getD i 0) := by rw [hx]; exact hxs _ (List.getElem_mem hi)
      have bad : triOkS n xs i = false → triS n xs = false := by
        intro hb
        have : (List.range xs.length).all (triOkS n xs) = false := by
          rw [List.all_eq_false]
          exact ⟨i, List.mem_range.2 hi, by simp [hb]⟩
        simp [triS, this]
      have hs2 := hr1.slice Try.underlying22 cs3 (lo := none) (hi := some (.int .i64 (i : Int))) lo_none (bound_some (by omega) _) (by omega) (by omega)
      have hpred : ((i : Int) - 1).toNat = i - 1 := by omega
      refine CallH.by (l1Has_c all _ _ _ hra (by omega)) ?_
      rintro _ _ ⟨rfl, rfl⟩
      simp (maxSteps := 1000000) (disch := omega) only [h0, h1, h5, h6, wrap64, hr1.len Try.underlying22, hr1.ix Try.underlying22 cs3, hr1.cell, hpred, hs2.1, Int.toNat_natCast, S, S1, S2, S3, S4, ST, eq_self, ne_eq, not_true_eq_false, not_false_eq_true, and_self, true_and, and_true, reduceIte, reduceCtorEq, Nat.reduceEqDiff, Nat.reduceAdd, Nat.zero_add, Nat.add_zero, Option.map_none, Option.map_some, List.map_cons, List.map_nil, List.append_nil, List.cons_append, List.nil_append, List.getElem?_cons_zero, List.getElem?_cons_succ, List.getD_cons_zero, List.getD_cons_succ, List.getD_nil, Bool.not_true, Bool.not_false, decide_true, decide_false]
      refine brD.intro (fun gd => ?_) (fun gd => ?_) <;> simp (maxSteps := 1000000) (disch := omega) only [gd, h0, h1, h5, h6, wrap64, hr1.len Try.underlying22, hr1.ix Try.underlying22 cs3, hr1.cell, hpred, hs2.1, Int.toNat_natCast, S, S1, S2, S3, S4, ST, eq_self, ne_eq, not_true_eq_false, not_false_eq_true, and_self, true_and, and_true, reduceIte, reduceCtorEq, Nat.reduceEqDiff, Nat.reduceAdd, Nat.zero_add, Nat.add_zero, Option.map_none, Option.map_some, List.map_cons, List.map_nil, List.append_nil, List.cons_append, List.nil_append, List.getElem?_cons_zero, List.getElem?_cons_succ, List.getD_cons_zero, List.getD_cons_succ, List.getD_nil, Bool.not_true, Bool.not_false, decide_true, decide_false]
      · refine brD.intro (fun gi => ?_) (fun gi => ?_) <;> simp (maxSteps := 1000000) (disch := omega) only [gd, gi, h0, h1, h5, h6, wrap64, hr1.len Try.underlying22, hr1.ix Try.underlying22 cs3, hr1.cell, hpred, hs2.1, Int.toNat_natCast, S, S1, S2, S3, S4, ST, eq_self, ne_eq, not_true_eq_false, not_false_eq_true, and_self, true_and, and_true, reduceIte, reduceCtorEq, Nat.reduceEqDiff, Nat.reduceAdd, Nat.zero_add, Nat.add_zero, Option.map_none, Option.map_some, List.map_cons, List.map_nil, List.append_nil, List.cons_append, List.nil_append, List.getElem?_cons_zero, List.getElem?_cons_succ, List.getD_cons_zero, List.getD_cons_succ, List.getD_nil, Bool.not_true, Bool.not_false, decide_true, decide_false]
        · refine brD.intro (fun gl => ?_) (fun gl => ?_) <;> simp (maxSteps := 1000000) (disch := omega) only [gd, gi, gl, h0, h1, h5, h6, wrap64, hr1.len Try.underlying22, hr1.ix Try.underlying22 cs3, hr1.cell, hpred, hs2.1, Int.toNat_natCast, S, S1, S2, S3, S4, ST, eq_self, ne_eq, not_true_eq_false, not_false_eq_true, and_self, true_and, and_true, reduceIte, reduceCtorEq, Nat.reduceEqDiff, Nat.reduceAdd, Nat.zero_add, Nat.add_zero, Option.map_none, Option.map_some, List.map_cons, List.map_nil, List.append_nil, List.cons_append, List.nil_append, List.getElem?_cons_zero, List.getElem?_cons_succ, List.getD_cons_zero, List.getD_cons_succ, List.getD_nil, Bool.not_true, Bool.not_false, decide_true, decide_false]
          · refine hQ _ _ _ ?_
            simp (maxSteps := 1000000) (disch := omega) only [S, S1, S2, S3, S4, ST, eq_self, ne_eq, not_true_eq_false, not_false_eq_true, and_self, true_and, and_true, reduceIte, reduceCtorEq, Nat.reduceEqDiff, Nat.reduceAdd, Nat.zero_add, Nat.add_zero, Option.map_none, Option.map_some, List.map_cons, List.map_nil, List.append_nil, List.cons_append, List.nil_append, List.getElem?_cons_zero, List.getElem?_cons_succ, List.getD_cons_zero, List.getD_cons_succ, List.getD_nil, Bool.not_true, Bool.not_false, decide_true, decide_false]
            refine ⟨?_, hp⟩
            rw [bad]
            have : ¬ xs.getD (i - 1) 0 < xs.getD i 0 := by omega
            simp only [triOkS, gd, this, show ¬ i = 0 from by omega, decide_true, decide_false, Bool.or_false, Bool.and_false, Bool.false_and]
          · refine CallH.by (l8Apart_c _ _ _ _ hs2.2.1 (by simp; omega) (fun e he => hxs e (List.mem_of_mem_drop (List.mem_of_mem_take he))) hI) ?_
            rintro _ _ ⟨rfl, rfl⟩
            simp (maxSteps := 1000000) (disch := omega) only [gd, gi, gl, h0, h1, h5, h6, wrap64, hr1.len Try.underlying22, hr1.ix Try.underlying22 cs3, hr1.cell, hpred, hs2.1, Int.toNat_natCast, S, S1, S2, S3, S4, ST, eq_self, ne_eq, not_true_eq_false, not_false_eq_true, and_self, true_and, and_true, reduceIte, reduceCtorEq, Nat.reduceEqDiff, Nat.reduceAdd, Nat.zero_add, Nat.add_zero, Option.map_none, Option.map_some, List.map_cons, List.map_nil, List.append_nil, List.cons_append, List.nil_append, List.getElem?_cons_zero, List.getElem?_cons_succ, List.getD_cons_zero, List.getD_cons_succ, List.getD_nil, Bool.not_true, Bool.not_false, decide_true, decide_false]
            simp only [List.drop_zero, Nat.sub_zero]
            refine brH.intro (fun ga => ?_) (fun ga => ?_) <;> simp (maxSteps := 1000000) (disch := omega) only [gd, gi, gl, h0, h1, h5, h6, wrap64, hr1.len Try.underlying22, hr1.ix Try.underlying22 cs3, hr1.cell, hpred, hs2.1, Int.toNat_natCast, ga, List.drop_zero, Nat.sub_zero, S, S1, S2, S3, S4, ST, eq_self, ne_eq, not_true_eq_false, not_false_eq_true, and_self, true_and, and_true, reduceIte, reduceCtorEq, Nat.reduceEqDiff, Nat.reduceAdd, Nat.zero_add, Nat.add_zero, Option.map_none, Option.map_some, List.map_cons, List.map_nil, List.append_nil, List.cons_append, List.nil_append, List.getElem?_cons_zero, List.getElem?_cons_succ, List.getD_cons_zero, List.getD_cons_succ, List.getD_nil, Bool.not_true, Bool.not_false, decide_true, decide_false]
            · refine hQ _ _ _ ?_
              simp (maxSteps := 1000000) (disch := omega) only [S, S1, S2, S3, S4, ST, eq_self, ne_eq, not_true_eq_false, not_false_eq_true, and_self, true_and, and_true, reduceIte, reduceCtorEq, Nat.reduceEqDiff, Nat.reduceAdd, Nat.zero_add, Nat.add_zero, Option.map_none, Option.map_some, List.map_cons, List.map_nil, List.append_nil, List.cons_append, List.nil_append, List.getElem?_cons_zero, List.getElem?_cons_succ, List.getD_cons_zero, List.getD_cons_succ, List.getD_nil, Bool.not_true, Bool.not_false, decide_true, decide_false]
              refine ⟨?_, hp⟩
              rw [bad]
              simp only [triOkS, ga, Bool.not_true, Bool.and_false]
            · refine ⟨m - 1, by omega, i + 1, by omega, by simp, ?_⟩
              intro j hjj
              by_cases e : j = i
              · subst e
                have : xs.getD (j - 1) 0 < xs.getD j 0 := by omega
                simp only [triOkS, ga, gd, this, decide_true, Bool.true_and, Bool.not_false, Bool.and_true, Bool.or_true]
              · exact hj j (by omega)
        · refine CallH.by (l8Apart_c _ _ _ _ hs2.2.1 (by simp; omega) (fun e he => hxs e (List.mem_of_mem_drop (List.mem_of_mem_take he))) hI) ?_
          rintro _ _ ⟨rfl, rfl⟩
          simp (maxSteps := 1000000) (disch := omega) only [gd, gi, h0, h1, h5, h6, wrap64, hr1.len Try.underlying22, hr1.ix Try.underlying22 cs3, hr1.cell, hpred, hs2.1, Int.toNat_natCast, S, S1, S2, S3, S4, ST, eq_self, ne_eq, not_true_eq_false, not_false_eq_true, and_self, true_and, and_true, reduceIte, reduceCtorEq, Nat.reduceEqDiff, Nat.reduceAdd, Nat.zero_add, Nat.add_zero, Option.map_none, Option.map_some, List.map_cons, List.map_nil, List.append_nil, List.cons_append, List.nil_append, List.getElem?_cons_zero, List.getElem?_cons_succ, List.getD_cons_zero, List.getD_cons_succ, List.getD_nil, Bool.not_true, Bool.not_false, decide_true, decide_false]
          simp only [List.drop_zero, Nat.sub_zero]
          refine brH.intro (fun ga => ?_) (fun ga => ?_) <;> simp (maxSteps := 1000000) (disch := omega) only [gd, gi, h0, h1, h5, h6, wrap64, hr1.len Try.underlying22, hr1.ix Try.underlying22 cs3, hr1.cell, hpred, hs2.1, Int.toNat_natCast, ga, List.drop_zero, Nat.sub_zero, S, S1, S2, S3, S4, ST, eq_self, ne_eq, not_true_eq_false, not_false_eq_true, and_self, true_and, and_true, reduceIte, reduceCtorEq, Nat.reduceEqDiff, Nat.reduceAdd, Nat.zero_add, Nat.add_zero, Option.map_none, Option.map_some, List.map_cons, List.map_nil, List.append_nil, List.cons_append, List.nil_append, List.getElem?_cons_zero, List.getElem?_cons_succ, List.getD_cons_zero, List.getD_cons_succ, List.getD_nil, Bool.not_true, Bool.not_false, decide_true, decide_false]
          · refine hQ _ _ _ ?_
            simp (maxSteps := 1000000) (disch := omega) only [S, S1, S2, S3, S4, ST, eq_self, ne_eq, not_true_eq_false, not_false_eq_true, and_self, true_and, and_true, reduceIte, reduceCtorEq, Nat.reduceEqDiff, Nat.reduceAdd, Nat.zero_add, Nat.add_zero, Option.map_none, Option.map_some, List.map_cons, List.map_nil, List.append_nil, List.cons_append, List.nil_append, List.getElem?_cons_zero, List.getElem?_cons_succ, List.getD_cons_zero, List.getD_cons_succ, List.getD_nil, Bool.not_true, Bool.not_false, decide_true, decide_false]
            refine ⟨?_, hp⟩
            rw [bad]
            simp only [triOkS, ga, Bool.not_true, Bool.and_false]
          · refine ⟨m - 1, by omega, i + 1, by omega, by simp, ?_⟩
            intro j hjj
            by_cases e : j = i
            · subst e
              have e0 : decide (j = 0) = true := decide_eq_true (by omega)
              simp only [triOkS, ga, gd, e0, decide_true, Bool.true_and, Bool.true_or, Bool.not_false, Bool.and_true]
            · exact hj j (by omega)
      · refine hQ _ _ _ ?_
        simp (maxSteps := 1000000) (disch := omega) only [S, S1, S2, S3, S4, ST, eq_self, ne_eq, not_true_eq_false, not_false_eq_true, and_self, true_and, and_true, reduceIte, reduceCtorEq, Nat.reduceEqDiff, Nat.reduceAdd, Nat.zero_add, Nat.add_zero, Option.map_none, Option.map_some, List.map_cons, List.map_nil, List.append_nil, List.cons_append, List.nil_append, List.getElem?_cons_zero, List.getElem?_cons_succ, List.getD_cons_zero, List.getD_cons_succ, List.getD_nil, Bool.not_true, Bool.not_false, decide_true, decide_false]
        refine ⟨?_, hp⟩
        rw [bad]
        simp only [triOkS, gd, decide_false, Bool.false_and]
    · refine hQ _ _ _ ?_
      simp (maxSteps := 1000000) (disch := omega) only [S, S1, S2, S3, S4, ST, eq_self, ne_eq, not_true_eq_false, not_false_eq_true, and_self, true_and, and_true, reduceIte, reduceCtorEq, Nat.reduceEqDiff, Nat.reduceAdd, Nat.zero_add, Nat.add_zero, Option.map_none, Option.map_some, List.map_cons, List.map_nil, List.append_nil, List.cons_append, List.nil_append, List.getElem?_cons_zero, List.getElem?_cons_succ, List.getD_cons_zero, List.getD_cons_succ, List.getD_nil, Bool.not_true, Bool.not_false, decide_true, decide_false]
      refine ⟨?_, hp⟩
      have : (List.range xs.length).all (triOkS n xs) = true := List.all_eq_true.2 fun j hj' => hj j (by have := List.mem_range.1 hj'; omega)
      simp [triS, this]
end Go.Proofs.Ytahakecifgjcnaa.Ai
