/- The diagonals, the program's side. -/
import Derived.Test.YtahakecifgjcnaaTriP
import Derived.Test.YtahakecifgjcnaaProg
import Derived.Test.YtahakecifgjcnaaAiM2
import Derived.KernelRfl
/- Slim code of this translation. By the kernel. -/
namespace Go.Proofs.Ytahakecifgjcnaa.Ai
open Go

/- loop.example/g01128/impl.diagonals -/
def ords74 : List (Nat × List (Nat × Bool)) := []
def cd74 : Cd := (.seq (.reg [⟨⟨some 2, Op.assign (Operand.const (Value.slice none 0 0)), none⟩, []⟩]) (.seq (.reg [⟨⟨some 5, Op.buildSlice 22 0 #[], none⟩, []⟩,
  ⟨⟨some 3, Op.assign (Operand.tmp 5), none⟩, []⟩]) (.seq (.seq (.reg [⟨⟨some 6, Op.move (Operand.const (Value.int IntKind.i64 0)), none⟩, []⟩]) (.block 0 (.loop (.seq (.reg [⟨⟨some 7, Op.binOp BinOp.lss 3 (Operand.tmp 6) (Operand.const (Value.int IntKind.i64 100)) 3, none⟩, []⟩]) (.seq (.cond (Operand.tmp 7) .skip (.exit 0)) (.seq (.block 1 (.seq (.reg [⟨⟨some 8, Op.move (Operand.tmp 6), none⟩, []⟩,
  ⟨⟨some 4, Op.assign (Operand.tmp 8), none⟩, []⟩]) (.seq (.reg [⟨⟨some 9, Op.move (Operand.tmp 0), none⟩, []⟩,
  ⟨⟨some 10, Op.move (Operand.tmp 4), none⟩, []⟩,
  ⟨⟨some 11, Op.call { callee := (Callee.value (Operand.func 121)), args := #[(Operand.tmp 9), (Operand.tmp 10)], argTypes := #[3, 3] }, none⟩, []⟩]) (.cond (Operand.tmp 11) (.reg [⟨⟨some 12, Op.move (Operand.tmp 3), none⟩, []⟩,
  ⟨⟨some 13, Op.move (Operand.tmp 4), none⟩, []⟩,
  ⟨⟨some 14, Op.buildSlice 22 1 #[(0, (Operand.tmp 13))], none⟩, []⟩,
  ⟨⟨some 15, Op.call { callee := (Callee.builtin Builtin.append), args := #[(Operand.tmp 12), (Operand.tmp 14)], argTypes := #[22, 22] }, none⟩, []⟩,
  ⟨⟨some 3, Op.assign (Operand.tmp 15), none⟩, []⟩]) .skip)))) (.reg [⟨⟨some 16, Op.binOp BinOp.add 3 (Operand.tmp 6) (Operand.const (Value.int IntKind.i64 1)) 3, none⟩, []⟩,
  ⟨⟨some 6, Op.move (Operand.tmp 16), none⟩, []⟩]))))))) (.seq (.reg [⟨⟨some 17, Op.move (Operand.tmp 3), none⟩, []⟩,
  ⟨⟨some 2, Op.assign (Operand.tmp 17), none⟩, []⟩]) .ret))))
theorem sl74 : slim Try.f74.ntmps ords74 (Try.f74.body.getD .skip) = some cd74 := by kernel_rfl
theorem in74 {args : List Value} {H : AH} {R : Value → AH → Prop} (hl : args.length = 1) (h : ∀ (Q : Exit → Sl → AH → Prop), (∀ e s H, endA Try.prog [ResultVar.tmp 2] R e s H → Q e s H) → wpC Try.prog cd74 Q (enterA args) H) : ACalls Try.prog 74 args H R :=
  ACalls.intro (by kernel_rfl) Try.func74 rfl (by kernel_rfl) sl74 hl (of_decide_eq_true (by kernel_rfl)) (by kernel_rfl) h
end Go.Proofs.Ytahakecifgjcnaa.Ai

namespace Go.Proofs.Ytahakecifgjcnaa.Ai
open Go Go.RowKit
set_option linter.unusedVariables false
set_option linter.unusedSimpArgs false

/-- the diagonals below a number, in order -/
def dgI (n : Int) (k : Nat) : List Int := ((List.range k).map fun (i : Nat) => (i : Int)).filter fun d => decide (Diag n d)
theorem dgI_step (n : Int) (k : Nat) : dgI n (k + 1) = dgI n k ++ if Diag n k then [(k : Int)] else [] := by
  unfold dgI
  rw [List.range_succ, List.map_append, List.filter_append]
  by_cases h : Diag n k <;> simp [h]
theorem dgI_len (n : Int) (k : Nat) : (dgI n k).length ≤ k := by
  unfold dgI
  refine Nat.le_trans (List.length_filter_le _ _) ?_
  simp
theorem dgI_eq : ∀ n : Fin 9, 3 ≤ n.val → dgI (n.val : Int) 100 = dgs (n.val : Int) n.val := by decide

set_option maxHeartbeats 1000000 in
theorem diagonals_c (n : Int) (H : AH) (hn : 0 ≤ n ∧ n ≤ 100) : ACalls Try.prog 74 [.int .i64 n] H fun r H' => (∃ o, r = .slice (some ⟨o, 0, none⟩) (dgI n 100).length (dgI n 100).length ∧ H.length ≤ o ∧ H'[o]? = some (.cells (ints (dgI n 100)) 3 false)) ∧ H <+: H' := by
  refine in74 rfl ?_
  intro Q hQ
  simp (maxSteps := 1000000) (disch := omega) only [cd74, S, S1, S2, S3, S4, ST, eq_self, ne_eq, not_true_eq_false, not_false_eq_true, and_self, true_and, and_true, reduceIte, reduceCtorEq, Nat.reduceEqDiff, Nat.reduceAdd, Nat.zero_add, Nat.add_zero, Option.map_none, Option.map_some, List.map_cons, List.map_nil, List.append_nil, List.cons_append, List.nil_append, List.getElem?_cons_zero, List.getElem?_cons_succ, List.getD_cons_zero, List.getD_cons_succ, List.getD_nil, Bool.not_true, Bool.not_false, decide_true, decide_false]
  refine LoopH.by (fun m s H' => ∃ i, m + i = 100 ∧ s 0 = .int .i64 n ∧ s 6 = .int .i64 ((i : Nat) : Int) ∧ (∃ o, s 3 = .slice (some ⟨o, 0, none⟩) (dgI n i).length (dgI n i).length ∧ H.length ≤ o ∧ H'[o]? = some (.cells (ints (dgI n i)) 3 false)) ∧ H <+: H') 100 ?_ ?_
  · exact ⟨0, by simp, rfl, rfl, ⟨H.length, rfl, Nat.le_refl _, at_new ..⟩, List.prefix_append _ _⟩
  · rintro m s H' ⟨i, hm, h0, h6, ⟨o, h3, ho, hc⟩, hp⟩
    have hl := dgI_len n i
    have hs := dgI_step n i
    generalize hL : dgI n i = L at *
    simp (maxSteps := 1000000) (disch := omega) only [h0, h6, S, S1, S2, S3, S4, ST, eq_self, ne_eq, not_true_eq_false, not_false_eq_true, and_self, true_and, and_true, reduceIte, reduceCtorEq, Nat.reduceEqDiff, Nat.reduceAdd, Nat.zero_add, Nat.add_zero, Option.map_none, Option.map_some, List.map_cons, List.map_nil, List.append_nil, List.cons_append, List.nil_append, List.getElem?_cons_zero, List.getElem?_cons_succ, List.getD_cons_zero, List.getD_cons_succ, List.getD_nil, Bool.not_true, Bool.not_false, decide_true, decide_false]
    refine brD.intro (fun g => ?_) (fun g => ?_) <;> simp (maxSteps := 1000000) (disch := omega) only [h0, h6, S, S1, S2, S3, S4, ST, eq_self, ne_eq, not_true_eq_false, not_false_eq_true, and_self, true_and, and_true, reduceIte, reduceCtorEq, Nat.reduceEqDiff, Nat.reduceAdd, Nat.zero_add, Nat.add_zero, Option.map_none, Option.map_some, List.map_cons, List.map_nil, List.append_nil, List.cons_append, List.nil_append, List.getElem?_cons_zero, List.getElem?_cons_succ, List.getD_cons_zero, List.getD_cons_succ, List.getD_nil, Bool.not_true, Bool.not_false, decide_true, decide_false]
    · refine CallH.by (isDiagonal_c n i H' hn ⟨by omega, by omega⟩) ?_
      rintro _ _ ⟨rfl, rfl⟩
      simp (maxSteps := 1000000) (disch := omega) only [S, S1, S2, S3, S4, ST, eq_self, ne_eq, not_true_eq_false, not_false_eq_true, and_self, true_and, and_true, reduceIte, reduceCtorEq, Nat.reduceEqDiff, Nat.reduceAdd, Nat.zero_add, Nat.add_zero, Option.map_none, Option.map_some, List.map_cons, List.map_nil, List.append_nil, List.cons_append, List.nil_append, List.getElem?_cons_zero, List.getElem?_cons_succ, List.getD_cons_zero, List.getD_cons_succ, List.getD_nil, Bool.not_true, Bool.not_false, decide_true, decide_false]
      refine brD.intro (fun e => ?_) (fun e => ?_) <;> simp (maxSteps := 1000000) (disch := omega) only [h0, h6, h3, wrap64, appi22 hc, S, S1, S2, S3, S4, ST, eq_self, ne_eq, not_true_eq_false, not_false_eq_true, and_self, true_and, and_true, reduceIte, reduceCtorEq, Nat.reduceEqDiff, Nat.reduceAdd, Nat.zero_add, Nat.add_zero, Option.map_none, Option.map_some, List.map_cons, List.map_nil, List.append_nil, List.cons_append, List.nil_append, List.getElem?_cons_zero, List.getElem?_cons_succ, List.getD_cons_zero, List.getD_cons_succ, List.getD_nil, Bool.not_true, Bool.not_false, decide_true, decide_false]
      · rw [if_pos e] at hs
        have hlt := at_lt hc
        refine ⟨m - 1, by omega, i + 1, by omega, ?_⟩
        rw [hs]
        have fx : ∃ o2, (Value.slice (some ⟨H'.length + 1, 0, none⟩) (L.length + 1) (L.length + 1) = .slice (some ⟨o2, 0, none⟩) (L ++ [(i : Int)]).length (L ++ [(i : Int)]).length) ∧ H.length ≤ o2 ∧ (H'.set o .dead ++ [.cells [.int .i64 i] 3 false, .cells (ints (L ++ [(i : Int)])) 3 false])[o2]? = some (.cells (ints (L ++ [(i : Int)])) 3 false) := ⟨H'.length + 1, by simp, by omega, at_new1 ..⟩
        have hpp := pre_app (pre_set hp ho .dead) [.cells [.int .i64 (i : Int)] 3 false, .cells (ints (L ++ [(i : Int)])) 3 false]
        (repeat' apply And.intro) <;> first | rfl | trivial | assumption | omega | (simp only [Value.int.injEq, true_and]; omega) | (simp; done) | (simp; omega) | exact fx | exact hpp
      · rw [if_neg e] at hs
        refine ⟨m - 1, by omega, i + 1, by omega, ?_⟩
        rw [hs, List.append_nil]
        have fx : ∃ o2, (Value.slice (some ⟨o, 0, none⟩) L.length L.length = .slice (some ⟨o2, 0, none⟩) L.length L.length) ∧ H.length ≤ o2 ∧ H'[o2]? = some (.cells (ints L) 3 false) := ⟨o, rfl, ho, hc⟩
        (repeat' apply And.intro) <;> first | rfl | trivial | assumption | omega | (simp only [Value.int.injEq, true_and]; omega) | (simp; done) | (simp; omega) | exact fx
    · refine hQ _ _ _ ?_
      simp (maxSteps := 1000000) (disch := omega) only [h3, S, S1, S2, S3, S4, ST, eq_self, ne_eq, not_true_eq_false, not_false_eq_true, and_self, true_and, and_true, reduceIte, reduceCtorEq, Nat.reduceEqDiff, Nat.reduceAdd, Nat.zero_add, Nat.add_zero, Option.map_none, Option.map_some, List.map_cons, List.map_nil, List.append_nil, List.cons_append, List.nil_append, List.getElem?_cons_zero, List.getElem?_cons_succ, List.getD_cons_zero, List.getD_cons_succ, List.getD_nil, Bool.not_true, Bool.not_false, decide_true, decide_false]
      have : i = 100 := by omega
      subst this
      rw [hL]
      exact ⟨⟨o, rfl, ho, hc⟩, hp⟩

end Go.Proofs.Ytahakecifgjcnaa.Ai
