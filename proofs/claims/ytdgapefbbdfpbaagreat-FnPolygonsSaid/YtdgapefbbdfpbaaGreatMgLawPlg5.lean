/- Texts of this claim, joined: Valid, At, Index, Wout, Clone, Seq, Coll, Flip, Ears, TurnP, BfsP, Rep, Bfs, Lst, Trg, CycP, SrtP, Swp, Fill, Lone. -/
import Derived.Test.YtdgapefbbdfpbaaGreatProg
import Derived.KernelRfl
import Derived.RangeFuncBox
import Derived.RangeFuncLeaves
import Derived.Shelf.Abstract
import Derived.WalkKit
import Derived.OwnWalkIn
import Derived.TacticsInMore
import Derived.LoopNIn
import Derived.LoopIn
import Derived.Maps.AppendAt
import Derived.Test.YtdgapefbbdfpbaaGreatMgLawPlg4
namespace Go.Proofs.YtdgapefbbdfpbaaGreat.Ai
open Go
def ords78 : List (Nat × List (Nat × Bool)) := []
def cd78 : Cd := (.seq (.reg [⟨⟨some 4, Op.assign (Operand.const (Value.bool false)), none⟩, []⟩]) (.seq (.reg [⟨⟨some 5, Op.move (Operand.tmp 0), none⟩, []⟩,
  ⟨⟨some 6, Op.call { callee := (Callee.value (Operand.func 62)), args := #[(Operand.tmp 5)], argTypes := #[3] }, none⟩, []⟩,
  ⟨⟨some 7, Op.move (Operand.tmp 6), none⟩, []⟩,
  ⟨⟨some 8, Op.move (Operand.tmp 0), some (7, true)⟩, []⟩,
  ⟨⟨some 9, Op.move (Operand.tmp 1), some (7, true)⟩, []⟩,
  ⟨⟨some 10, Op.call { callee := (Callee.value (Operand.func 84)), args := #[(Operand.tmp 8), (Operand.tmp 9)], argTypes := #[3, 34] }, some (7, true)⟩, []⟩,
  ⟨⟨some 11, Op.pick (Operand.tmp 7) (Operand.tmp 10) (Operand.const (Value.bool false)), none⟩, []⟩,
  ⟨⟨some 4, Op.assign (Operand.tmp 11), none⟩, []⟩]) .ret))
theorem sl78 : slim Tryz.f78.ntmps ords78 (Tryz.f78.body.getD .skip) = some cd78 := by kernel_rfl
theorem in78 {args : List Value} {H : AH} {R : Value → AH → Prop} (hl : args.length = 2) (h : ∀ (Q : Exit → Sl → AH → Prop), (∀ e s H, endA Tryz.prog [ResultVar.tmp 4] R e s H → Q e s H) → wpC Tryz.prog cd78 Q (enterA args) H) : ACalls Tryz.prog 78 args H R :=
  ACalls.intro (by kernel_rfl) Tryz.func78 rfl (by kernel_rfl) sl78 hl (of_decide_eq_true (by kernel_rfl)) (by kernel_rfl) h
def ords135 : List (Nat × List (Nat × Bool)) := []
def cd135 : Cd := (.seq (.reg [⟨⟨some 3, Op.assign (Operand.const (Value.bool false)), none⟩, []⟩]) (.seq (.reg [⟨⟨some 4, Op.load 3 (Operand.tmp 1), none⟩, []⟩,
  ⟨⟨some 5, Op.move (Operand.tmp 0), none⟩, []⟩,
  ⟨⟨some 6, Op.call { callee := (Callee.value (Operand.func 77)), args := #[(Operand.tmp 4), (Operand.tmp 5)], argTypes := #[3, 34] }, none⟩, []⟩,
  ⟨⟨some 7, Op.unOp UnOp.not 4 (Operand.tmp 6), none⟩, []⟩,
  ⟨⟨some 3, Op.assign (Operand.tmp 7), none⟩, []⟩]) .ret))
theorem sl135 : slim Tryz.f135.ntmps ords135 (Tryz.f135.body.getD .skip) = some cd135 := by kernel_rfl
theorem in135 {args : List Value} {H : AH} {R : Value → AH → Prop} (hl : args.length = 2) (h : ∀ (Q : Exit → Sl → AH → Prop), (∀ e s H, endA Tryz.prog [ResultVar.tmp 3] R e s H → Q e s H) → wpC Tryz.prog cd135 Q (enterA args) H) : ACalls Tryz.prog 135 args H R :=
  ACalls.intro (by kernel_rfl) Tryz.func135 rfl (by kernel_rfl) sl135 hl (of_decide_eq_true (by kernel_rfl)) (by kernel_rfl) h
def ords70 : List (Nat × List (Nat × Bool)) := []
def cd70 : Cd := (.seq (.reg [⟨⟨some 2, Op.box 3 (Operand.tmp 0), none⟩, []⟩,
  ⟨⟨some 4, Op.assign (Operand.const (Value.bool false)), none⟩, []⟩]) (.seq (.reg [⟨⟨some 5, Op.load 3 (Operand.tmp 2), none⟩, []⟩,
  ⟨⟨some 6, Op.call { callee := (Callee.value (Operand.func 58)), args := #[(Operand.tmp 5)], argTypes := #[3] }, none⟩, []⟩,
  ⟨⟨some 7, Op.move (Operand.tmp 6), none⟩, []⟩,
  ⟨⟨some 8, Op.move (Operand.tmp 1), some (7, true)⟩, []⟩,
  ⟨⟨some 9, Op.makeFunc (Fn.func 135) #[] #[(Operand.tmp 2)], some (7, true)⟩, []⟩,
  ⟨⟨some 10, Op.call { callee := (Callee.value (Operand.func 134)), args := #[(Operand.tmp 8), (Operand.tmp 9)], argTypes := #[25, 130] }, some (7, true)⟩, []⟩,
  ⟨⟨some 11, Op.unOp UnOp.not 4 (Operand.tmp 10), some (7, true)⟩, []⟩,
  ⟨⟨some 12, Op.pick (Operand.tmp 7) (Operand.tmp 11) (Operand.const (Value.bool false)), none⟩, []⟩,
  ⟨⟨some 4, Op.assign (Operand.tmp 12), none⟩, []⟩]) .ret))
theorem sl70 : slim Tryz.f70.ntmps ords70 (Tryz.f70.body.getD .skip) = some cd70 := by kernel_rfl
theorem in70 {args : List Value} {H : AH} {R : Value → AH → Prop} (hl : args.length = 2) (h : ∀ (Q : Exit → Sl → AH → Prop), (∀ e s H, endA Tryz.prog [ResultVar.tmp 4] R e s H → Q e s H) → wpC Tryz.prog cd70 Q (enterA args) H) : ACalls Tryz.prog 70 args H R :=
  ACalls.intro (by kernel_rfl) Tryz.func70 rfl (by kernel_rfl) sl70 hl (of_decide_eq_true (by kernel_rfl)) (by kernel_rfl) h
end Go.Proofs.YtdgapefbbdfpbaaGreat.Ai
namespace Go.Proofs.YtdgapefbbdfpbaaGreat.Ai
open Go Go.RowKit
set_option linter.unusedVariables false
set_option linter.unusedSimpArgs false
theorem l8Valid_c (n : Int) (v : Value) (xs : List Int) (H : AH) (hr : Row 3 H v xs) (hlen : xs.length ≤ 1099511627776) (hxs : ∀ y ∈ xs, I64 y) :
    ACalls Tryz.prog 78 [.int .i64 n, v] H fun r H' => r = .bool (decide (3 ≤ n ∧ n ≤ 8) && triS n xs) ∧ H <+: H' := by
  refine in78 rfl ?_
  intro Q hQ
  simp (maxSteps := 1000000) (disch := omega) only [cd78, S, S1, S2, S3, S4, S5, ST, eq_self, reduceIte, reduceCtorEq, Nat.reduceEqDiff, Nat.reduceAdd]
  refine CallH.by (l8Corners_c ..) ?_
  rintro _ _ ⟨rfl, rfl⟩
  simp (maxSteps := 1000000) (disch := omega) only [S, S1, S2, S3, S4, S5, ST, eq_self, reduceIte, reduceCtorEq, Nat.reduceEqDiff, Nat.reduceAdd]
  refine brD.intro (fun h => ?_) (fun h => ?_) <;> simp (maxSteps := 1000000) (disch := omega) only [h, S, S1, S2, S3, S4, S5, ST, eq_self, reduceIte, reduceCtorEq, Nat.reduceEqDiff, Nat.reduceAdd]
  · refine CallH.by (l8Triangulates_c n v xs H (by omega) hr hlen hxs) ?_
    rintro _ H1 ⟨rfl, hp⟩
    simp (maxSteps := 1000000) (disch := omega) only [h, S, S1, S2, S3, S4, S5, ST, eq_self, reduceIte, reduceCtorEq, Nat.reduceEqDiff, Nat.reduceAdd]
    refine hQ _ _ _ ?_
    simp (maxSteps := 1000000) (disch := omega) only [h, Bool.true_and, S, S1, S2, S3, S4, S5, ST, eq_self, reduceIte, reduceCtorEq, Nat.reduceEqDiff, Nat.reduceAdd]
    exact hp
  · refine hQ _ _ _ ?_
    simp (maxSteps := 1000000) (disch := omega) only [h, Bool.false_and, S, S1, S2, S3, S4, S5, ST, eq_self, reduceIte, reduceCtorEq, Nat.reduceEqDiff, Nat.reduceAdd]
    exact List.prefix_refl _
theorem areClos_c (n : Int) (v : Value) (xs : List Int) (o : Nat) (H : AH) (hn : 0 ≤ n ∧ n ≤ 100) (ho : cellA H o 0 = some (.int .i64 n)) (hr : Row 3 H v xs) (hlen : xs.length ≤ 1099511627776) (hxs : ∀ y ∈ xs, I64 y) :
    ACalls Tryz.prog 135 [v, .pointer (some ⟨o, 0, none⟩)] H fun r H' => r = .bool (!triI n xs) ∧ H <+: H' := by
  refine in135 rfl ?_
  intro Q hQ
  simp (maxSteps := 1000000) (disch := omega) only [cd135, ho, S, S1, S2, S3, S4, S5, ST, eq_self, reduceIte, reduceCtorEq, Nat.reduceEqDiff, Nat.reduceAdd]
  refine CallH.by (isTriangulation_c n v xs H hn hr hlen hxs) ?_
  rintro _ H1 ⟨rfl, hp1⟩
  simp (maxSteps := 1000000) (disch := omega) only [S, S1, S2, S3, S4, S5, ST, eq_self, reduceIte, reduceCtorEq, Nat.reduceEqDiff, Nat.reduceAdd]
  refine hQ _ _ _ ?_
  simp (maxSteps := 1000000) (disch := omega) only [S, S1, S2, S3, S4, S5, ST, eq_self, reduceIte, reduceCtorEq, Nat.reduceEqDiff, Nat.reduceAdd]
  exact hp1
theorem none_bad (f : List Int → Bool) : ∀ ls : List (List Int), (!(ls.map fun l => !f l).any id) = ls.all f
  | [] => rfl
  | l :: ls => by
    have := none_bad f ls
    simp only [List.map_cons, List.any_cons, List.all_cons, id, Bool.not_or, Bool.not_not, this]
theorem box_int (H : AH) (x : Int) : boxA Tryz.prog 3 (.int .i64 x) H = some (.pointer (some ⟨H.length, 0, none⟩), H ++ [.cells [.int .i64 x] 3 false]) := by kernel_rfl
/-- several lists at once -/
theorem areTri_c (n : Int) (v : Value) (us : List Value) (ls : List (List Int)) (H : AH) (hr : RowV 34 H v us) (hlen : us.length ≤ 1000) (hl : ls.length = us.length)
    (hx : ∀ i, i < us.length → Row 3 H (us.getD i undef) (ls.getD i []) ∧ (ls.getD i []).length ≤ 1099511627776 ∧ ∀ y ∈ ls.getD i [], I64 y) :
    ACalls Tryz.prog 70 [.int .i64 n, v] H fun r H' => r = .bool (decide (3 ≤ n ∧ n ≤ 8) && ls.all (triI n)) ∧ H <+: H' := by
  refine in70 rfl ?_
  intro Q hQ
  simp (maxSteps := 1000000) (disch := omega) only [cd70, box_int, cell_new, S, S1, S2, S3, S4, S5, ST, eq_self, reduceIte, reduceCtorEq, Nat.reduceEqDiff, Nat.reduceAdd]
  have hp0 : H <+: H ++ [AObj.cells [.int .i64 n] 3 false] := List.prefix_append _ _
  have hc0 : cellA (H ++ [AObj.cells [.int .i64 n] 3 false]) H.length 0 = some (.int .i64 n) := by rw [cell_new]; rfl
  refine CallH.by (isPolygon_c ..) ?_
  rintro _ _ ⟨rfl, rfl⟩
  simp (maxSteps := 1000000) (disch := omega) only [S, S1, S2, S3, S4, S5, ST, eq_self, reduceIte, reduceCtorEq, Nat.reduceEqDiff, Nat.reduceAdd]
  refine brD.intro (fun h => ?_) (fun h => ?_) <;> simp (maxSteps := 1000000) (disch := omega) only [h, mkf_p, S, S1, S2, S3, S4, S5, ST, eq_self, reduceIte, reduceCtorEq, Nat.reduceEqDiff, Nat.reduceAdd]
  · refine CallH.by (ContainsFuncL_c v us (ls.map fun l => !triI n l) _ _ _ (hr.pre hp0) (by omega) (by simp [hl]) ?_) ?_
    · intro i hi H1 hp1
      obtain ⟨g1, g2, g3⟩ := hx i hi
      have e : (ls.map fun l => !triI n l).getD i false = !triI n (ls.getD i []) := by simp [hl ▸ hi]
      rw [e]
      refine areClos_c n _ _ _ _ (by omega) ?_ (g1.pre (hp0.trans hp1)) g2 g3
      unfold cellA at hc0 ⊢
      have : (H ++ [AObj.cells [.int .i64 n] 3 false])[H.length]? = some (.cells [.int .i64 n] 3 false) := at_new ..
      rw [pre_at hp1 this]; rfl
    rintro _ H2 ⟨rfl, hp2⟩
    simp (maxSteps := 1000000) (disch := omega) only [h, S, S1, S2, S3, S4, S5, ST, eq_self, reduceIte, reduceCtorEq, Nat.reduceEqDiff, Nat.reduceAdd]
    refine hQ _ _ _ ?_
    simp (maxSteps := 1000000) (disch := omega) only [h, Bool.true_and, S, S1, S2, S3, S4, S5, ST, eq_self, reduceIte, reduceCtorEq, Nat.reduceEqDiff, Nat.reduceAdd]
    refine ⟨?_, hp0.trans hp2⟩
    congr 1
    exact none_bad (triI n) ls
  · refine hQ _ _ _ ?_
    simp (maxSteps := 1000000) (disch := omega) only [h, Bool.false_and, S, S1, S2, S3, S4, S5, ST, eq_self, reduceIte, reduceCtorEq, Nat.reduceEqDiff, Nat.reduceAdd]
    exact hp0
end Go.Proofs.YtdgapefbbdfpbaaGreat.Ai
namespace Go.Proofs.YtdgapefbbdfpbaaGreat.Ai
open Go
def ords101 : List (Nat × List (Nat × Bool)) := []
def cd101 : Cd := (.seq (.reg [⟨⟨some 4, Op.assign (Operand.const (Value.bool false)), none⟩, []⟩]) (.seq (.reg [⟨⟨some 5, Op.move (Operand.tmp 0), none⟩, []⟩,
  ⟨⟨some 6, Op.binOp BinOp.quo 3 (Operand.tmp 5) (Operand.const (Value.int IntKind.i64 10)) 3, none⟩, []⟩,
  ⟨⟨some 7, Op.move (Operand.tmp 1), none⟩, []⟩,
  ⟨⟨some 8, Op.binOp BinOp.eql 3 (Operand.tmp 6) (Operand.tmp 7) 3, none⟩, []⟩,
  ⟨⟨some 9, Op.move (Operand.tmp 8), none⟩, []⟩,
  ⟨⟨some 10, Op.move (Operand.tmp 0), some (9, false)⟩, []⟩,
  ⟨⟨some 11, Op.binOp BinOp.rem 3 (Operand.tmp 10) (Operand.const (Value.int IntKind.i64 10)) 3, some (9, false)⟩, []⟩,
  ⟨⟨some 12, Op.move (Operand.tmp 1), some (9, false)⟩, []⟩,
  ⟨⟨some 13, Op.binOp BinOp.eql 3 (Operand.tmp 11) (Operand.tmp 12) 3, some (9, false)⟩, []⟩,
  ⟨⟨some 14, Op.pick (Operand.tmp 9) (Operand.const (Value.bool true)) (Operand.tmp 13), none⟩, []⟩,
  ⟨⟨some 4, Op.assign (Operand.tmp 14), none⟩, []⟩]) .ret))
theorem sl101 : slim Tryz.f101.ntmps ords101 (Tryz.f101.body.getD .skip) = some cd101 := by kernel_rfl
theorem in101 {args : List Value} {H : AH} {R : Value → AH → Prop} (hl : args.length = 2) (h : ∀ (Q : Exit → Sl → AH → Prop), (∀ e s H, endA Tryz.prog [ResultVar.tmp 4] R e s H → Q e s H) → wpC Tryz.prog cd101 Q (enterA args) H) : ACalls Tryz.prog 101 args H R :=
  ACalls.intro (by kernel_rfl) Tryz.func101 rfl (by kernel_rfl) sl101 hl (of_decide_eq_true (by kernel_rfl)) (by kernel_rfl) h
def ords86 : List (Nat × List (Nat × Bool)) := []
def cd86 : Cd := (.seq (.reg [⟨⟨some 4, Op.assign (Operand.const (Value.int IntKind.i64 0)), none⟩, []⟩]) (.seq (.reg [⟨⟨some 5, Op.assign (Operand.const (Value.int IntKind.i64 0)), none⟩, []⟩]) (.seq (.seq (.reg [⟨⟨some 6, Op.assign (Operand.const (Value.int IntKind.i64 0)), none⟩, []⟩]) (.block 0 (.loop (.seq (.seq (.reg [⟨⟨some 7, Op.move (Operand.tmp 6), none⟩, []⟩,
  ⟨⟨some 8, Op.move (Operand.tmp 0), none⟩, []⟩,
  ⟨⟨some 9, Op.call { callee := (Callee.builtin Builtin.len), args := #[(Operand.tmp 8)], argTypes := #[34] }, none⟩, []⟩,
  ⟨⟨some 10, Op.binOp BinOp.lss 3 (Operand.tmp 7) (Operand.tmp 9) 3, none⟩, []⟩]) (.cond (Operand.tmp 10) .skip (.exit 0))) (.seq (.block 1 (.seq (.reg [⟨⟨some 13, Op.move (Operand.tmp 0), none⟩, []⟩,
  ⟨⟨some 14, Op.move (Operand.tmp 6), none⟩, []⟩,
  ⟨⟨some 15, Op.indexAddr 34 (Operand.tmp 13) (Operand.tmp 14), none⟩, []⟩,
  ⟨⟨some 16, Op.load 3 (Operand.tmp 15), none⟩, []⟩,
  ⟨⟨some 17, Op.binOp BinOp.quo 3 (Operand.tmp 16) (Operand.const (Value.int IntKind.i64 10)) 3, none⟩, []⟩,
  ⟨⟨some 18, Op.move (Operand.tmp 1), none⟩, []⟩,
  ⟨⟨some 19, Op.binOp BinOp.eql 3 (Operand.tmp 17) (Operand.tmp 18) 3, none⟩, []⟩,
  ⟨⟨some 20, Op.move (Operand.tmp 19), none⟩, []⟩,
  ⟨⟨some 21, Op.move (Operand.tmp 0), some (20, false)⟩, []⟩,
  ⟨⟨some 22, Op.move (Operand.tmp 6), some (20, false)⟩, []⟩,
  ⟨⟨some 23, Op.indexAddr 34 (Operand.tmp 21) (Operand.tmp 22), some (20, false)⟩, []⟩,
  ⟨⟨some 24, Op.load 3 (Operand.tmp 23), some (20, false)⟩, []⟩,
  ⟨⟨some 25, Op.binOp BinOp.rem 3 (Operand.tmp 24) (Operand.const (Value.int IntKind.i64 10)) 3, some (20, false)⟩, []⟩,
  ⟨⟨some 26, Op.move (Operand.tmp 1), some (20, false)⟩, []⟩,
  ⟨⟨some 27, Op.binOp BinOp.eql 3 (Operand.tmp 25) (Operand.tmp 26) 3, some (20, false)⟩, []⟩,
  ⟨⟨some 28, Op.pick (Operand.tmp 20) (Operand.const (Value.bool true)) (Operand.tmp 27), none⟩, []⟩]) (.cond (Operand.tmp 28) (.reg [⟨⟨some 29, Op.move (Operand.tmp 5), none⟩, []⟩,
  ⟨⟨some 30, Op.binOp BinOp.add 3 (Operand.tmp 29) (Operand.const (Value.int IntKind.i64 1)) 3, none⟩, []⟩,
  ⟨⟨some 5, Op.assign (Operand.tmp 30), none⟩, []⟩]) .skip))) (.reg [⟨⟨some 11, Op.move (Operand.tmp 6), none⟩, []⟩,
  ⟨⟨some 12, Op.binOp BinOp.add 3 (Operand.tmp 11) (Operand.const (Value.int IntKind.i64 1)) 3, none⟩, []⟩,
  ⟨⟨some 6, Op.assign (Operand.tmp 12), none⟩, []⟩])))))) (.seq (.reg [⟨⟨some 31, Op.move (Operand.tmp 5), none⟩, []⟩,
  ⟨⟨some 4, Op.assign (Operand.tmp 31), none⟩, []⟩]) .ret))))
theorem sl86 : slim Tryz.f86.ntmps ords86 (Tryz.f86.body.getD .skip) = some cd86 := by kernel_rfl
theorem in86 {args : List Value} {H : AH} {R : Value → AH → Prop} (hl : args.length = 2) (h : ∀ (Q : Exit → Sl → AH → Prop), (∀ e s H, endA Tryz.prog [ResultVar.tmp 4] R e s H → Q e s H) → wpC Tryz.prog cd86 Q (enterA args) H) : ACalls Tryz.prog 86 args H R :=
  ACalls.intro (by kernel_rfl) Tryz.func86 rfl (by kernel_rfl) sl86 hl (of_decide_eq_true (by kernel_rfl)) (by kernel_rfl) h
def ords85 : List (Nat × List (Nat × Bool)) := []
def cd85 : Cd := (.seq (.reg [⟨⟨some 4, Op.assign (Operand.const (Value.int IntKind.i64 0)), none⟩, []⟩]) (.seq (.reg [⟨⟨some 5, Op.assign (Operand.const (Value.int IntKind.i64 0)), none⟩, []⟩]) (.seq (.seq (.reg [⟨⟨some 8, Op.move (Operand.tmp 0), none⟩, []⟩,
  ⟨⟨some 9, Op.call { callee := (Callee.builtin Builtin.len), args := #[(Operand.tmp 8)], argTypes := #[34] }, none⟩, []⟩,
  ⟨⟨some 10, Op.move (Operand.const (Value.int IntKind.i64 0)), none⟩, []⟩]) (.block 0 (.loop (.seq (.reg [⟨⟨some 11, Op.binOp BinOp.lss 3 (Operand.tmp 10) (Operand.tmp 9) 3, none⟩, []⟩]) (.seq (.cond (Operand.tmp 11) .skip (.exit 0)) (.seq (.block 1 (.seq (.reg [⟨⟨some 12, Op.indexAddr 34 (Operand.tmp 8) (Operand.tmp 10), none⟩, []⟩,
  ⟨⟨some 13, Op.load 3 (Operand.tmp 12), none⟩, []⟩,
  ⟨⟨some 7, Op.assign (Operand.tmp 13), none⟩, []⟩]) (.seq (.reg [⟨⟨some 14, Op.move (Operand.tmp 7), none⟩, []⟩,
  ⟨⟨some 15, Op.move (Operand.tmp 1), none⟩, []⟩,
  ⟨⟨some 16, Op.call { callee := (Callee.value (Operand.func 101)), args := #[(Operand.tmp 14), (Operand.tmp 15)], argTypes := #[3, 3] }, none⟩, []⟩]) (.cond (Operand.tmp 16) (.reg [⟨⟨some 17, Op.move (Operand.tmp 5), none⟩, []⟩,
  ⟨⟨some 18, Op.binOp BinOp.add 3 (Operand.tmp 17) (Operand.const (Value.int IntKind.i64 1)) 3, none⟩, []⟩,
  ⟨⟨some 5, Op.assign (Operand.tmp 18), none⟩, []⟩]) .skip)))) (.reg [⟨⟨some 19, Op.binOp BinOp.add 3 (Operand.tmp 10) (Operand.const (Value.int IntKind.i64 1)) 3, none⟩, []⟩,
  ⟨⟨some 10, Op.move (Operand.tmp 19), none⟩, []⟩]))))))) (.seq (.reg [⟨⟨some 20, Op.move (Operand.tmp 5), none⟩, []⟩,
  ⟨⟨some 4, Op.assign (Operand.tmp 20), none⟩, []⟩]) .ret))))
theorem sl85 : slim Tryz.f85.ntmps ords85 (Tryz.f85.body.getD .skip) = some cd85 := by kernel_rfl
theorem in85 {args : List Value} {H : AH} {R : Value → AH → Prop} (hl : args.length = 2) (h : ∀ (Q : Exit → Sl → AH → Prop), (∀ e s H, endA Tryz.prog [ResultVar.tmp 4] R e s H → Q e s H) → wpC Tryz.prog cd85 Q (enterA args) H) : ACalls Tryz.prog 85 args H R :=
  ACalls.intro (by kernel_rfl) Tryz.func85 rfl (by kernel_rfl) sl85 hl (of_decide_eq_true (by kernel_rfl)) (by kernel_rfl) h
end Go.Proofs.YtdgapefbbdfpbaaGreat.Ai
namespace Go.Proofs.YtdgapefbbdfpbaaGreat.Ai
open Go Go.RowKit
set_option linter.unusedVariables false
set_option linter.unusedSimpArgs false
/-- a diagonal is at a corner -/
def At (d c : Int) : Prop := d.tdiv 10 = c ∨ d.tmod 10 = c
instance (d c : Int) : Decidable (At d c) := inferInstanceAs (Decidable (_ ∨ _))
theorem isAt_c (d c : Int) (H : AH) (hd : I64 d) : ACalls Tryz.prog 101 [.int .i64 d, .int .i64 c] H fun r H' => r = .bool (decide (At d c)) ∧ H = H' := by
  refine in101 rfl ?_
  intro Q hQ
  simp (maxSteps := 1000000) (disch := omega) only [cd101, hd.tdiv, S, S1, S2, S3, S4, S5, ST, eq_self, reduceIte, reduceCtorEq, Nat.reduceEqDiff, Nat.reduceAdd]
  repeat' (first | (refine brD.intro (fun h => ?_) (fun h => ?_) <;> simp (maxSteps := 1000000) (disch := omega) only [h, S, S1, S2, S3, S4, S5, ST, eq_self, reduceIte, reduceCtorEq, Nat.reduceEqDiff, Nat.reduceAdd]) | (refine hQ _ _ _ ?_; simp (maxSteps := 1000000) (disch := omega) only [S, S1, S2, S3, S4, S5, ST, eq_self, reduceIte, reduceCtorEq, Nat.reduceEqDiff, Nat.reduceAdd]))
  all_goals (by_cases hC : At d c <;> simp [hC] <;> unfold At at hC <;> simp_all)
/-- how many of a list are at a corner -/
def atN (xs : List Int) (c : Int) : Nat := (xs.filter fun d => decide (At d c)).length
theorem atN_step (xs : List Int) (c : Int) (k : Nat) (hk : k < xs.length) : atN (xs.take (k + 1)) c = atN (xs.take k) c + if At (xs.getD k 0) c then 1 else 0 := by
  unfold atN
  rw [List.take_add_one, List.getElem?_eq_getElem hk, List.filter_append, List.length_append]
  have : xs.getD k 0 = xs[k] := by simp [hk]
  rw [this]
  by_cases h : At xs[k] c <;> simp [h]
theorem atN_le (xs : List Int) (c : Int) : atN xs c ≤ xs.length := List.length_filter_le _ _
set_option maxHeartbeats 1000000 in
theorem l8At_c (v : Value) (xs : List Int) (c : Int) (H : AH) (hr : Row 3 H v xs) (hlen : xs.length ≤ 1099511627776) (hxs : ∀ y ∈ xs, I64 y) :
    ACalls Tryz.prog 86 [v, .int .i64 c] H fun r H' => r = .int .i64 (atN xs c : Nat) ∧ H = H' := by
  refine in86 rfl ?_
  intro Q hQ
  simp (maxSteps := 1000000) (disch := omega) only [cd86, S, S1, S2, S3, S4, S5, ST, eq_self, reduceIte, reduceCtorEq, Nat.reduceEqDiff, Nat.reduceAdd]
  refine LoopH.by (fun m s H' => ∃ i, m + i = xs.length ∧ s 0 = v ∧ s 1 = .int .i64 c ∧ s 6 = .int .i64 ((i : Nat) : Int) ∧ s 5 = .int .i64 ((atN (xs.take i) c : Nat) : Int) ∧ H = H') xs.length ?_ ?_
  · exact ⟨0, by simp, rfl, rfl, by simp [S, S1, S2, S3, S4, S5, ST, eq_self, reduceIte, reduceCtorEq, Nat.reduceEqDiff, Nat.reduceAdd], by simp [S, S1, S2, S3, S4, S5, ST, eq_self, reduceIte, reduceCtorEq, Nat.reduceEqDiff, Nat.reduceAdd, atN], rfl⟩
  · rintro m s H' ⟨i, hm, h0, h1, h6, h5, rfl⟩
    simp (maxSteps := 1000000) (disch := omega) only [h0, h1, h6, h5, hr.len Tryz.underlying34, S, S1, S2, S3, S4, S5, ST, eq_self, reduceIte, reduceCtorEq, Nat.reduceEqDiff, Nat.reduceAdd]
    refine brD.intro (fun g => ?_) (fun g => ?_)
    · have hi : i < xs.length := by omega
      have hx : xs.getD i 0 = xs[i] := by simp [hi]
      have hd : I64 (xs.getD i 0) := by rw [hx]; exact hxs _ (List.getElem_mem hi)
      have st := atN_step xs c i hi
      have b0 := atN_le (xs.take i) c
      have b1 : (xs.take i).length ≤ i := by simp; omega
      simp (maxSteps := 1000000) (disch := omega) only [h0, h1, h6, h5, hr.ix Tryz.underlying34 cs3, hr.cell, Int.toNat_natCast, hd.tdiv, wrap64, S, S1, S2, S3, S4, S5, ST, eq_self, reduceIte, reduceCtorEq, Nat.reduceEqDiff, Nat.reduceAdd]
      refine brD.intro (fun e => ?_) (fun e => ?_) <;> simp (maxSteps := 1000000) (disch := omega) only [e, h0, h1, h6, h5, hr.ix Tryz.underlying34 cs3, hr.cell, Int.toNat_natCast, hd.tdiv, wrap64, S, S1, S2, S3, S4, S5, ST, eq_self, reduceIte, reduceCtorEq, Nat.reduceEqDiff, Nat.reduceAdd]
      · rw [if_pos (.inl e)] at st
        refine ⟨m - 1, by omega, i + 1, by omega, ?_⟩
        (repeat' apply And.intro) <;> first | rfl | trivial | assumption | omega | (simp only [Value.int.injEq, true_and]; omega) | (simp; done) | (simp; omega)
      · refine brD.intro (fun e2 => ?_) (fun e2 => ?_) <;> simp (maxSteps := 1000000) (disch := omega) only [e, e2, h0, h1, h6, h5, wrap64, S, S1, S2, S3, S4, S5, ST, eq_self, reduceIte, reduceCtorEq, Nat.reduceEqDiff, Nat.reduceAdd]
        · rw [if_pos (.inr e2)] at st
          refine ⟨m - 1, by omega, i + 1, by omega, ?_⟩
          (repeat' apply And.intro) <;> first | rfl | trivial | assumption | omega | (simp only [Value.int.injEq, true_and]; omega) | (simp; done) | (simp; omega)
        · rw [if_neg (fun hh => hh.elim e e2)] at st
          refine ⟨m - 1, by omega, i + 1, by omega, ?_⟩
          (repeat' apply And.intro) <;> first | rfl | trivial | assumption | omega | (simp only [Value.int.injEq, true_and]; omega) | (simp; done) | (simp; omega)
    · simp (maxSteps := 1000000) (disch := omega) only [h5, S, S1, S2, S3, S4, S5, ST, eq_self, reduceIte, reduceCtorEq, Nat.reduceEqDiff, Nat.reduceAdd]
      refine hQ _ _ _ ?_
      simp (maxSteps := 1000000) (disch := omega) only [h5, S, S1, S2, S3, S4, S5, ST, eq_self, reduceIte, reduceCtorEq, Nat.reduceEqDiff, Nat.reduceAdd]
      rw [List.take_of_length_le (by omega)]
set_option maxHeartbeats 1000000 in
theorem at_c (v : Value) (xs : List Int) (c : Int) (H : AH) (hr : Row 3 H v xs) (hlen : xs.length ≤ 1099511627776) (hxs : ∀ y ∈ xs, I64 y) :
    ACalls Tryz.prog 85 [v, .int .i64 c] H fun r H' => r = .int .i64 (atN xs c : Nat) ∧ H = H' := by
  refine in85 rfl ?_
  intro Q hQ
  simp (maxSteps := 1000000) (disch := omega) only [cd85, hr.len Tryz.underlying34, S, S1, S2, S3, S4, S5, ST, eq_self, reduceIte, reduceCtorEq, Nat.reduceEqDiff, Nat.reduceAdd]
  refine LoopH.by (fun m s H' => ∃ i, m + i = xs.length ∧ s 1 = .int .i64 c ∧ s 8 = v ∧ s 9 = .int .i64 (xs.length : Int) ∧ s 10 = .int .i64 ((i : Nat) : Int) ∧ s 5 = .int .i64 ((atN (xs.take i) c : Nat) : Int) ∧ H = H') xs.length ?_ ?_
  · exact ⟨0, by simp, rfl, rfl, rfl, rfl, by simp [S, S1, S2, S3, S4, S5, ST, eq_self, reduceIte, reduceCtorEq, Nat.reduceEqDiff, Nat.reduceAdd, atN], rfl⟩
  · rintro m s H' ⟨i, hm, h1, hl, hn, hi', h5, rfl⟩
    simp (maxSteps := 1000000) (disch := omega) only [h1, hl, hn, hi', h5, S, S1, S2, S3, S4, S5, ST, eq_self, reduceIte, reduceCtorEq, Nat.reduceEqDiff, Nat.reduceAdd]
    refine brD.intro (fun g => ?_) (fun g => ?_)
    · have hi : i < xs.length := by omega
      have hx : xs.getD i 0 = xs[i] := by simp [hi]
      have hd : I64 (xs.getD i 0) := by rw [hx]; exact hxs _ (List.getElem_mem hi)
      have st := atN_step xs c i hi
      have b0 := atN_le (xs.take i) c
      have b1 : (xs.take i).length ≤ i := by simp; omega
      simp (maxSteps := 1000000) (disch := omega) only [h1, hl, hn, hi', h5, hr.ix Tryz.underlying34 cs3, hr.cell, Int.toNat_natCast, S, S1, S2, S3, S4, S5, ST, eq_self, reduceIte, reduceCtorEq, Nat.reduceEqDiff, Nat.reduceAdd]
      refine CallH.by (isAt_c _ c _ hd) ?_
      rintro _ _ ⟨rfl, rfl⟩
      simp (maxSteps := 1000000) (disch := omega) only [S, S1, S2, S3, S4, S5, ST, eq_self, reduceIte, reduceCtorEq, Nat.reduceEqDiff, Nat.reduceAdd]
      refine brD.intro (fun e => ?_) (fun e => ?_) <;> simp (maxSteps := 1000000) (disch := omega) only [h1, hl, hn, hi', h5, wrap64, S, S1, S2, S3, S4, S5, ST, eq_self, reduceIte, reduceCtorEq, Nat.reduceEqDiff, Nat.reduceAdd]
      · rw [if_pos e] at st
        refine ⟨m - 1, by omega, i + 1, by omega, ?_⟩
        (repeat' apply And.intro) <;> first | rfl | trivial | assumption | omega | (simp only [Value.int.injEq, true_and]; omega) | (simp; done) | (simp; omega)
      · rw [if_neg e] at st
        refine ⟨m - 1, by omega, i + 1, by omega, ?_⟩
        (repeat' apply And.intro) <;> first | rfl | trivial | assumption | omega | (simp only [Value.int.injEq, true_and]; omega) | (simp; done) | (simp; omega)
    · simp (maxSteps := 1000000) (disch := omega) only [h5, S, S1, S2, S3, S4, S5, ST, eq_self, reduceIte, reduceCtorEq, Nat.reduceEqDiff, Nat.reduceAdd]
      refine hQ _ _ _ ?_
      simp (maxSteps := 1000000) (disch := omega) only [h5, S, S1, S2, S3, S4, S5, ST, eq_self, reduceIte, reduceCtorEq, Nat.reduceEqDiff, Nat.reduceAdd]
      rw [List.take_of_length_le (by omega)]
def Tri1 (n : Int) (xs : List Int) : Prop := (3 ≤ n ∧ n ≤ 8) ∧ triS n xs = true
instance (n : Int) (xs : List Int) : Decidable (Tri1 n xs) := inferInstanceAs (Decidable (_ ∧ _))
def Tri2 (n : Int) (xs ys : List Int) : Prop := (3 ≤ n ∧ n ≤ 8) ∧ triS n xs = true ∧ triS n ys = true
instance (n : Int) (xs ys : List Int) : Decidable (Tri2 n xs ys) := inferInstanceAs (Decidable (_ ∧ _))
theorem tri1_S (n : Int) (xs : List Int) : (decide (3 ≤ n ∧ n ≤ 8) && triS n xs) = decide (Tri1 n xs) := by
  unfold Tri1
  by_cases h : 3 ≤ n ∧ n ≤ 8 <;> simp [h]
theorem tri1_I (n : Int) (xs : List Int) : (decide (3 ≤ n ∧ n ≤ 8) && [xs].all (triI n)) = decide (Tri1 n xs) := by
  unfold Tri1
  by_cases h : 3 ≤ n ∧ n ≤ 8
  · have := tri_same n xs h
    simp [h, this]
  · simp [h]
theorem Tri1.len {n : Int} {xs : List Int} (h : Tri1 n xs) : (xs.length : Int) = n - 3 := by
  have h := h.2
  unfold triS at h
  simp only [Bool.and_eq_true, decide_eq_true_eq] at h
  exact h.2
theorem Tri2.a {n : Int} {xs ys : List Int} (h : Tri2 n xs ys) : Tri1 n xs := ⟨h.1, h.2.1⟩
theorem Tri2.b {n : Int} {xs ys : List Int} (h : Tri2 n xs ys) : Tri1 n ys := ⟨h.1, h.2.2⟩
theorem Tri1.mem {n : Int} {xs : List Int} (h : Tri1 n xs) {d : Int} (hd : d ∈ xs) : d ∈ dgs n n.toNat := by
  have h := h.2
  unfold triS triOkS at h
  simp only [Bool.and_eq_true, List.all_eq_true, decide_eq_true_eq] at h
  obtain ⟨i, hi, e⟩ := List.getElem_of_mem hd
  have := (h.1 i (List.mem_range.2 hi)).1.1
  rw [List.getD_eq_getElem?_getD, List.getElem?_eq_getElem hi, Option.getD_some, e] at this
  exact this
theorem valid_c (n : Int) (v : Value) (xs : List Int) (H : AH) (hr : Row 3 H v xs) (hlen : xs.length ≤ 1099511627776) (hxs : ∀ y ∈ xs, I64 y) :
    ACalls Tryz.prog 78 [.int .i64 n, v] H fun r H' => r = .bool (decide (Tri1 n xs)) ∧ H <+: H' := by
  refine (l8Valid_c n v xs H hr hlen hxs).mono ?_
  rintro r H' ⟨rfl, hp⟩
  exact ⟨by rw [tri1_S], hp⟩
theorem are1_c (n : Int) (v : Value) (xs : List Int) (o : Nat) (H H0 : AH) (hh : H = H0 ++ [.cells [v] 34 false]) (ho : o = H0.length) (hr : Row 3 H0 v xs) (hlen : xs.length ≤ 1099511627776) (hxs : ∀ y ∈ xs, I64 y) :
    ACalls Tryz.prog 70 [.int .i64 n, .slice (some ⟨o, 0, none⟩) 1 1] H fun r H' => r = .bool (decide (Tri1 n xs)) ∧ H <+: H' := by
  subst hh ho
  refine (areTri_c n _ [v] [xs] _ (RowV.new 34 H0 [v]) (by simp) rfl ?_).mono ?_
  · intro i hi
    match i, hi with
    | 0, _ => exact ⟨hr.pre (List.prefix_append _ _), hlen, hxs⟩
  · rintro r H' ⟨rfl, hp⟩
    exact ⟨by rw [tri1_I], hp⟩
end Go.Proofs.YtdgapefbbdfpbaaGreat.Ai
namespace Go.Proofs.YtdgapefbbdfpbaaGreat.Ai
open Go
def ords136 : List (Nat × List (Nat × Bool)) := []
def cd136 : Cd := (.seq (.reg [⟨⟨some 4, Op.assign (Operand.const (Value.int IntKind.i64 0)), none⟩, []⟩]) (.seq (.seq (.reg [⟨⟨some 6, Op.move (Operand.tmp 0), none⟩, []⟩,
  ⟨⟨some 7, Op.call { callee := (Callee.builtin Builtin.len), args := #[(Operand.tmp 6)], argTypes := #[34] }, none⟩, []⟩,
  ⟨⟨some 8, Op.move (Operand.const (Value.int IntKind.i64 0)), none⟩, []⟩]) (.block 0 (.loop (.seq (.reg [⟨⟨some 9, Op.binOp BinOp.lss 3 (Operand.tmp 8) (Operand.tmp 7) 3, none⟩, []⟩]) (.seq (.cond (Operand.tmp 9) .skip (.exit 0)) (.seq (.block 1 (.seq (.reg [⟨⟨some 10, Op.move (Operand.tmp 8), none⟩, []⟩,
  ⟨⟨some 5, Op.assign (Operand.tmp 10), none⟩, []⟩]) (.seq (.reg [⟨⟨some 11, Op.move (Operand.tmp 1), none⟩, []⟩,
  ⟨⟨some 12, Op.move (Operand.tmp 0), none⟩, []⟩,
  ⟨⟨some 13, Op.move (Operand.tmp 5), none⟩, []⟩,
  ⟨⟨some 14, Op.indexAddr 34 (Operand.tmp 12) (Operand.tmp 13), none⟩, []⟩,
  ⟨⟨some 15, Op.load 3 (Operand.tmp 14), none⟩, []⟩,
  ⟨⟨some 16, Op.binOp BinOp.eql 3 (Operand.tmp 11) (Operand.tmp 15) 3, none⟩, []⟩]) (.cond (Operand.tmp 16) (.seq (.reg [⟨⟨some 17, Op.move (Operand.tmp 5), none⟩, []⟩,
  ⟨⟨some 4, Op.assign (Operand.tmp 17), none⟩, []⟩]) .ret) .skip)))) (.reg [⟨⟨some 18, Op.binOp BinOp.add 3 (Operand.tmp 8) (Operand.const (Value.int IntKind.i64 1)) 3, none⟩, []⟩,
  ⟨⟨some 8, Op.move (Operand.tmp 18), none⟩, []⟩]))))))) (.seq (.reg [⟨⟨some 4, Op.assign (Operand.const (Value.int IntKind.i64 (-1))), none⟩, []⟩]) .ret)))
theorem sl136 : slim Tryz.f136.ntmps ords136 (Tryz.f136.body.getD .skip) = some cd136 := by kernel_rfl
theorem in136 {args : List Value} {H : AH} {R : Value → AH → Prop} (hl : args.length = 2) (h : ∀ (Q : Exit → Sl → AH → Prop), (∀ e s H, endA Tryz.prog [ResultVar.tmp 4] R e s H → Q e s H) → wpC Tryz.prog cd136 Q (enterA args) H) : ACalls Tryz.prog 136 args H R :=
  ACalls.intro (by kernel_rfl) Tryz.func136 rfl (by kernel_rfl) sl136 hl (of_decide_eq_true (by kernel_rfl)) (by kernel_rfl) h
def ords71 : List (Nat × List (Nat × Bool)) := []
def cd71 : Cd := (.seq (.reg [⟨⟨some 4, Op.assign (Operand.const (Value.bool false)), none⟩, []⟩]) (.seq (.reg [⟨⟨some 5, Op.move (Operand.tmp 0), none⟩, []⟩,
  ⟨⟨some 6, Op.move (Operand.tmp 1), none⟩, []⟩,
  ⟨⟨some 7, Op.call { callee := (Callee.value (Operand.func 136)), args := #[(Operand.tmp 5), (Operand.tmp 6)], argTypes := #[34, 3] }, none⟩, []⟩,
  ⟨⟨some 8, Op.binOp BinOp.geq 3 (Operand.tmp 7) (Operand.const (Value.int IntKind.i64 0)) 3, none⟩, []⟩,
  ⟨⟨some 4, Op.assign (Operand.tmp 8), none⟩, []⟩]) .ret))
theorem sl71 : slim Tryz.f71.ntmps ords71 (Tryz.f71.body.getD .skip) = some cd71 := by kernel_rfl
theorem in71 {args : List Value} {H : AH} {R : Value → AH → Prop} (hl : args.length = 2) (h : ∀ (Q : Exit → Sl → AH → Prop), (∀ e s H, endA Tryz.prog [ResultVar.tmp 4] R e s H → Q e s H) → wpC Tryz.prog cd71 Q (enterA args) H) : ACalls Tryz.prog 71 args H R :=
  ACalls.intro (by kernel_rfl) Tryz.func71 rfl (by kernel_rfl) sl71 hl (of_decide_eq_true (by kernel_rfl)) (by kernel_rfl) h
end Go.Proofs.YtdgapefbbdfpbaaGreat.Ai
namespace Go.Proofs.YtdgapefbbdfpbaaGreat.Ai
open Go Go.RowKit
set_option linter.unusedVariables false
set_option linter.unusedSimpArgs false
/-- the place of a number, or -1 -/
theorem Index_c (v : Value) (xs : List Int) (x : Int) (H : AH) (hr : Row 3 H v xs) (hlen : xs.length ≤ 1099511627776) :
    ACalls Tryz.prog 136 [v, .int .i64 x] H fun r H' => r = .int .i64 (idxP (fun y => decide (x = y)) xs 0) ∧ H = H' := by
  refine in136 rfl ?_
  intro Q hQ
  simp (maxSteps := 1000000) (disch := omega) only [cd136, hr.len Tryz.underlying34, S, S1, S2, S3, S4, S5, ST, eq_self, reduceIte, reduceCtorEq, Nat.reduceEqDiff, Nat.reduceAdd]
  refine LoopH.by (fun m s H' => ∃ i, m + i = xs.length ∧ s 0 = v ∧ s 1 = .int .i64 x ∧ s 7 = .int .i64 (xs.length : Int) ∧ s 8 = .int .i64 ((i : Nat) : Int) ∧ H = H' ∧ idxP (fun y => decide (x = y)) xs 0 = idxP (fun y => decide (x = y)) (xs.drop i) i) xs.length ?_ ?_
  · exact ⟨0, by simp, rfl, rfl, rfl, rfl, rfl, by simp⟩
  · rintro m s H' ⟨i, hm, h0, h1, h7, h8, rfl, hn⟩
    simp (maxSteps := 1000000) (disch := omega) only [h0, h1, h7, h8, S, S1, S2, S3, S4, S5, ST, eq_self, reduceIte, reduceCtorEq, Nat.reduceEqDiff, Nat.reduceAdd]
    refine brD.intro (fun g => ?_) (fun g => ?_) <;> simp (maxSteps := 1000000) (disch := omega) only [h0, h1, h8, h7, hr.ix Tryz.underlying34 cs3, hr.cell, Int.toNat_natCast, S, S1, S2, S3, S4, S5, ST, eq_self, reduceIte, reduceCtorEq, Nat.reduceEqDiff, Nat.reduceAdd]
    · have hi : i < xs.length := by omega
      rw [idxP_step _ xs i hi] at hn
      refine brD.intro (fun e => ?_) (fun e => ?_) <;> simp (maxSteps := 1000000) (disch := omega) only [h0, h1, h7, h8, wrap64, S, S1, S2, S3, S4, S5, ST, eq_self, reduceIte, reduceCtorEq, Nat.reduceEqDiff, Nat.reduceAdd]
      · refine hQ _ _ _ ?_
        simp (maxSteps := 1000000) (disch := omega) only [S, S1, S2, S3, S4, S5, ST, eq_self, reduceIte, reduceCtorEq, Nat.reduceEqDiff, Nat.reduceAdd]
        rw [hn, if_pos (by simpa using e)]
      · rw [if_neg (by simpa using e)] at hn
        refine ⟨m - 1, by omega, i + 1, by omega, ?_⟩
        (repeat' apply And.intro) <;> first | exact hn | (simp only [Value.int.injEq, true_and]; omega) | omega | rfl | assumption | (simp; done) | (simp; omega)
    · refine hQ _ _ _ ?_
      simp (maxSteps := 1000000) (disch := omega) only [S, S1, S2, S3, S4, S5, ST, eq_self, reduceIte, reduceCtorEq, Nat.reduceEqDiff, Nat.reduceAdd]
      rw [hn, List.drop_of_length_le (by omega)]; rfl
theorem Contains_c (v : Value) (xs : List Int) (x : Int) (H : AH) (hr : Row 3 H v xs) (hlen : xs.length ≤ 1099511627776) :
    ACalls Tryz.prog 71 [v, .int .i64 x] H fun r H' => r = .bool (decide (x ∈ xs)) ∧ H = H' := by
  refine in71 rfl ?_
  intro Q hQ
  simp (maxSteps := 1000000) (disch := omega) only [cd71, S, S1, S2, S3, S4, S5, ST, eq_self, reduceIte, reduceCtorEq, Nat.reduceEqDiff, Nat.reduceAdd]
  refine CallH.by (Index_c v xs x H hr hlen) ?_
  rintro _ _ ⟨rfl, rfl⟩
  simp (maxSteps := 1000000) (disch := omega) only [S, S1, S2, S3, S4, S5, ST, eq_self, reduceIte, reduceCtorEq, Nat.reduceEqDiff, Nat.reduceAdd]
  refine hQ _ _ _ ?_
  simp (maxSteps := 1000000) (disch := omega) only [S, S1, S2, S3, S4, S5, ST, eq_self, reduceIte, reduceCtorEq, Nat.reduceEqDiff, Nat.reduceAdd]
  have h1 := idxP_any (fun y => decide (x = y)) xs 0
  have h2 : xs.any (fun y => decide (x = y)) = true ↔ x ∈ xs := by simp
  have : (0 ≤ idxP (fun y => decide (x = y)) xs 0) ↔ x ∈ xs := h1.trans h2
  simp only [this]
end Go.Proofs.YtdgapefbbdfpbaaGreat.Ai
namespace Go.Proofs.YtdgapefbbdfpbaaGreat.Ai
open Go
def ords72 : List (Nat × List (Nat × Bool)) := []
def cd72 : Cd := (.seq (.reg [⟨⟨some 4, Op.assign (Operand.const (Value.slice none 0 0)), none⟩, []⟩]) (.seq (.reg [⟨⟨some 8, Op.buildSlice 34 0 #[], none⟩, []⟩,
  ⟨⟨some 5, Op.assign (Operand.tmp 8), none⟩, []⟩]) (.seq (.seq (.reg [⟨⟨some 9, Op.move (Operand.tmp 0), none⟩, []⟩,
  ⟨⟨some 10, Op.call { callee := (Callee.builtin Builtin.len), args := #[(Operand.tmp 9)], argTypes := #[34] }, none⟩, []⟩,
  ⟨⟨some 11, Op.move (Operand.const (Value.int IntKind.i64 0)), none⟩, []⟩]) (.block 0 (.loop (.seq (.reg [⟨⟨some 12, Op.binOp BinOp.lss 3 (Operand.tmp 11) (Operand.tmp 10) 3, none⟩, []⟩]) (.seq (.cond (Operand.tmp 12) .skip (.exit 0)) (.seq (.block 1 (.seq (.reg [⟨⟨some 13, Op.indexAddr 34 (Operand.tmp 9) (Operand.tmp 11), none⟩, []⟩,
  ⟨⟨some 14, Op.load 3 (Operand.tmp 13), none⟩, []⟩,
  ⟨⟨some 7, Op.assign (Operand.tmp 14), none⟩, []⟩]) (.seq (.reg [⟨⟨some 15, Op.move (Operand.tmp 1), none⟩, []⟩,
  ⟨⟨some 16, Op.move (Operand.tmp 7), none⟩, []⟩,
  ⟨⟨some 17, Op.call { callee := (Callee.value (Operand.func 71)), args := #[(Operand.tmp 15), (Operand.tmp 16)], argTypes := #[34, 3] }, none⟩, []⟩,
  ⟨⟨some 18, Op.unOp UnOp.not 4 (Operand.tmp 17), none⟩, []⟩]) (.cond (Operand.tmp 18) (.reg [⟨⟨some 19, Op.move (Operand.tmp 5), none⟩, []⟩,
  ⟨⟨some 20, Op.move (Operand.tmp 7), none⟩, []⟩,
  ⟨⟨some 21, Op.buildSlice 34 1 #[(0, (Operand.tmp 20))], none⟩, []⟩,
  ⟨⟨some 22, Op.call { callee := (Callee.builtin Builtin.append), args := #[(Operand.tmp 19), (Operand.tmp 21)], argTypes := #[34, 34] }, none⟩, []⟩,
  ⟨⟨some 5, Op.assign (Operand.tmp 22), none⟩, []⟩]) .skip)))) (.reg [⟨⟨some 23, Op.binOp BinOp.add 3 (Operand.tmp 11) (Operand.const (Value.int IntKind.i64 1)) 3, none⟩, []⟩,
  ⟨⟨some 11, Op.move (Operand.tmp 23), none⟩, []⟩]))))))) (.seq (.reg [⟨⟨some 24, Op.move (Operand.tmp 5), none⟩, []⟩,
  ⟨⟨some 4, Op.assign (Operand.tmp 24), none⟩, []⟩]) .ret))))
theorem sl72 : slim Tryz.f72.ntmps ords72 (Tryz.f72.body.getD .skip) = some cd72 := by kernel_rfl
theorem in72 {args : List Value} {H : AH} {R : Value → AH → Prop} (hl : args.length = 2) (h : ∀ (Q : Exit → Sl → AH → Prop), (∀ e s H, endA Tryz.prog [ResultVar.tmp 4] R e s H → Q e s H) → wpC Tryz.prog cd72 Q (enterA args) H) : ACalls Tryz.prog 72 args H R :=
  ACalls.intro (by kernel_rfl) Tryz.func72 rfl (by kernel_rfl) sl72 hl (of_decide_eq_true (by kernel_rfl)) (by kernel_rfl) h
end Go.Proofs.YtdgapefbbdfpbaaGreat.Ai
namespace Go.Proofs.YtdgapefbbdfpbaaGreat.Ai
open Go Go.RowKit
set_option linter.unusedVariables false
set_option linter.unusedSimpArgs false
/-- what of a list another one does not have -/
def without (xs ys : List Int) : List Int := xs.filter fun x => decide (¬ x ∈ ys)
theorem without_step (xs ys : List Int) (i : Nat) (hi : i < xs.length) : without (xs.take (i + 1)) ys = without (xs.take i) ys ++ if xs.getD i 0 ∈ ys then [] else [xs.getD i 0] := by
  unfold without
  rw [List.take_add_one, List.getElem?_eq_getElem hi, List.filter_append]
  have hx : xs.getD i 0 = xs[i] := by simp [hi]
  rw [hx]
  by_cases h : xs[i] ∈ ys <;> simp [h]
theorem without_len (xs ys : List Int) : (without xs ys).length ≤ xs.length := List.length_filter_le _ _
set_option maxHeartbeats 1000000 in
theorem without_c (v w : Value) (xs ys : List Int) (H : AH) (hr : Row 3 H v xs) (hlen : xs.length ≤ 1099511627776) (hr2 : Row 3 H w ys) (hlen2 : ys.length ≤ 1099511627776) :
    ACalls Tryz.prog 72 [v, w] H fun r H' => Own 3 H H' r (without xs ys) ∧ H <+: H' := by
  refine in72 rfl ?_
  intro Q hQ
  have hp0 := List.prefix_append H [AObj.cells [] 3 false]
  have hown0 : Own 3 H (H ++ [AObj.cells [] 3 false]) (.slice (some ⟨H.length, 0, none⟩) 0 0) [] := .inr ⟨H.length, rfl, Nat.le_refl _, at_new ..⟩
  simp (maxSteps := 1000000) (disch := omega) only [cd72, hr.len Tryz.underlying34, S, S1, S2, S3, S4, S5, ST, eq_self, reduceIte, reduceCtorEq, Nat.reduceEqDiff, Nat.reduceAdd]
  refine LoopH.by (fun m s H' => ∃ i, m + i = xs.length ∧ s 1 = w ∧ s 9 = v ∧ s 10 = .int .i64 (xs.length : Int) ∧ s 11 = .int .i64 ((i : Nat) : Int) ∧ Own 3 H H' (s 5) (without (xs.take i) ys) ∧ H <+: H') xs.length ?_ ?_
  · refine ⟨0, by simp, rfl, rfl, rfl, rfl, ?_, hp0⟩
    simp (maxSteps := 1000000) (disch := omega) only [S, S1, S2, S3, S4, S5, ST, eq_self, reduceIte, reduceCtorEq, Nat.reduceEqDiff, Nat.reduceAdd]; exact hown0
  · rintro m s H' ⟨i, hm, h1, hl, hn, hi', hown, hpp⟩
    have hr' := hr.pre hpp
    have hr2' := hr2.pre hpp
    have wl := without_len (xs.take i) ys
    have wl2 : (xs.take i).length ≤ i := by simp; omega
    have st0 := fun hi => without_step xs ys i hi
    have we : xs.length ≤ i → without xs ys = without (xs.take i) ys := fun h => by rw [List.take_of_length_le h]
    generalize hW : without (xs.take i) ys = W at *
    generalize hw : s 5 = u at *
    simp (maxSteps := 1000000) (disch := omega) only [h1, hl, hn, hi', hw, S, S1, S2, S3, S4, S5, ST, eq_self, reduceIte, reduceCtorEq, Nat.reduceEqDiff, Nat.reduceAdd]
    refine brD.intro (fun g => ?_) (fun g => ?_) <;> simp (maxSteps := 1000000) (disch := omega) only [h1, hl, hn, hi', hw, hr'.ix Tryz.underlying34 cs3, hr'.cell, Int.toNat_natCast, S, S1, S2, S3, S4, S5, ST, eq_self, reduceIte, reduceCtorEq, Nat.reduceEqDiff, Nat.reduceAdd]
    · have hi : i < xs.length := by omega
      have st := st0 hi
      refine CallH.by (Contains_c w ys _ H' hr2' hlen2) ?_
      rintro _ _ ⟨rfl, rfl⟩
      simp (maxSteps := 1000000) (disch := omega) only [S, S1, S2, S3, S4, S5, ST, eq_self, reduceIte, reduceCtorEq, Nat.reduceEqDiff, Nat.reduceAdd]
      refine brD.intro (fun e => ?_) (fun e => ?_)
      · rw [if_pos e, List.append_nil] at st
        simp (maxSteps := 1000000) (disch := omega) only [h1, hl, hn, hi', hw, wrap64, S, S1, S2, S3, S4, S5, ST, eq_self, reduceIte, reduceCtorEq, Nat.reduceEqDiff, Nat.reduceAdd]
        refine ⟨m - 1, by omega, i + 1, by omega, ?_⟩
        rw [st]
        (repeat' apply And.intro) <;> first | (simp only [Value.int.injEq, true_and]; omega) | omega | rfl | assumption | (simp; done) | (simp; omega)
      · rw [if_neg e] at st
        obtain ⟨w', H2, k1, k2, k3, k4, k5, k6⟩ := own1_34 hown hpp (by omega) (xs.getD i 0)
        rw [← st] at k2
        simp (maxSteps := 1000000) (disch := omega) only [h1, hl, hn, hi', hw, k1, wrap64, S, S1, S2, S3, S4, S5, ST, eq_self, reduceIte, reduceCtorEq, Nat.reduceEqDiff, Nat.reduceAdd]
        refine ⟨m - 1, by omega, i + 1, by omega, ?_⟩
        (repeat' apply And.intro) <;> first | exact k2 | exact k3 | (simp only [Value.int.injEq, true_and]; omega) | omega | rfl | assumption | (simp; done) | (simp; omega)
    · refine hQ _ _ _ ?_
      simp (maxSteps := 1000000) (disch := omega) only [hw, hown.row.tup, S, S1, S2, S3, S4, S5, ST, eq_self, reduceIte, reduceCtorEq, Nat.reduceEqDiff, Nat.reduceAdd]
      rw [we (by omega)]
      exact ⟨hown, hpp⟩
end Go.Proofs.YtdgapefbbdfpbaaGreat.Ai
namespace Go.Proofs.YtdgapefbbdfpbaaGreat.Ai
open Go
def ords76 : List (Nat × List (Nat × Bool)) := []
def cd76 : Cd := (.seq (.reg [⟨⟨some 2, Op.assign (Operand.const (Value.slice none 0 0)), none⟩, []⟩]) (.seq (.seq (.reg [⟨⟨some 3, Op.move (Operand.tmp 0), none⟩, []⟩,
  ⟨⟨some 4, Op.binOp BinOp.eql 34 (Operand.tmp 3) (Operand.const (Value.slice none 0 0)) 34, none⟩, []⟩]) (.cond (Operand.tmp 4) (.seq (.reg [⟨⟨some 2, Op.assign (Operand.const (Value.slice none 0 0)), none⟩, []⟩]) .ret) .skip)) (.seq (.reg [⟨⟨some 5, Op.buildSlice 34 0 #[], none⟩, []⟩,
  ⟨⟨some 6, Op.move (Operand.tmp 0), none⟩, []⟩,
  ⟨⟨some 7, Op.call { callee := (Callee.builtin Builtin.append), args := #[(Operand.tmp 5), (Operand.tmp 6)], argTypes := #[34, 34] }, none⟩, []⟩,
  ⟨⟨some 2, Op.assign (Operand.tmp 7), none⟩, []⟩]) .ret)))
theorem sl76 : slim Tryz.f76.ntmps ords76 (Tryz.f76.body.getD .skip) = some cd76 := by kernel_rfl
theorem in76 {args : List Value} {H : AH} {R : Value → AH → Prop} (hl : args.length = 1) (h : ∀ (Q : Exit → Sl → AH → Prop), (∀ e s H, endA Tryz.prog [ResultVar.tmp 2] R e s H → Q e s H) → wpC Tryz.prog cd76 Q (enterA args) H) : ACalls Tryz.prog 76 args H R :=
  ACalls.intro (by kernel_rfl) Tryz.func76 rfl (by kernel_rfl) sl76 hl (of_decide_eq_true (by kernel_rfl)) (by kernel_rfl) h
end Go.Proofs.YtdgapefbbdfpbaaGreat.Ai
namespace Go.Proofs.YtdgapefbbdfpbaaGreat.Ai
open Go Go.RowKit
set_option linter.unusedVariables false
set_option linter.unusedSimpArgs false
set_option maxRecDepth 20000 in
theorem Clone_c (v : Value) (xs : List Int) (H : AH) (hr : Row 3 H v xs) (hlen : xs.length ≤ 1099511627776) : ACalls Tryz.prog 76 [v] H fun r H' => Own 3 H H' r xs ∧ H <+: H' := by
  refine in76 rfl ?_
  intro Q hQ
  obtain ⟨p, e⟩ := hr.shape
  subst e
  simp (maxSteps := 1000000) (disch := omega) only [cd76, S, S1, S2, S3, S4, S5, ST, eq_self, reduceIte, reduceCtorEq, Nat.reduceEqDiff, Nat.reduceAdd]
  refine brH.intro (fun g => ?_) (fun g => ?_) <;> simp (maxSteps := 1000000) (disch := omega) only [S, S1, S2, S3, S4, S5, ST, eq_self, reduceIte, reduceCtorEq, Nat.reduceEqDiff, Nat.reduceAdd]
  · refine hQ _ _ _ ?_
    simp (maxSteps := 1000000) (disch := omega) only [S, S1, S2, S3, S4, S5, ST, eq_self, reduceIte, reduceCtorEq, Nat.reduceEqDiff, Nat.reduceAdd]
    have : xs = [] := by
      rcases hr with h | ⟨o, k, vs, ro, h1, _⟩
      · exact h.2
      · cases p with
        | none => cases h1
        | some p => cases g
    exact ⟨.inl ⟨rfl, this⟩, List.prefix_refl _⟩
  · have hp := List.prefix_append H [AObj.cells [] 3 false]
    have ho : Own 3 H (H ++ [AObj.cells [] 3 false]) (.slice (some ⟨H.length, 0, none⟩) 0 0) [] := .inr ⟨H.length, rfl, Nat.le_refl _, at_new ..⟩
    obtain ⟨v', H2, k1, k2, k3, _⟩ := ho.app (P := Tryz.prog) (t := 34) Tryz.underlying34 cs3 (by rw [by3]; decide) zk3 (hr.pre hp) hp (by simp; omega)
    simp (maxSteps := 1000000) (disch := omega) only [k1, S, S1, S2, S3, S4, S5, ST, eq_self, reduceIte, reduceCtorEq, Nat.reduceEqDiff, Nat.reduceAdd]
    refine hQ _ _ _ ?_
    simp (maxSteps := 1000000) (disch := omega) only [k2.row.tup, S, S1, S2, S3, S4, S5, ST, eq_self, reduceIte, reduceCtorEq, Nat.reduceEqDiff, Nat.reduceAdd]
    exact ⟨k2, k3⟩
end Go.Proofs.YtdgapefbbdfpbaaGreat.Ai
namespace Go.Proofs.YtdgapefbbdfpbaaGreat.Ai
open Go Go.RowKit Go.Shelf
set_option linter.unusedVariables false
set_option linter.unusedSimpArgs false
attribute [local go_sem] Oper.semAt_some
/-- what has come when k rounds are over -/
def uptoF {α : Type} (f : Nat → α) (k : Nat) : List α := (List.range k).map f
theorem uptoF_succ {α : Type} (f : Nat → α) (k : Nat) : uptoF f (k + 1) = uptoF f k ++ [f k] := by simp [uptoF, List.range_succ]
theorem uptoF_length {α : Type} (f : Nat → α) (k : Nat) : (uptoF f k).length = k := by simp [uptoF]
theorem uptoF_all (zs : List Int) : uptoF (fun j => zs[j]?.getD 0) zs.length = zs := by
  apply List.ext_getElem
  · simp [uptoF]
  · intro i h1 h2
    simp [uptoF, h2]
theorem uptoF_take (zs : List Int) {k : Nat} (hk : k ≤ zs.length) : uptoF (fun j => zs[j]?.getD 0) k = zs.take k := by
  apply List.ext_getElem
  · simp [uptoF, hk]
  · intro i h1 h2
    have : i < zs.length := by simp [uptoF] at h1; omega
    simp [uptoF, this]
set_option maxRecDepth 100000 in
set_option maxHeartbeats 2000000 in
/-- the iterator of slices.Values, for every body of a loop that keeps what lay below n₀ -/
theorem values1_in (F : Fence) (n : Nat) (h7 : F.fn 139) (hro : F.round = none) (hn : 1 ≤ n) (l Bs kk n₀ b off len cap : Nat) (zs : List Int) (hreach : len * 8 ≤ 140737488351232) (hb : b < n₀) (J Jx : List Int → World → Prop)
    (hY : ∀ pre x W, J pre W → pre.length < len → YieldAt F (n - 1) Tryz.prog l #[.int .i64 x] W fun e W' =>
      (e = .returned (.bool true) ∧ J (pre ++ [x]) W' ∧ Below n₀ W W') ∨ (e = .returned (.bool false) ∧ Jx (pre ++ [x]) W'))
    (W : World) (hBs : W.cell? ⟨Bs, kk, none⟩ = some (.slice (some ⟨b, off, none⟩) len cap)) (hc : ∀ j, j < len → W.cell? ⟨b, off + j, none⟩ = some (.int .i64 (zs[j]?.getD 0))) (h0 : J [] W) :
    CallsIn F n Tryz.prog 139 #[.func (.yield l) #[] #[], .pointer (some ⟨Bs, kk, none⟩)] W fun e W' => (∃ v, e = .returned v) ∧
      ((∃ ys, ys = uptoF (fun j => zs[j]?.getD 0) len ∧ J ys W') ∨ (∃ pre, (∃ k, k ≤ len ∧ pre = uptoF (fun j => zs[j]?.getD 0) k) ∧ Jx pre W')) := by
  refine callsIn_of_wp Tryz.func139 rfl h7 ?_ hro
  simp only [Tryz.ntmps139, List.size_toArray, List.length_cons, List.length_nil, Nat.reduceAdd, Nat.reduceSub, Array.replicate_succ, Array.replicate_zero, List.push_toArray, List.append_toArray, List.nil_append, List.cons_append]
  gi_wp2
  gi_loopw [7] (fun i wr => ∃ k : Nat, k ≤ len ∧ i = .int .i64 k ∧ J (uptoF (fun j => zs[j]?.getD 0) k) wr ∧ Below n₀ W wr)
    (fun i _ => len - (intOf i).toNat)
  case atStart => exact ⟨0, Nat.zero_le _, rfl, h0, Below.refl _ _⟩
  case round =>
    obtain ⟨k, hk, rfl, hJs, hnx⟩ := hrel
    have hcx : k < len → wr.cell? ⟨b, off + k, none⟩ = some (.int .i64 (zs[k]?.getD 0)) := fun h => (hnx.cell (p := ⟨b, off + k, none⟩) hb).trans (hc k h)
    by_cases hlt : k < len
    · obtain ⟨fn, tmps, assign, body, hy, hR⟩ := hY _ (zs[k]?.getD 0) wr hJs (by rw [uptoF_length]; exact hlt)
      have hcx' := hcx hlt
      gi_wp2
      refine hR.mono ?_
      rintro e W3 (⟨rfl, hJ3, hk3⟩ | ⟨rfl, hJx3⟩)
      · gi_wp2
        go_roundw
        case rel => exact ⟨k + 1, by omega, by simp, by rw [uptoF_succ]; exact hJ3, hnx.trans hk3⟩
        case measure => simp [intOf]; omega
      · gi_wp2
        refine bodyPost_ret (results_none rfl _ _ _) rfl ?_
        exact ⟨⟨_, rfl⟩, .inr ⟨_, ⟨k + 1, by omega, (uptoF_succ _ _).symm⟩, hJx3⟩⟩
    · obtain rfl : k = len := by omega
      gi_wp2
      go_end0
      exact ⟨⟨_, rfl⟩, .inl ⟨_, rfl, hJs⟩⟩
/-- a slice value that holds ints, in a block below n₀; or it is nil -/
def SlInts (n₀ : Nat) (W : World) (sv : Value) (zs : List Int) : Prop :=
  (∃ a c, sv = .slice a 0 c ∧ zs = []) ∨ ∃ b off cap, sv = .slice (some ⟨b, off, none⟩) zs.length cap ∧ b < n₀ ∧ ∀ j, j < zs.length → W.cell? ⟨b, off + j, none⟩ = some (.int .i64 (zs[j]?.getD 0))
theorem SlInts.below {n₀ : Nat} {A B : World} (h : Below n₀ A B) {sv : Value} {zs : List Int} : SlInts n₀ A sv zs → SlInts n₀ B sv zs
  | .inl e => .inl e
  | .inr ⟨b, off, cap, e, hb, hc⟩ => .inr ⟨b, off, cap, e, hb, fun j hj => (h.cell (p := ⟨b, off + j, none⟩) hb).trans (hc j hj)⟩
set_option maxRecDepth 100000 in
set_option maxHeartbeats 1000000 in
theorem values1_nil_in (F : Fence) (n : Nat) (h7 : F.fn 139) (hro : F.round = none) (l Bs kk : Nat) (J : List Int → World → Prop) (W : World) (a0 : Option Addr) (c0 : Nat) (hBs : W.cell? ⟨Bs, kk, none⟩ = some (.slice a0 0 c0)) (h0 : J [] W) :
    CallsIn F n Tryz.prog 139 #[.func (.yield l) #[] #[], .pointer (some ⟨Bs, kk, none⟩)] W fun e W' => (∃ v, e = .returned v) ∧ J [] W' := by
  refine callsIn_of_wp Tryz.func139 rfl h7 ?_ hro
  simp only [Tryz.ntmps139, List.size_toArray, List.length_cons, List.length_nil, Nat.reduceAdd, Nat.reduceSub, Array.replicate_succ, Array.replicate_zero, List.push_toArray, List.append_toArray, List.nil_append, List.cons_append]
  gi_wp2
  gi_loopw [7] (fun i wr => i = .int .i64 0 ∧ J [] wr) (fun _ _ => 0)
  case atStart => exact ⟨rfl, h0⟩
  case round =>
    obtain ⟨rfl, hJs⟩ := hrel
    gi_wp2
    go_end0
    exact ⟨⟨_, rfl⟩, hJs⟩
theorem values_stops (F : Fence) (n : Nat) (h7 : F.fn 139) (hro : F.round = none) (hn : 1 ≤ n) (Bs kk n₀ : Nat) (sv : Value) (zs : List Int) (hreach : zs.length * 8 ≤ 140737488351232) (w : World) (hBs : Bs < w.heap.size) (hn₀ : n₀ ≤ w.heap.size)
    (hc : w.cell? ⟨Bs, kk, none⟩ = some sv) (hI : SlInts n₀ w sv zs) :
    SeqStopsK F n Tryz.prog 139 #[.pointer (some ⟨Bs, kk, none⟩)] (fun x : Int => #[Value.int .i64 x]) (Below n₀) (fun ys => ys = zs) (fun pre => pre <+: zs) zs.length w := fun l J Jx W hW _ _ hY h0 => by
  have hc' := (hW.cell (p := ⟨Bs, kk, none⟩) hBs).trans hc
  rcases hI.below (hW.mono hn₀) with ⟨a0, c0, rfl, rfl⟩ | ⟨b, off, cap, rfl, hb, hcs⟩
  · exact (values1_nil_in F n h7 hro l Bs kk J W a0 c0 hc' h0).mono fun e W' ⟨he, hj⟩ => ⟨he, .inl ⟨_, rfl, hj⟩⟩
  · refine (values1_in F n h7 hro hn l Bs kk n₀ b off zs.length cap zs hreach hb J Jx hY W hc' hcs h0).mono ?_
    rintro e W' ⟨he, ⟨ys, rfl, hj⟩ | ⟨pre, ⟨k, hk, rfl⟩, hj⟩⟩
    · exact ⟨he, .inl ⟨_, uptoF_all zs, hj⟩⟩
    · exact ⟨he, .inr ⟨_, by rw [uptoF_take zs hk]; exact List.take_prefix _ _, hj⟩⟩
theorem infoInt : (Tryz.prog.info? 3).map (fun i => (i.zero, i.size, i.bytes)) = some (some (.int .i64 0), 1, 8) := by kernel_rfl
set_option maxRecDepth 100000 in
set_option maxHeartbeats 2000000 in
/-- slices.AppendSeq(nil, seq) over it: a slice that owns just these ints, and nothing that lay before has turned -/
theorem appendSeq_in (F : Fence) (n : Nat) (h3 : F.fn 172) (h5 : F.fn 139) (hro : F.round = none) (hn : 3 ≤ n) (Bs kk : Nat) (sv : Value) (zs : List Int) (hlen : zs.length ≤ maxLen) (hbytes : zs.length * 8 ≤ 140737488351232) (w : World)
    (hBs : Bs < w.heap.size) (hcs : w.cell? ⟨Bs, kk, none⟩ = some sv) (hI : SlInts w.heap.size w sv zs) :
    CallsIn F n Tryz.prog 172 #[.slice none 0 0, .func (.func 139) #[] #[.pointer (some ⟨Bs, kk, none⟩)]] w fun e W' => ∃ v, e = .returned v ∧ W'.ownsRow w.heap.size 3 1 v zs.length (zs.map (Value.int .i64)) ∧ (v = .slice none 0 0 ↔ zs = []) ∧ Below w.heap.size w W' := by
  have h1 : 1 ≤ n := by omega
  obtain ⟨i0, hi, hz0, hz1, hz2⟩ := info_parts infoInt
  refine callsIn_of_wp_marks Tryz.func172 rfl h3 ?_ hro
  simp only [Tryz.ntmps172, List.size_toArray, List.length_cons, List.length_nil, Nat.reduceAdd, Nat.reduceSub, Array.replicate_succ, Array.replicate_zero, List.push_toArray, List.append_toArray, List.nil_append, List.cons_append]
  gi_wp2
  have bO := Boxed.new w 34 (.slice none 0 0)
  have hB0 : Below w.heap.size w (w.alloc (.cells #[.slice none 0 0] 34)) := (Below.refl _ w).alloc (Nat.le_refl _) _
  refine wpIn_rangeFunc_ownG hro h1 (gf := 139) (lb := #[.pointer (some ⟨Bs, kk, none⟩)]) rfl h5 (enters_of Tryz.func139 (by kernel_rfl) rfl)
    (values_stops F (n - 1) h5 hro (by omega) Bs kk w.heap.size sv zs hbytes (w.alloc (.cells #[.slice none 0 0] 34)) (by simp; omega) (by simp) ((hB0.cell (p := ⟨Bs, kk, none⟩) hBs).trans hcs) (hI.below hB0)) belowK_t (belowK_b (by simp)) (Below.refl _ _) (fun _ => rfl)
    (fun pre W => (∃ v, Boxed W w.heap.size 34 v ∧ W.ownsRow w.heap.size 3 1 v pre.length (pre.map (Value.int .i64)) ∧ (v = .slice none 0 0 ↔ pre = [])) ∧ Below w.heap.size w W)
    (fun _ _ _ => False)
    (OwnFrom.and (Own.from (holdsRow_own w.heap.size w.heap.size 34 3 1 (fun pre : List Int => pre.length) (fun pre => pre.map (Value.int .i64)) (fun pre v => v = .slice none 0 0 ↔ pre = [])) _) (ownFrom_below (Nat.le_refl _) (by simp)))
    (fun _ _ _ _ _ hs _ _ => hs)
    ⟨⟨_, bO, World.ownsRow_nil _ _ _ _, by simp⟩, hB0⟩
    (fun x => { tmps := #[.slice none 0 0, .func (.func 139) #[] #[.pointer (some ⟨Bs, kk, none⟩)], .pointer (some ⟨w.heap.size, 0, none⟩), undef, .slice none 0 0, .int .i64 x, .func (.func 139) #[] #[.pointer (some ⟨Bs, kk, none⟩)], .int .i64 x, undef, undef, undef, undef, undef], defers := [] }) ?assign ?body ?done ?stop
  case assign =>
    intro l x W K hK
    gi_wp2
    exact hK
  case body =>
    rintro l pre x W ⟨⟨v, hv, hrow, hnil⟩, hB⟩ hlt
    have hc := hv.cell
    gi_wp2_with (gi_at_builtin; refine wpListIn_append_own _ rfl _ _ 34 rfl w.heap.size 3 i0 (.int .i64 0) 1 8 Tryz.underlying34 hi hz0 hz1 hz2 rfl (by decide) _ _ _ rfl (hrow.alloc _) ⟨W.heap.size, 0, none⟩ 1 1 [.int .i64 x] rfl rfl (cell_one_new _ _ _) (by simp [Value.oneCell']) (by omega) (by omega) (by have := hB.size; simp; omega) ?_; intro v' w1 hown' hgrow _; obtain ⟨g', cap', rfl⟩ := ownsRow_succ hown'; obtain ⟨hv1, hv2, hr2, hk2, hb2⟩ := hv.appended (by decide) hrow hB.size (Nat.le_refl _) hown' hgrow; have hc1 := hv1.cell; have hf1 := hv1.frozen)
    exact ⟨hk2.from _, hb2, ⟨_, hv2, by simpa using hr2, by simp⟩, hB.trans hb2⟩
  case done =>
    rintro D ys W hD rfl ⟨⟨v, hv, hrow, hnil⟩, hB⟩ hK
    have hc := hv.cell
    gi_wp2
    refine ⟨by simp, .inl ⟨_, _, rfl, run_takeDeferred hK, ?_⟩⟩
    exact ⟨_, results_tmp rfl _ _ _, v, rfl, ownsRow_putObj hrow _ hK rfl, hnil, hB.trans (belowK_b (w := w) (Nat.le_refl _) W D _ _ (by simp at hD; omega) hK rfl rfl)⟩
  case stop =>
    rintro D c pre W _ _ h _
    exact h.elim
/-- .. the same as a call -/
theorem appendSeq_calls (Bs kk : Nat) (sv : Value) (zs : List Int) (hlen : zs.length ≤ 1099511627776) (w : World) (hBs : Bs < w.heap.size) (hcs : w.cell? ⟨Bs, kk, none⟩ = some sv) (hI : SlInts w.heap.size w sv zs) :
    Calls Tryz.prog 172 #[.slice none 0 0, .func (.func 139) #[] #[.pointer (some ⟨Bs, kk, none⟩)]] w fun e W' => ∃ v, e = .returned v ∧ W'.ownsRow w.heap.size 3 1 v zs.length (zs.map (Value.int .i64)) ∧ (v = .slice none 0 0 ↔ zs = []) ∧ Below w.heap.size w W' :=
  (callsIn_wide (n := 5)).1 (appendSeq_in Fence.wide 5 trivial trivial rfl (by omega) Bs kk sv zs (Nat.le_trans hlen (by decide)) (by omega) w hBs hcs hI)
end Go.Proofs.YtdgapefbbdfpbaaGreat.Ai
namespace Go.Proofs.YtdgapefbbdfpbaaGreat.Ai
open Go
def ords138 : List (Nat × List (Nat × Bool)) := []
def cd138 : Cd := (.seq (.reg [⟨⟨some 2, Op.assign (Operand.const (Value.slice none 0 0)), none⟩, []⟩]) (.seq (.reg [⟨⟨some 3, Op.move (Operand.tmp 0), none⟩, []⟩,
  ⟨⟨some 4, Op.call { callee := (Callee.value (Operand.func 172)), args := #[(Operand.const (Value.slice none 0 0)), (Operand.tmp 3)], argTypes := #[34, 89] }, none⟩, []⟩,
  ⟨⟨some 2, Op.assign (Operand.tmp 4), none⟩, []⟩]) .ret))
theorem sl138 : slim Tryz.f138.ntmps ords138 (Tryz.f138.body.getD .skip) = some cd138 := by kernel_rfl
theorem in138 {args : List Value} {H : AH} {R : Value → AH → Prop} (hl : args.length = 1) (h : ∀ (Q : Exit → Sl → AH → Prop), (∀ e s H, endA Tryz.prog [ResultVar.tmp 2] R e s H → Q e s H) → wpC Tryz.prog cd138 Q (enterA args) H) : ACalls Tryz.prog 138 args H R :=
  ACalls.intro (by kernel_rfl) Tryz.func138 rfl (by kernel_rfl) sl138 hl (of_decide_eq_true (by kernel_rfl)) (by kernel_rfl) h
def ords75 : List (Nat × List (Nat × Bool)) := []
def cd75 : Cd := (.seq (.reg [⟨⟨some 1, Op.box 34 (Operand.tmp 0), none⟩, []⟩,
  ⟨⟨some 2, Op.assign (Operand.const Value.nilFunc), none⟩, []⟩]) (.seq (.reg [⟨⟨some 3, Op.makeFunc (Fn.func 139) #[] #[(Operand.tmp 1)], none⟩, []⟩,
  ⟨⟨some 2, Op.assign (Operand.tmp 3), none⟩, []⟩]) .ret))
theorem sl75 : slim Tryz.f75.ntmps ords75 (Tryz.f75.body.getD .skip) = some cd75 := by kernel_rfl
theorem in75 {args : List Value} {H : AH} {R : Value → AH → Prop} (hl : args.length = 1) (h : ∀ (Q : Exit → Sl → AH → Prop), (∀ e s H, endA Tryz.prog [ResultVar.tmp 2] R e s H → Q e s H) → wpC Tryz.prog cd75 Q (enterA args) H) : ACalls Tryz.prog 75 args H R :=
  ACalls.intro (by kernel_rfl) Tryz.func75 rfl (by kernel_rfl) sl75 hl (of_decide_eq_true (by kernel_rfl)) (by kernel_rfl) h
def ords74 : List (Nat × List (Nat × Bool)) := []
def cd74 : Cd := (.seq (.reg [⟨⟨some 2, Op.assign (Operand.const (Value.slice none 0 0)), none⟩, []⟩]) (.seq (.reg [⟨⟨some 4, Op.move (Operand.tmp 0), none⟩, []⟩,
  ⟨⟨some 5, Op.call { callee := (Callee.value (Operand.func 138)), args := #[(Operand.tmp 4)], argTypes := #[89] }, none⟩, []⟩,
  ⟨⟨some 3, Op.assign (Operand.tmp 5), none⟩, []⟩]) (.seq (.reg [⟨⟨some 6, Op.move (Operand.tmp 3), none⟩, []⟩,
  ⟨⟨some 7, Op.call { callee := (Callee.value (Operand.func 90)), args := #[(Operand.tmp 6)], argTypes := #[34] }, none⟩, []⟩]) (.seq (.reg [⟨⟨some 8, Op.move (Operand.tmp 3), none⟩, []⟩,
  ⟨⟨some 2, Op.assign (Operand.tmp 8), none⟩, []⟩]) .ret))))
theorem sl74 : slim Tryz.f74.ntmps ords74 (Tryz.f74.body.getD .skip) = some cd74 := by kernel_rfl
theorem in74 {args : List Value} {H : AH} {R : Value → AH → Prop} (hl : args.length = 1) (h : ∀ (Q : Exit → Sl → AH → Prop), (∀ e s H, endA Tryz.prog [ResultVar.tmp 2] R e s H → Q e s H) → wpC Tryz.prog cd74 Q (enterA args) H) : ACalls Tryz.prog 74 args H R :=
  ACalls.intro (by kernel_rfl) Tryz.func74 rfl (by kernel_rfl) sl74 hl (of_decide_eq_true (by kernel_rfl)) (by kernel_rfl) h
end Go.Proofs.YtdgapefbbdfpbaaGreat.Ai
namespace Go.Proofs.YtdgapefbbdfpbaaGreat.Ai
open Go Go.RowKit
set_option linter.unusedVariables false
set_option linter.unusedSimpArgs false
theorem AppendSeq_c (o k : Nat) (v : Value) (xs : List Int) (H : AH) (ho : cellA H o k = some v) (hr : Row 3 H v xs) (hlen : xs.length ≤ 1099511627776) :
    ACalls Tryz.prog 172 [.slice none 0 0, .func (.func 139) #[] (List.toArray [.pointer (some ⟨o, k, none⟩)])] H fun r H' => Own 3 H H' r xs ∧ H <+: H' := by
  refine ⟨⟨_, Tryz.func172, rfl, by kernel_rfl⟩, ?_⟩
  intro μ w cargs hH hall
  -- what the arguments are in memory
  obtain ⟨c0, c1, e0⟩ : ∃ c0 c1, cargs = #[c0, c1] := by
    match hcs : cargs.toList, hall with
    | [c0, c1], _ => exact ⟨c0, c1, by rw [← Array.toArray_toList (xs := cargs), hcs]⟩
  subst e0
  obtain ⟨h0, h1, _⟩ := hall
  obtain ⟨_, _, e0⟩ := h0
  subst e0
  obtain ⟨es0, ds, e1, hes0, hds⟩ := h1
  have ees : es0 = #[] := by
    match hcs : es0.toList, hes0 with
    | [], _ => rw [← Array.toArray_toList (xs := es0), hcs]
  subst ees
  subst e1
  obtain ⟨d, ed⟩ : ∃ d, ds = #[d] := by
    match hcs : ds.toList, hds with
    | [d], _ => exact ⟨d, by rw [← Array.toArray_toList (xs := ds), hcs]⟩
  subst ed
  obtain ⟨⟨_, L, hL, e2⟩, _⟩ := hds
  subst e2
  -- the box and what it holds
  unfold cellA at ho
  split at ho
  case h_2 => cases ho
  rename_i vs t ro hobj
  obtain ⟨f1, f2, f3, f4, f5, f6⟩ := hH.cells_ o vs t ro L hobj hL
  obtain ⟨cv, g1, g2⟩ := f5 k v ho
  have hI : SlInts w.heap.size w cv xs := by
    rcases hr with ⟨rfl, rfl⟩ | ⟨o', k', us, ro', rfl, hu, hk, he⟩
    · obtain ⟨_, _, e⟩ := g2
      exact .inl ⟨_, _, e, rfl⟩
    · obtain ⟨_, _, a, m, e, hm, hor⟩ := g2
      by_cases hz : xs.length = 0
      · have : xs = [] := List.eq_nil_of_length_eq_zero hz
        subst this
        exact .inl ⟨_, _, e, rfl⟩
      · rcases hor with hor | ⟨L', hL', ea, hx⟩
        · omega
        · subst ea
          obtain ⟨q1, q2, q3, q4, q5, q6⟩ := hH.cells_ o' us _ ro' L' hu hL'
          refine .inr ⟨L'.blk, L'.base + k', m, e, q1, ?_⟩
          intro j hj
          have hat : us[k' + j]? = some (.int .i64 (xs.getD j 0)) := by
            have := congrArg (·[j]?) he
            simp only [List.getElem?_take, List.getElem?_drop, if_pos hj] at this
            rw [this, ints_at xs hj]
          obtain ⟨cv2, p1, p2⟩ := q5 _ _ hat
          have : cv2 = .int .i64 (xs.getD j 0) := p2
          rw [Nat.add_assoc, p1, this, List.getD_eq_getElem?_getD]
  refine (appendSeq_calls L.blk (L.base + k) cv xs hlen w f1 g1 hI).mono ?_
  rintro e w' ⟨v', rfl, hrow, hnil, hb⟩
  rcases hrow with ⟨_, ⟨hv, hz⟩ | ⟨g, cap, cur, hv, hg, hcell, hn, hcap, hsz, hcur⟩⟩
  · have : xs = [] := List.eq_nil_of_length_eq_zero hz
    subst this
    exact ⟨μ, .slice none 0 0, H, v', rfl, by rw [hv]; exact ⟨rfl, rfl, rfl⟩, hH.below hb, Evo.below' hH hb, .inl ⟨rfl, rfl⟩, List.prefix_refl _⟩
  · have hc1 : Tryz.prog.cellsOf 3 = 1 := cs3
    have hcs : ∀ (i : Nat) (x : Value), (ints xs)[i]? = some x → ∃ cv, cur[i]? = some cv ∧ CRel μ x cv := by
      intro i x hx
      have hi : i < xs.length := by have := (List.getElem?_eq_some_iff.1 hx).1; rwa [ints_len] at this
      have := congrArg (·[i]?) hcur
      simp only [Nat.mul_one, List.getElem?_take, if_pos hi, Array.getElem?_toList] at this
      have e : (xs.map (Value.int .i64))[i]? = (ints xs)[i]? := rfl
      rw [e, hx] at this
      refine ⟨x, this, ?_⟩
      rw [ints_at xs hi] at hx
      cases hx
      rfl
    have ad := hH.adopt hb (vs := ints xs) (ext := cap) hg hcell (by rw [hc1]; decide) (by rw [ints_len]; exact hn) (by omega) hcs
    refine ⟨_, .slice (some ⟨H.length, 0, none⟩) xs.length xs.length, _, v', rfl, ?_, ad.1, ad.2, .inr ⟨H.length, rfl, Nat.le_refl _, at_new ..⟩, List.prefix_append _ _⟩
    rw [hv]
    exact ⟨rfl, rfl, _, cap, rfl, hn, .inr ⟨_, Mu.put_same _ _ _, rfl, by rw [hc1]; simp⟩⟩
theorem Collect_c (o k : Nat) (v : Value) (xs : List Int) (H : AH) (ho : cellA H o k = some v) (hr : Row 3 H v xs) (hlen : xs.length ≤ 1099511627776) :
    ACalls Tryz.prog 138 [.func (.func 139) #[] (List.toArray [.pointer (some ⟨o, k, none⟩)])] H fun r H' => Own 3 H H' r xs ∧ H <+: H' := by
  refine in138 rfl ?_
  intro Q hQ
  simp (maxSteps := 1000000) (disch := omega) only [cd138, S, S1, S2, S3, S4, S5, ST, eq_self, reduceIte, reduceCtorEq, Nat.reduceEqDiff, Nat.reduceAdd]
  refine CallH.by (AppendSeq_c o k v xs H ho hr hlen) ?_
  rintro r H1 ⟨hown, hp⟩
  simp (maxSteps := 1000000) (disch := omega) only [hown.row.tup, S, S1, S2, S3, S4, S5, ST, eq_self, reduceIte, reduceCtorEq, Nat.reduceEqDiff, Nat.reduceAdd]
  refine hQ _ _ _ ?_
  simp (maxSteps := 1000000) (disch := omega) only [hown.row.tup, S, S1, S2, S3, S4, S5, ST, eq_self, reduceIte, reduceCtorEq, Nat.reduceEqDiff, Nat.reduceAdd]
  exact ⟨hown, hp⟩
theorem Values_c (v : Value) (xs : List Int) (H : AH) (hr : Row 3 H v xs) :
    ACalls Tryz.prog 75 [v] H fun r H' => r = .func (.func 139) #[] (List.toArray [.pointer (some ⟨H.length, 0, none⟩)]) ∧ H' = H ++ [.cells [v] 34 false] := by
  refine in75 rfl ?_
  intro Q hQ
  obtain ⟨p, e⟩ := hr.shape
  have hb : boxA Tryz.prog 34 v H = some (.pointer (some ⟨H.length, 0, none⟩), H ++ [.cells [v] 34 false]) := by
    subst e
    simp only [boxA, cs34]
    rfl
  have hm : ∀ p : Addr, makeFuncA (.func 139) [] [.pointer (some p)] = some (.func (.func 139) #[] (List.toArray [.pointer (some p)])) := fun _ => rfl
  have ht : ∀ f fs cs, isTup (.func f fs cs) = false := fun _ _ _ => rfl
  simp (maxSteps := 1000000) (disch := omega) only [cd75, hb, hm, ht, S, S1, S2, S3, S4, S5, ST, eq_self, reduceIte, reduceCtorEq, Nat.reduceEqDiff, Nat.reduceAdd]
  refine hQ _ _ _ ?_
  simp (maxSteps := 1000000) (disch := omega) only [ht, S, S1, S2, S3, S4, S5, ST, eq_self, reduceIte, reduceCtorEq, Nat.reduceEqDiff, Nat.reduceAdd]
/-- the sorted list of what a slice shows -/
theorem SortedV_c (o : Nat) (v : Value) (xs : List Int) (H : AH) (ho : cellA H o 0 = some v) (hr : Row 3 H v xs) (hlen : xs.length ≤ 12) :
    ACalls Tryz.prog 74 [.func (.func 139) #[] (List.toArray [.pointer (some ⟨o, 0, none⟩)])] H fun r H' => ∃ ys, Own 3 H H' r ys ∧ ys.Perm xs ∧ Asc ys ∧ H <+: H' := by
  refine in74 rfl ?_
  intro Q hQ
  simp (maxSteps := 1000000) (disch := omega) only [cd74, S, S1, S2, S3, S4, S5, ST, eq_self, reduceIte, reduceCtorEq, Nat.reduceEqDiff, Nat.reduceAdd]
  refine CallH.by (Collect_c o 0 v xs H ho hr (by omega)) ?_
  rintro u H1 ⟨hown, hp⟩
  simp (maxSteps := 1000000) (disch := omega) only [S, S1, S2, S3, S4, S5, ST, eq_self, reduceIte, reduceCtorEq, Nat.reduceEqDiff, Nat.reduceAdd]
  refine CallH.by (Sort_c u xs H H1 hown hlen) ?_
  rintro _ H2 ⟨ys, hown2, hperm, hasc, hel⟩
  simp (maxSteps := 1000000) (disch := omega) only [hown2.row.tup, S, S1, S2, S3, S4, S5, ST, eq_self, reduceIte, reduceCtorEq, Nat.reduceEqDiff, Nat.reduceAdd]
  refine hQ _ _ _ ?_
  simp (maxSteps := 1000000) (disch := omega) only [hown2.row.tup, S, S1, S2, S3, S4, S5, ST, eq_self, reduceIte, reduceCtorEq, Nat.reduceEqDiff, Nat.reduceAdd]
  exact ⟨ys, hown2, hperm, hasc, hown.else_pre hp hel⟩
end Go.Proofs.YtdgapefbbdfpbaaGreat.Ai
namespace Go.Proofs.YtdgapefbbdfpbaaGreat.Ai
open Go
def ords80 : List (Nat × List (Nat × Bool)) := []
def cd80 : Cd := (.seq (.reg [⟨⟨some 4, Op.assign (Operand.const (Value.slice none 0 0)), none⟩, []⟩]) (.seq (.reg [⟨⟨some 7, Op.buildSlice 34 0 #[], none⟩, []⟩,
  ⟨⟨some 5, Op.assign (Operand.tmp 7), none⟩, []⟩]) (.seq (.seq (.reg [⟨⟨some 6, Op.assign (Operand.const (Value.int IntKind.i64 0)), none⟩, []⟩]) (.block 0 (.loop (.seq (.seq (.reg [⟨⟨some 8, Op.move (Operand.tmp 6), none⟩, []⟩,
  ⟨⟨some 9, Op.move (Operand.tmp 0), none⟩, []⟩,
  ⟨⟨some 10, Op.call { callee := (Callee.builtin Builtin.len), args := #[(Operand.tmp 9)], argTypes := #[34] }, none⟩, []⟩,
  ⟨⟨some 11, Op.binOp BinOp.lss 3 (Operand.tmp 8) (Operand.tmp 10) 3, none⟩, []⟩]) (.cond (Operand.tmp 11) .skip (.exit 0))) (.seq (.block 1 (.seq (.reg [⟨⟨some 14, Op.move (Operand.tmp 0), none⟩, []⟩,
  ⟨⟨some 15, Op.move (Operand.tmp 6), none⟩, []⟩,
  ⟨⟨some 16, Op.indexAddr 34 (Operand.tmp 14) (Operand.tmp 15), none⟩, []⟩,
  ⟨⟨some 17, Op.load 3 (Operand.tmp 16), none⟩, []⟩,
  ⟨⟨some 18, Op.move (Operand.tmp 1), none⟩, []⟩,
  ⟨⟨some 19, Op.binOp BinOp.neq 3 (Operand.tmp 17) (Operand.tmp 18) 3, none⟩, []⟩]) (.cond (Operand.tmp 19) (.reg [⟨⟨some 20, Op.move (Operand.tmp 5), none⟩, []⟩,
  ⟨⟨some 21, Op.move (Operand.tmp 0), none⟩, []⟩,
  ⟨⟨some 22, Op.move (Operand.tmp 6), none⟩, []⟩,
  ⟨⟨some 23, Op.indexAddr 34 (Operand.tmp 21) (Operand.tmp 22), none⟩, []⟩,
  ⟨⟨some 24, Op.load 3 (Operand.tmp 23), none⟩, []⟩,
  ⟨⟨some 25, Op.buildSlice 34 1 #[(0, (Operand.tmp 24))], none⟩, []⟩,
  ⟨⟨some 26, Op.call { callee := (Callee.builtin Builtin.append), args := #[(Operand.tmp 20), (Operand.tmp 25)], argTypes := #[34, 34] }, none⟩, []⟩,
  ⟨⟨some 5, Op.assign (Operand.tmp 26), none⟩, []⟩]) .skip))) (.reg [⟨⟨some 12, Op.move (Operand.tmp 6), none⟩, []⟩,
  ⟨⟨some 13, Op.binOp BinOp.add 3 (Operand.tmp 12) (Operand.const (Value.int IntKind.i64 1)) 3, none⟩, []⟩,
  ⟨⟨some 6, Op.assign (Operand.tmp 13), none⟩, []⟩])))))) (.seq (.reg [⟨⟨some 27, Op.move (Operand.tmp 5), none⟩, []⟩,
  ⟨⟨some 4, Op.assign (Operand.tmp 27), none⟩, []⟩]) .ret))))
theorem sl80 : slim Tryz.f80.ntmps ords80 (Tryz.f80.body.getD .skip) = some cd80 := by kernel_rfl
theorem in80 {args : List Value} {H : AH} {R : Value → AH → Prop} (hl : args.length = 2) (h : ∀ (Q : Exit → Sl → AH → Prop), (∀ e s H, endA Tryz.prog [ResultVar.tmp 4] R e s H → Q e s H) → wpC Tryz.prog cd80 Q (enterA args) H) : ACalls Tryz.prog 80 args H R :=
  ACalls.intro (by kernel_rfl) Tryz.func80 rfl (by kernel_rfl) sl80 hl (of_decide_eq_true (by kernel_rfl)) (by kernel_rfl) h
def ords15 : List (Nat × List (Nat × Bool)) := [(7, [(0, false), (1, false), (2, false), (3, false), (4, false), (6, false), (7, false), (8, false), (9, false), (5, true), (10, false), (11, false), (12, false)])]
def cd15 : Cd := (.seq (.reg [⟨⟨some 6, Op.assign (Operand.const (Value.slice none 0 0)), none⟩, []⟩,
  ⟨⟨some 7, Op.assign (Operand.const (Value.int IntKind.i64 0)), none⟩, []⟩,
  ⟨⟨some 8, Op.assign (Operand.const (Value.bool false)), none⟩, []⟩]) (.seq (.seq (.reg [⟨⟨some 12, Op.move (Operand.tmp 0), none⟩, []⟩,
  ⟨⟨some 13, Op.move (Operand.tmp 1), none⟩, []⟩,
  ⟨⟨some 14, Op.call { callee := (Callee.value (Operand.func 78)), args := #[(Operand.tmp 12), (Operand.tmp 13)], argTypes := #[3, 34] }, none⟩, []⟩,
  ⟨⟨some 15, Op.unOp UnOp.not 4 (Operand.tmp 14), none⟩, []⟩,
  ⟨⟨some 16, Op.move (Operand.tmp 15), none⟩, []⟩,
  ⟨⟨some 17, Op.move (Operand.tmp 1), some (16, false)⟩, []⟩,
  ⟨⟨some 18, Op.move (Operand.tmp 2), some (16, false)⟩, []⟩,
  ⟨⟨some 19, Op.call { callee := (Callee.value (Operand.func 79)), args := #[(Operand.tmp 17), (Operand.tmp 18)], argTypes := #[34, 3] }, some (16, false)⟩, []⟩,
  ⟨⟨some 20, Op.unOp UnOp.not 4 (Operand.tmp 19), some (16, false)⟩, []⟩,
  ⟨⟨some 21, Op.pick (Operand.tmp 16) (Operand.const (Value.bool true)) (Operand.tmp 20), none⟩, []⟩]) (.cond (Operand.tmp 21) (.seq (.reg [⟨⟨some 22, Op.buildSlice 34 0 #[], none⟩, []⟩,
  ⟨⟨some 6, Op.assign (Operand.tmp 22), none⟩, []⟩,
  ⟨⟨some 7, Op.assign (Operand.const (Value.int IntKind.i64 0)), none⟩, []⟩,
  ⟨⟨some 8, Op.assign (Operand.const (Value.bool false)), none⟩, []⟩]) .ret) .skip)) (.seq (.reg [⟨⟨some 23, Op.move (Operand.tmp 1), none⟩, []⟩,
  ⟨⟨some 24, Op.move (Operand.tmp 2), none⟩, []⟩,
  ⟨⟨some 25, Op.call { callee := (Callee.value (Operand.func 80)), args := #[(Operand.tmp 23), (Operand.tmp 24)], argTypes := #[34, 3] }, none⟩, []⟩,
  ⟨⟨some 26, Op.move (Operand.tmp 0), none⟩, []⟩,
  ⟨⟨some 27, Op.call { callee := (Callee.value (Operand.func 81)), args := #[(Operand.tmp 26)], argTypes := #[3] }, none⟩, []⟩,
  ⟨⟨some 9, Op.assign (Operand.tmp 25), none⟩, []⟩,
  ⟨⟨some 10, Op.assign (Operand.tmp 27), none⟩, []⟩]) (.seq (.reg [⟨⟨some 11, Op.assign (Operand.const (Value.int IntKind.i64 0)), none⟩, []⟩]) (.seq (.block 0 (.loop (.seq (.seq (.reg [⟨⟨some 28, Op.move (Operand.tmp 10), none⟩, []⟩,
  ⟨⟨some 29, Op.move (Operand.tmp 11), none⟩, []⟩,
  ⟨⟨some 30, Op.indexAddr 34 (Operand.tmp 28) (Operand.tmp 29), none⟩, []⟩,
  ⟨⟨some 31, Op.load 3 (Operand.tmp 30), none⟩, []⟩,
  ⟨⟨some 32, Op.move (Operand.tmp 2), none⟩, []⟩,
  ⟨⟨some 33, Op.binOp BinOp.eql 3 (Operand.tmp 31) (Operand.tmp 32) 3, none⟩, []⟩,
  ⟨⟨some 34, Op.move (Operand.tmp 33), none⟩, []⟩,
  ⟨⟨some 35, Op.move (Operand.tmp 9), some (34, false)⟩, []⟩,
  ⟨⟨some 36, Op.move (Operand.tmp 10), some (34, false)⟩, []⟩,
  ⟨⟨some 37, Op.move (Operand.tmp 11), some (34, false)⟩, []⟩,
  ⟨⟨some 38, Op.indexAddr 34 (Operand.tmp 36) (Operand.tmp 37), some (34, false)⟩, []⟩,
  ⟨⟨some 39, Op.load 3 (Operand.tmp 38), some (34, false)⟩, []⟩,
  ⟨⟨some 40, Op.call { callee := (Callee.value (Operand.func 79)), args := #[(Operand.tmp 35), (Operand.tmp 39)], argTypes := #[34, 3] }, some (34, false)⟩, []⟩,
  ⟨⟨some 41, Op.pick (Operand.tmp 34) (Operand.const (Value.bool true)) (Operand.tmp 40), none⟩, []⟩,
  ⟨⟨some 42, Op.move (Operand.tmp 41), none⟩, []⟩,
  ⟨⟨some 43, Op.move (Operand.tmp 9), some (42, false)⟩, []⟩,
  ⟨⟨some 44, Op.move (Operand.tmp 10), some (42, false)⟩, []⟩,
  ⟨⟨some 45, Op.move (Operand.tmp 11), some (42, false)⟩, []⟩,
  ⟨⟨some 46, Op.indexAddr 34 (Operand.tmp 44) (Operand.tmp 45), some (42, false)⟩, []⟩,
  ⟨⟨some 47, Op.load 3 (Operand.tmp 46), some (42, false)⟩, []⟩,
  ⟨⟨some 48, Op.call { callee := (Callee.value (Operand.func 82)), args := #[(Operand.tmp 43), (Operand.tmp 47)], argTypes := #[34, 3] }, some (42, false)⟩, []⟩,
  ⟨⟨some 49, Op.unOp UnOp.not 4 (Operand.tmp 48), some (42, false)⟩, []⟩,
  ⟨⟨some 50, Op.pick (Operand.tmp 42) (Operand.const (Value.bool true)) (Operand.tmp 49), none⟩, []⟩]) (.cond (Operand.tmp 50) .skip (.exit 0))) (.block 1 (.reg [⟨⟨some 51, Op.move (Operand.tmp 11), none⟩, []⟩,
  ⟨⟨some 52, Op.binOp BinOp.add 3 (Operand.tmp 51) (Operand.const (Value.int IntKind.i64 1)) 3, none⟩, []⟩,
  ⟨⟨some 11, Op.assign (Operand.tmp 52), none⟩, []⟩]))))) (.seq (.reg [⟨⟨some 53, Op.move (Operand.tmp 9), none⟩, []⟩,
  ⟨⟨some 54, Op.move (Operand.tmp 10), none⟩, []⟩,
  ⟨⟨some 55, Op.move (Operand.tmp 11), none⟩, []⟩,
  ⟨⟨some 56, Op.indexAddr 34 (Operand.tmp 54) (Operand.tmp 55), none⟩, []⟩,
  ⟨⟨some 57, Op.load 3 (Operand.tmp 56), none⟩, []⟩,
  ⟨⟨some 59, Op.move (Operand.tmp 10), none⟩, []⟩,
  ⟨⟨some 60, Op.move (Operand.tmp 11), none⟩, []⟩,
  ⟨⟨some 61, Op.indexAddr 34 (Operand.tmp 59) (Operand.tmp 60), none⟩, []⟩,
  ⟨⟨some 62, Op.load 3 (Operand.tmp 61), none⟩, []⟩,
  ⟨⟨some 58, Op.call { callee := (Callee.value (Operand.func 83)), args := #[(Operand.tmp 53), (Operand.tmp 57)], argTypes := #[34, 3] }, none⟩, [⟨some 62, Op.load 3 (Operand.tmp 61), none⟩]⟩,
  ⟨⟨some 6, Op.assign (Operand.tmp 58), none⟩, []⟩,
  ⟨⟨some 7, Op.assign (Operand.tmp 62), none⟩, []⟩,
  ⟨⟨some 8, Op.assign (Operand.const (Value.bool true)), none⟩, []⟩]) .ret))))))
theorem sl15 : slim Tryz.f15.ntmps ords15 (Tryz.f15.body.getD .skip) = some cd15 := by kernel_rfl
theorem in15 {args : List Value} {H : AH} {R : Value → AH → Prop} (hl : args.length = 3) (h : ∀ (Q : Exit → Sl → AH → Prop), (∀ e s H, endA Tryz.prog [ResultVar.tmp 6, ResultVar.tmp 7, ResultVar.tmp 8] R e s H → Q e s H) → wpC Tryz.prog cd15 Q (enterA args) H) : ACalls Tryz.prog 15 args H R :=
  ACalls.intro (by kernel_rfl) Tryz.func15 rfl (by kernel_rfl) sl15 hl (of_decide_eq_true (by kernel_rfl)) (by kernel_rfl) h
def ords14 : List (Nat × List (Nat × Bool)) := []
def cd14 : Cd := (.seq (.reg [⟨⟨some 6, Op.assign (Operand.const (Value.slice none 0 0)), none⟩, []⟩,
  ⟨⟨some 7, Op.assign (Operand.const (Value.int IntKind.i64 0)), none⟩, []⟩,
  ⟨⟨some 8, Op.assign (Operand.const (Value.bool false)), none⟩, []⟩]) (.seq (.seq (.reg [⟨⟨some 13, Op.move (Operand.tmp 0), none⟩, []⟩,
  ⟨⟨some 14, Op.move (Operand.tmp 1), none⟩, []⟩,
  ⟨⟨some 15, Op.buildSlice 25 1 #[(0, (Operand.tmp 14))], none⟩, []⟩,
  ⟨⟨some 16, Op.call { callee := (Callee.value (Operand.func 70)), args := #[(Operand.tmp 13), (Operand.tmp 15)], argTypes := #[3, 25] }, none⟩, []⟩,
  ⟨⟨some 17, Op.unOp UnOp.not 4 (Operand.tmp 16), none⟩, []⟩,
  ⟨⟨some 18, Op.move (Operand.tmp 17), none⟩, []⟩,
  ⟨⟨some 19, Op.move (Operand.tmp 1), some (18, false)⟩, []⟩,
  ⟨⟨some 20, Op.move (Operand.tmp 2), some (18, false)⟩, []⟩,
  ⟨⟨some 21, Op.call { callee := (Callee.value (Operand.func 71)), args := #[(Operand.tmp 19), (Operand.tmp 20)], argTypes := #[34, 3] }, some (18, false)⟩, []⟩,
  ⟨⟨some 22, Op.unOp UnOp.not 4 (Operand.tmp 21), some (18, false)⟩, []⟩,
  ⟨⟨some 23, Op.pick (Operand.tmp 18) (Operand.const (Value.bool true)) (Operand.tmp 22), none⟩, []⟩]) (.cond (Operand.tmp 23) (.seq (.reg [⟨⟨some 6, Op.assign (Operand.const (Value.slice none 0 0)), none⟩, []⟩,
  ⟨⟨some 7, Op.assign (Operand.const (Value.int IntKind.i64 0)), none⟩, []⟩,
  ⟨⟨some 8, Op.assign (Operand.const (Value.bool false)), none⟩, []⟩]) .ret) .skip)) (.seq (.reg [⟨⟨some 24, Op.move (Operand.tmp 1), none⟩, []⟩,
  ⟨⟨some 25, Op.move (Operand.tmp 2), none⟩, []⟩,
  ⟨⟨some 26, Op.buildSlice 34 1 #[(0, (Operand.tmp 25))], none⟩, []⟩,
  ⟨⟨some 27, Op.call { callee := (Callee.value (Operand.func 72)), args := #[(Operand.tmp 24), (Operand.tmp 26)], argTypes := #[34, 34] }, none⟩, []⟩,
  ⟨⟨some 9, Op.assign (Operand.tmp 27), none⟩, []⟩]) (.seq (.seq (.reg [⟨⟨some 28, Op.move (Operand.tmp 0), none⟩, []⟩,
  ⟨⟨some 29, Op.call { callee := (Callee.value (Operand.func 73)), args := #[(Operand.tmp 28)], argTypes := #[3] }, none⟩, []⟩,
  ⟨⟨some 30, Op.call { callee := (Callee.builtin Builtin.len), args := #[(Operand.tmp 29)], argTypes := #[34] }, none⟩, []⟩,
  ⟨⟨some 31, Op.move (Operand.const (Value.int IntKind.i64 0)), none⟩, []⟩]) (.block 0 (.loop (.seq (.reg [⟨⟨some 32, Op.binOp BinOp.lss 3 (Operand.tmp 31) (Operand.tmp 30) 3, none⟩, []⟩]) (.seq (.cond (Operand.tmp 32) .skip (.exit 0)) (.seq (.block 1 (.seq (.reg [⟨⟨some 33, Op.indexAddr 34 (Operand.tmp 29) (Operand.tmp 31), none⟩, []⟩,
  ⟨⟨some 34, Op.load 3 (Operand.tmp 33), none⟩, []⟩,
  ⟨⟨some 11, Op.assign (Operand.tmp 34), none⟩, []⟩]) (.seq (.reg [⟨⟨some 35, Op.move (Operand.tmp 9), none⟩, []⟩,
  ⟨⟨some 36, Op.call { callee := (Callee.value (Operand.func 76)), args := #[(Operand.tmp 35)], argTypes := #[34] }, none⟩, []⟩,
  ⟨⟨some 37, Op.move (Operand.tmp 11), none⟩, []⟩,
  ⟨⟨some 38, Op.buildSlice 34 1 #[(0, (Operand.tmp 37))], none⟩, []⟩,
  ⟨⟨some 39, Op.call { callee := (Callee.builtin Builtin.append), args := #[(Operand.tmp 36), (Operand.tmp 38)], argTypes := #[34, 34] }, none⟩, []⟩,
  ⟨⟨some 40, Op.call { callee := (Callee.value (Operand.func 75)), args := #[(Operand.tmp 39)], argTypes := #[34] }, none⟩, []⟩,
  ⟨⟨some 41, Op.call { callee := (Callee.value (Operand.func 74)), args := #[(Operand.tmp 40)], argTypes := #[89] }, none⟩, []⟩,
  ⟨⟨some 12, Op.assign (Operand.tmp 41), none⟩, []⟩]) (.seq (.reg [⟨⟨some 42, Op.move (Operand.tmp 11), none⟩, []⟩,
  ⟨⟨some 43, Op.move (Operand.tmp 2), none⟩, []⟩,
  ⟨⟨some 44, Op.binOp BinOp.neq 3 (Operand.tmp 42) (Operand.tmp 43) 3, none⟩, []⟩,
  ⟨⟨some 45, Op.move (Operand.tmp 44), none⟩, []⟩,
  ⟨⟨some 46, Op.move (Operand.tmp 0), some (45, true)⟩, []⟩,
  ⟨⟨some 47, Op.move (Operand.tmp 12), some (45, true)⟩, []⟩,
  ⟨⟨some 48, Op.call { callee := (Callee.value (Operand.func 77)), args := #[(Operand.tmp 46), (Operand.tmp 47)], argTypes := #[3, 34] }, some (45, true)⟩, []⟩,
  ⟨⟨some 49, Op.pick (Operand.tmp 45) (Operand.tmp 48) (Operand.const (Value.bool false)), none⟩, []⟩]) (.cond (Operand.tmp 49) (.seq (.reg [⟨⟨some 50, Op.move (Operand.tmp 12), none⟩, []⟩,
  ⟨⟨some 51, Op.move (Operand.tmp 11), none⟩, []⟩,
  ⟨⟨some 6, Op.assign (Operand.tmp 50), none⟩, []⟩,
  ⟨⟨some 7, Op.assign (Operand.tmp 51), none⟩, []⟩,
  ⟨⟨some 8, Op.assign (Operand.const (Value.bool true)), none⟩, []⟩]) .ret) .skip))))) (.reg [⟨⟨some 52, Op.binOp BinOp.add 3 (Operand.tmp 31) (Operand.const (Value.int IntKind.i64 1)) 3, none⟩, []⟩,
  ⟨⟨some 31, Op.move (Operand.tmp 52), none⟩, []⟩]))))))) (.seq (.reg [⟨⟨some 6, Op.assign (Operand.const (Value.slice none 0 0)), none⟩, []⟩,
  ⟨⟨some 7, Op.assign (Operand.const (Value.int IntKind.i64 0)), none⟩, []⟩,
  ⟨⟨some 8, Op.assign (Operand.const (Value.bool false)), none⟩, []⟩]) .ret)))))
theorem sl14 : slim Tryz.f14.ntmps ords14 (Tryz.f14.body.getD .skip) = some cd14 := by kernel_rfl
theorem in14 {args : List Value} {H : AH} {R : Value → AH → Prop} (hl : args.length = 3) (h : ∀ (Q : Exit → Sl → AH → Prop), (∀ e s H, endA Tryz.prog [ResultVar.tmp 6, ResultVar.tmp 7, ResultVar.tmp 8] R e s H → Q e s H) → wpC Tryz.prog cd14 Q (enterA args) H) : ACalls Tryz.prog 14 args H R :=
  ACalls.intro (by kernel_rfl) Tryz.func14 rfl (by kernel_rfl) sl14 hl (of_decide_eq_true (by kernel_rfl)) (by kernel_rfl) h
end Go.Proofs.YtdgapefbbdfpbaaGreat.Ai
namespace Go.Proofs.YtdgapefbbdfpbaaGreat.Ai
open Go Go.RowKit
set_option linter.unusedVariables false
set_option linter.unusedSimpArgs false
theorem rst_step (xs : List Int) (x : Int) (i : Nat) (hi : i < xs.length) : rst (xs.take (i + 1)) x = rst (xs.take i) x ++ if xs.getD i 0 = x then [] else [xs.getD i 0] := by
  unfold rst
  rw [List.take_add_one, List.getElem?_eq_getElem hi, List.filter_append]
  have hx : xs.getD i 0 = xs[i] := by simp [hi]
  rw [hx]
  by_cases h : xs[i] = x <;> simp [h]
theorem rst_le (xs : List Int) (x : Int) : (rst xs x).length ≤ xs.length := List.length_filter_le _ _
set_option maxHeartbeats 1000000 in
theorem l4Without_c (v : Value) (xs : List Int) (x : Int) (H : AH) (hr : Row 3 H v xs) (hlen : xs.length ≤ 1099511627775) :
    ACalls Tryz.prog 80 [v, .int .i64 x] H fun r H' => Own 3 H H' r (rst xs x) ∧ H <+: H' := by
  refine in80 rfl ?_
  intro Q hQ
  have hp0 := List.prefix_append H [AObj.cells [] 3 false]
  have hown0 : Own 3 H (H ++ [AObj.cells [] 3 false]) (.slice (some ⟨H.length, 0, none⟩) 0 0) [] := .inr ⟨H.length, rfl, Nat.le_refl _, at_new ..⟩
  simp (maxSteps := 1000000) (disch := omega) only [cd80, S, S1, S2, S3, S4, S5, ST, eq_self, reduceIte, reduceCtorEq, Nat.reduceEqDiff, Nat.reduceAdd]
  refine LoopH.by (fun m s H' => ∃ i, m + i = xs.length ∧ s 0 = v ∧ s 1 = .int .i64 x ∧ s 6 = .int .i64 ((i : Nat) : Int) ∧ Own 3 H H' (s 5) (rst (xs.take i) x) ∧ H <+: H') xs.length ?_ ?_
  · refine ⟨0, by simp, rfl, rfl, rfl, ?_, hp0⟩
    simp (maxSteps := 1000000) (disch := omega) only [S, S1, S2, S3, S4, S5, ST, eq_self, reduceIte, reduceCtorEq, Nat.reduceEqDiff, Nat.reduceAdd]; exact hown0
  · rintro m s H' ⟨i, hm, h0, h1, h6, hown, hpp⟩
    have hr' := hr.pre hpp
    generalize hw : s 5 = w at *
    simp (maxSteps := 1000000) (disch := omega) only [h0, h1, h6, hw, hr'.len Tryz.underlying34, S, S1, S2, S3, S4, S5, ST, eq_self, reduceIte, reduceCtorEq, Nat.reduceEqDiff, Nat.reduceAdd]
    refine brD.intro (fun g => ?_) (fun g => ?_)
    · have hi : i < xs.length := by omega
      have st := rst_step xs x i hi
      have le := rst_le (xs.take i) x
      have le2 : (xs.take i).length ≤ i := by simp; omega
      simp (maxSteps := 1000000) (disch := omega) only [h0, h1, h6, hw, hr'.ix Tryz.underlying34 cs3, hr'.cell, Int.toNat_natCast, S, S1, S2, S3, S4, S5, ST, eq_self, reduceIte, reduceCtorEq, Nat.reduceEqDiff, Nat.reduceAdd]
      refine brD.intro (fun e => ?_) (fun e => ?_)
      · rw [if_neg e] at st
        obtain ⟨v', H2, k1, k2, k3, k4, k5, k6⟩ := own1_34 hown hpp (by omega) (xs.getD i 0)
        simp (maxSteps := 1000000) (disch := omega) only [h0, h1, h6, hw, hr'.ix Tryz.underlying34 cs3, hr'.cell, Int.toNat_natCast, k1, wrap64, S, S1, S2, S3, S4, S5, ST, eq_self, reduceIte, reduceCtorEq, Nat.reduceEqDiff, Nat.reduceAdd]
        refine ⟨m - 1, by omega, i + 1, ?_⟩
        rw [st]
        (repeat' apply And.intro) <;> first | exact k2 | exact k3 | (simp only [Value.int.injEq, true_and]; omega) | omega | rfl | assumption | (simp; done) | (simp; omega)
      · rw [if_pos (Decidable.not_not.1 e), List.append_nil] at st
        simp (maxSteps := 1000000) (disch := omega) only [h0, h1, h6, hw, wrap64, S, S1, S2, S3, S4, S5, ST, eq_self, reduceIte, reduceCtorEq, Nat.reduceEqDiff, Nat.reduceAdd]
        refine ⟨m - 1, by omega, i + 1, ?_⟩
        rw [st]
        (repeat' apply And.intro) <;> first | exact hown | exact hpp | (simp only [Value.int.injEq, true_and]; omega) | omega | rfl | assumption | (simp; done) | (simp; omega)
    · simp (maxSteps := 1000000) (disch := omega) only [hw, S, S1, S2, S3, S4, S5, ST, eq_self, reduceIte, reduceCtorEq, Nat.reduceEqDiff, Nat.reduceAdd]
      refine hQ _ _ _ ?_
      simp (maxSteps := 1000000) (disch := omega) only [hw, hown.row.tup, S, S1, S2, S3, S4, S5, ST, eq_self, reduceIte, reduceCtorEq, Nat.reduceEqDiff, Nat.reduceAdd]
      rw [List.take_of_length_le (by omega)] at hown
      exact ⟨hown, hpp⟩
theorem without_rst (xs : List Int) (x : Int) : without xs [x] = rst xs x := by
  unfold without rst
  congr 1
  funext y
  simp
def flipC (n : Int) (xs : List Int) (x : Int) : Prop := Tri1 n xs ∧ x ∈ xs
instance (n : Int) (xs : List Int) (x : Int) : Decidable (flipC n xs x) := inferInstanceAs (Decidable (_ ∧ _))
def flipR (n : Int) (xs : List Int) (x : Int) : List Int := if flipC n xs x then put (rst xs x) (flipD n xs x) else []
def flipN (n : Int) (xs : List Int) (x : Int) : Int := if flipC n xs x then flipD n xs x else 0
theorem flipR_len (n : Int) (xs : List Int) (x : Int) : (flipR n xs x).length ≤ 1099511627776 := by
  unfold flipR
  split
  · rename_i h
    have h1 := put_len (rst xs x) (flipD n xs x)
    have h2 := rst_le xs x
    have h3 := h.1.len
    have h4 := h.1.1
    omega
  · simp
theorem flip_facts {n x : Int} {xs : List Int} (h : flipC n xs x) : TriSet n xs ∧ 0 ≤ flipK n xs x := by
  have ts := (triSet_iff n xs).1 h.1.2
  exact ⟨ts, (idxP_any _ _ 0).2 (flip_ex h.1.1 ts h.2)⟩
theorem dgs_bound {n : Int} (hn : 3 ≤ n ∧ n ≤ 8) {d : Int} (hd : d ∈ dgs n n.toNat) : I64 d := by
  obtain ⟨N, rfl⟩ : ∃ N : Nat, n = N := ⟨n.toNat, by omega⟩
  simp only [Int.toNat_natCast] at hd
  have := dgs_range ⟨N, by omega⟩ d hd
  exact ⟨by omega, by omega⟩
theorem flipOk_first (rest : List Int) (x d : Int) : flipOk rest x d = true ↔ ¬ d = x ∧ ¬ d ∈ rest ∧ (!rest.any fun e => decide (Crs e d)) = true := by
  simp [flipOk]
set_option maxRecDepth 20000 in
set_option maxHeartbeats 4000000 in
theorem FlipS_c (n x : Int) (v : Value) (xs : List Int) (H : AH) (hr : Row 3 H v xs) (hlen : xs.length ≤ 1099511627776) (hxs : ∀ y ∈ xs, I64 y) :
    ACalls Tryz.prog 15 [.int .i64 n, v, .int .i64 x] H fun r H' => ∃ g, r = .tuple (List.toArray [g, .int .i64 (flipN n xs x), .bool (decide (flipC n xs x))]) ∧ Mine 3 H H' g (flipR n xs x) ∧ H <+: H' := by
  refine in15 rfl ?_
  intro Q hQ
  have no : ¬ flipC n xs x → flipR n xs x = [] ∧ flipN n xs x = 0 ∧ decide (flipC n xs x) = false := fun h => ⟨if_neg h, if_neg h, decide_eq_false h⟩
  simp (maxSteps := 1000000) (disch := omega) only [cd15, S, S1, S2, S3, S4, S5, ST, eq_self, reduceIte, reduceCtorEq, Nat.reduceEqDiff, Nat.reduceAdd]
  refine CallH.by (valid_c n v xs H hr hlen hxs) ?_
  rintro _ H1 ⟨rfl, hp1⟩
  have hr1 := hr.pre hp1
  simp (maxSteps := 1000000) (disch := omega) only [S, S1, S2, S3, S4, S5, ST, eq_self, reduceIte, reduceCtorEq, Nat.reduceEqDiff, Nat.reduceAdd]
  refine brD.intro (fun ha => ?_) (fun ha => ?_) <;> simp (maxSteps := 1000000) (disch := omega) only [ha, S, S1, S2, S3, S4, S5, ST, eq_self, reduceIte, reduceCtorEq, Nat.reduceEqDiff, Nat.reduceAdd]
  · refine CallH.by (l1Has_c v xs x H1 hr1 hlen) ?_
    rintro _ _ ⟨rfl, rfl⟩
    simp (maxSteps := 1000000) (disch := omega) only [ha, S, S1, S2, S3, S4, S5, ST, eq_self, reduceIte, reduceCtorEq, Nat.reduceEqDiff, Nat.reduceAdd]
    refine brD.intro (fun hb => ?_) (fun hb => ?_) <;> simp (maxSteps := 1000000) (disch := omega) only [ha, hb, S, S1, S2, S3, S4, S5, ST, eq_self, reduceIte, reduceCtorEq, Nat.reduceEqDiff, Nat.reduceAdd]
    · have hc : flipC n xs x := ⟨ha, hb⟩
      have hn := ha.1
      have hln := ha.len
      obtain ⟨ts, hk0⟩ := flip_facts hc
      refine CallH.by (l4Without_c v xs x H1 hr1 (by omega)) ?_
      rintro u H2 ⟨ho2, hp2⟩
      simp (maxSteps := 1000000) (disch := omega) only [S, S1, S2, S3, S4, S5, ST, eq_self, reduceIte, reduceCtorEq, Nat.reduceEqDiff, Nat.reduceAdd]
      refine CallH.by (l8Diagonals_c n H2 (by omega)) ?_
      rintro w H3 ⟨ho3, hp3⟩
      simp (maxSteps := 1000000) (disch := omega) only [S, S1, S2, S3, S4, S5, ST, eq_self, reduceIte, reduceCtorEq, Nat.reduceEqDiff, Nat.reduceAdd]
      have hru : Row 3 H3 u (rst xs x) := ho2.row.pre hp3
      have hrw : Row 3 H3 w (dgs n n.toNat) := ho3.row
      have hp03 : H <+: H3 := hp1.trans (hp2.trans hp3)
      have hrl := rst_le xs x
      have hdl : (dgs n n.toNat).length ≤ 1000 := by have := dgs_len n n.toNat (by omega) (by omega); omega
      have hrI : ∀ y ∈ rst xs x, I64 y := fun y hy => hxs y (rst_mem.1 hy).1
      have hrest : rst xs x = rst xs x := rfl
      generalize hD : dgs n n.toNat = D at *
      have hDI : ∀ d ∈ D, I64 d := fun d hd => dgs_bound hn (by rw [hD]; exact hd)
      refine LoopH.by (fun m s H' => ∃ i, m + i = D.length ∧ s 0 = .int .i64 n ∧ s 2 = .int .i64 x ∧ s 9 = u ∧ s 10 = w ∧ s 11 = .int .i64 ((i : Nat) : Int) ∧ H3 = H' ∧ flipK n xs x = idxP (fun d => flipOk (rst xs x) x d) (D.drop i) i) D.length ?_ ?_
      · exact ⟨0, by simp, rfl, rfl, rfl, rfl, rfl, rfl, by rw [← hD]; rfl⟩
      · rintro m s H' ⟨i, hm, h0, h2, h9, h10, h11, rfl, hk⟩
        have hi : i < D.length := by
          by_cases hi : i < D.length
          · exact hi
          · rw [List.drop_of_length_le (by omega)] at hk
            simp only [idxP] at hk
            omega
        rw [idxP_step _ D i hi] at hk
        have hdm : D.getD i 0 ∈ D := by simp [hi]
        have hd := hDI _ hdm
        have fo := flipOk_first (rst xs x) x (D.getD i 0)
        have nxt : flipOk (rst xs x) x (D.getD i 0) = false → flipK n xs x = idxP (fun d => flipOk (rst xs x) x d) (D.drop (i + 1)) (i + 1) := fun h => by rw [hk, h]; rfl
        simp (maxSteps := 1000000) (disch := omega) only [h0, h2, h9, h10, h11, hrw.ix Tryz.underlying34 cs3, hrw.cell, Int.toNat_natCast, S, S1, S2, S3, S4, S5, ST, eq_self, reduceIte, reduceCtorEq, Nat.reduceEqDiff, Nat.reduceAdd]
        refine brD.intro (fun e1 => ?_) (fun e1 => ?_) <;> simp (maxSteps := 1000000) (disch := omega) only [e1, h0, h2, h9, h10, h11, hrw.ix Tryz.underlying34 cs3, hrw.cell, Int.toNat_natCast, wrap64, S, S1, S2, S3, S4, S5, ST, eq_self, reduceIte, reduceCtorEq, Nat.reduceEqDiff, Nat.reduceAdd]
        · have fx := nxt (by rw [Bool.eq_false_iff]; exact fun h => (fo.1 h).1 e1)
          refine ⟨m - 1, by omega, i + 1, ?_⟩
          (repeat' apply And.intro) <;> first | exact fx | (simp only [Value.int.injEq, true_and]; omega) | omega | rfl | assumption | (simp; done) | (simp; omega)
        · refine CallH.by (l1Has_c u (rst xs x) (D.getD i 0) H3 hru (by omega)) ?_
          rintro _ _ ⟨rfl, rfl⟩
          simp (maxSteps := 1000000) (disch := omega) only [e1, S, S1, S2, S3, S4, S5, ST, eq_self, reduceIte, reduceCtorEq, Nat.reduceEqDiff, Nat.reduceAdd]
          refine brD.intro (fun e2 => ?_) (fun e2 => ?_) <;> simp (maxSteps := 1000000) (disch := omega) only [e1, e2, h0, h2, h9, h10, h11, hrw.ix Tryz.underlying34 cs3, hrw.cell, Int.toNat_natCast, wrap64, S, S1, S2, S3, S4, S5, ST, eq_self, reduceIte, reduceCtorEq, Nat.reduceEqDiff, Nat.reduceAdd]
          · have fx := nxt (by rw [Bool.eq_false_iff]; exact fun h => (fo.1 h).2.1 e2)
            refine ⟨m - 1, by omega, i + 1, ?_⟩
            (repeat' apply And.intro) <;> first | exact fx | (simp only [Value.int.injEq, true_and]; omega) | omega | rfl | assumption | (simp; done) | (simp; omega)
          · refine CallH.by (l8Apart_c u (rst xs x) (D.getD i 0) H3 hru (by omega) hrI hd) ?_
            rintro _ _ ⟨rfl, rfl⟩
            simp (maxSteps := 1000000) (disch := omega) only [e1, e2, S, S1, S2, S3, S4, S5, ST, eq_self, reduceIte, reduceCtorEq, Nat.reduceEqDiff, Nat.reduceAdd]
            refine brH.intro (fun e3 => ?_) (fun e3 => ?_)
            · simp (maxSteps := 1000000) (disch := omega) only [e1, e2, e3, h0, h2, h9, h10, h11, wrap64, S, S1, S2, S3, S4, S5, ST, eq_self, reduceIte, reduceCtorEq, Nat.reduceEqDiff, Nat.reduceAdd]
              have fx := nxt (by rw [Bool.eq_false_iff]; exact fun h => by have := (fo.1 h).2.2; simp_all; obtain ⟨y, hy, hc⟩ := e3; exact h y hy hc)
              refine ⟨m - 1, by omega, i + 1, ?_⟩
              (repeat' apply And.intro) <;> first | exact fx | (simp only [Value.int.injEq, true_and]; omega) | omega | rfl | assumption | (simp; done) | (simp; omega)
            · have hok : flipOk (rst xs x) x (D.getD i 0) = true := fo.2 ⟨e1, e2, by simpa using e3⟩
              rw [if_pos hok] at hk
              have hfd : flipD n xs x = D.getD i 0 := by
                unfold flipD
                rw [hk, hD, Int.toNat_natCast]
              simp (maxSteps := 1000000) (disch := omega) only [e1, e2, e3, h0, h2, h9, h10, h11, hrw.ix Tryz.underlying34 cs3, hrw.cell, Int.toNat_natCast, S, S1, S2, S3, S4, S5, ST, eq_self, reduceIte, reduceCtorEq, Nat.reduceEqDiff, Nat.reduceAdd]
              refine CallH.by (l1Put_c u (rst xs x) (D.getD i 0) H3 hru (by omega) e2) ?_
              rintro g H4 ⟨ho4, hp4⟩
              have hrw4 := hrw.pre hp4
              simp (maxSteps := 1000000) (disch := omega) only [h0, h2, h9, h10, h11, hrw4.cell, ho4.row.tup, S, S1, S2, S3, S4, S5, ST, eq_self, reduceIte, reduceCtorEq, Nat.reduceEqDiff, Nat.reduceAdd]
              refine hQ _ _ _ ?_
              simp (maxSteps := 1000000) (disch := omega) only [ho4.row.tup, S, S1, S2, S3, S4, S5, ST, eq_self, reduceIte, reduceCtorEq, Nat.reduceEqDiff, Nat.reduceAdd]
              refine ⟨g, by simp [hc, flipN, hfd], ?_, hp03.trans hp4⟩
              have := (ho4.base hp03).mine
              simpa [flipR, hc, hfd] using this
    · refine hQ _ _ _ ?_
      simp (maxSteps := 1000000) (disch := omega) only [S, S1, S2, S3, S4, S5, ST, eq_self, reduceIte, reduceCtorEq, Nat.reduceEqDiff, Nat.reduceAdd]
      obtain ⟨f1, f2, f3⟩ := no (fun h => hb h.2)
      rw [f1, f2, f3]
      exact ⟨.slice (some ⟨H1.length, 0, none⟩) 0 0, rfl, Own.mine (.inr ⟨H1.length, rfl, hp1.length_le, at_new ..⟩), pre_app hp1 _⟩
  · refine hQ _ _ _ ?_
    simp (maxSteps := 1000000) (disch := omega) only [S, S1, S2, S3, S4, S5, ST, eq_self, reduceIte, reduceCtorEq, Nat.reduceEqDiff, Nat.reduceAdd]
    obtain ⟨f1, f2, f3⟩ := no (fun h => ha h.1)
    rw [f1, f2, f3]
    exact ⟨.slice (some ⟨H1.length, 0, none⟩) 0 0, rfl, Own.mine (.inr ⟨H1.length, rfl, hp1.length_le, at_new ..⟩), pre_app hp1 _⟩
set_option maxRecDepth 20000 in
set_option maxHeartbeats 4000000 in
theorem FlipI_c (n x : Int) (v : Value) (xs : List Int) (H : AH) (hr : Row 3 H v xs) (hlen : xs.length ≤ 1099511627776) (hxs : ∀ y ∈ xs, I64 y) :
    ACalls Tryz.prog 14 [.int .i64 n, v, .int .i64 x] H fun r H' => ∃ g, r = .tuple (List.toArray [g, .int .i64 (flipN n xs x), .bool (decide (flipC n xs x))]) ∧ Mine 3 H H' g (flipR n xs x) ∧ H <+: H' := by
  refine in14 rfl ?_
  intro Q hQ
  have no : ¬ flipC n xs x → flipR n xs x = [] ∧ flipN n xs x = 0 ∧ decide (flipC n xs x) = false := fun h => ⟨if_neg h, if_neg h, decide_eq_false h⟩
  obtain ⟨pv, ev⟩ := hr.shape
  subst ev
  simp (maxSteps := 1000000) (disch := omega) only [cd14, S, S1, S2, S3, S4, S5, ST, eq_self, reduceIte, reduceCtorEq, Nat.reduceEqDiff, Nat.reduceAdd]
  generalize hv : Value.slice pv xs.length xs.length = v at *
  refine CallH.by (are1_c n v xs _ _ H rfl rfl hr hlen hxs) ?_
  rintro _ H1 ⟨rfl, hp1'⟩
  have hp1 : H <+: H1 := (List.prefix_append _ _).trans hp1'
  have hr1 := hr.pre hp1
  simp (maxSteps := 1000000) (disch := omega) only [S, S1, S2, S3, S4, S5, ST, eq_self, reduceIte, reduceCtorEq, Nat.reduceEqDiff, Nat.reduceAdd]
  refine brD.intro (fun ha => ?_) (fun ha => ?_) <;> simp (maxSteps := 1000000) (disch := omega) only [ha, S, S1, S2, S3, S4, S5, ST, eq_self, reduceIte, reduceCtorEq, Nat.reduceEqDiff, Nat.reduceAdd]
  · refine CallH.by (Contains_c v xs x H1 hr1 hlen) ?_
    rintro _ _ ⟨rfl, rfl⟩
    simp (maxSteps := 1000000) (disch := omega) only [ha, S, S1, S2, S3, S4, S5, ST, eq_self, reduceIte, reduceCtorEq, Nat.reduceEqDiff, Nat.reduceAdd]
    refine brD.intro (fun hb => ?_) (fun hb => ?_) <;> simp (maxSteps := 1000000) (disch := omega) only [ha, hb, S, S1, S2, S3, S4, S5, ST, eq_self, reduceIte, reduceCtorEq, Nat.reduceEqDiff, Nat.reduceAdd]
    · have hc : flipC n xs x := ⟨ha, hb⟩
      have hn := ha.1
      have hln := ha.len
      obtain ⟨ts, hk0⟩ := flip_facts hc
      have hln' : xs.length ≤ 5 := by omega
      have hrx : Row 3 (H1 ++ [AObj.cells [.int .i64 x] 3 false]) (.slice (some ⟨H1.length, 0, none⟩) 1 1) [x] := .inr ⟨H1.length, 0, [.int .i64 x], false, rfl, at_new .., by simp, rfl⟩
      refine CallH.by (without_c v _ xs [x] _ (hr1.pre (List.prefix_append _ _)) hlen hrx (by simp)) ?_
      rintro u H2 ⟨ho2, hp2'⟩
      have hp2 : H1 <+: H2 := (List.prefix_append _ _).trans hp2'
      rw [without_rst] at ho2
      simp (maxSteps := 1000000) (disch := omega) only [S, S1, S2, S3, S4, S5, ST, eq_self, reduceIte, reduceCtorEq, Nat.reduceEqDiff, Nat.reduceAdd]
      refine CallH.by (diagonals_c n H2 (by omega)) ?_
      rintro w H3 ⟨⟨o, rfl, hoo, hco⟩, hp3⟩
      have hD : dgI n 100 = dgs n n.toNat := by
        obtain ⟨N, rfl⟩ : ∃ N : Nat, n = N := ⟨n.toNat, by omega⟩
        simp only [Int.toNat_natCast]
        exact dgI_eq ⟨N, by omega⟩ (by show 3 ≤ N; omega)
      have hrw : Row 3 H3 (.slice (some ⟨o, 0, none⟩) (dgI n 100).length (dgI n 100).length) (dgI n 100) := (show Own 3 H2 H3 _ (dgI n 100) from .inr ⟨o, rfl, hoo, hco⟩).row
      rw [hD] at hrw
      rw [hD]
      have hru : Row 3 H3 u (rst xs x) := ho2.row.pre hp3
      have hp03 : H <+: H3 := hp1.trans (hp2.trans hp3)
      have hrl := rst_le xs x
      have hdl : (dgs n n.toNat).length ≤ 1000 := by have := dgs_len n n.toNat (by omega) (by omega); omega
      have hmem : ∀ d, d ∈ dgs n n.toNat → d ∈ dgs n n.toNat := fun _ h => h
      have htest := fun (d : Int) (ys : List Int) (hd : d ∈ dgs n n.toNat) (hdx : d ≠ x) (hp : ys.Perm (rst xs x ++ [d])) (ha : Asc ys) => flip_test hn ts hb hd hdx hp ha
      have hfD : ∀ i : Nat, flipK n xs x = (i : Int) → flipD n xs x = (dgs n n.toNat).getD i 0 := fun i h => by unfold flipD; rw [h, Int.toNat_natCast]
      have hk1 : flipK n xs x = idxP (fun d => flipOk (rst xs x) x d) (dgs n n.toNat) 0 := rfl
      have hDI : ∀ d ∈ dgs n n.toNat, I64 d := fun d hd => dgs_bound hn hd
      generalize dgs n n.toNat = D at *
      generalize hw : Value.slice (some ⟨o, 0, none⟩) D.length D.length = w at *
      simp (maxSteps := 1000000) (disch := omega) only [hrw.len Tryz.underlying34, S, S1, S2, S3, S4, S5, ST, eq_self, reduceIte, reduceCtorEq, Nat.reduceEqDiff, Nat.reduceAdd]
      refine LoopH.by (fun m s H' => ∃ i, m + i = D.length ∧ s 0 = .int .i64 n ∧ s 2 = .int .i64 x ∧ s 9 = u ∧ s 29 = w ∧ s 30 = .int .i64 (D.length : Int) ∧ s 31 = .int .i64 ((i : Nat) : Int) ∧ H3 <+: H' ∧ flipK n xs x = idxP (fun d => flipOk (rst xs x) x d) (D.drop i) i) D.length ?_ ?_
      · exact ⟨0, by simp, rfl, rfl, rfl, rfl, rfl, rfl, List.prefix_refl _, hk1⟩
      · rintro m s H' ⟨i, hm, h0, h2, h9, h29, h30, h31, hpp, hk⟩
        have hrw' := hrw.pre hpp
        have hru' := hru.pre hpp
        simp (maxSteps := 1000000) (disch := omega) only [h0, h2, h9, h29, h30, h31, S, S1, S2, S3, S4, S5, ST, eq_self, reduceIte, reduceCtorEq, Nat.reduceEqDiff, Nat.reduceAdd]
        refine brD.intro (fun g => ?_) (fun g => ?_)
        · have hi : i < D.length := by omega
          rw [idxP_step _ D i hi] at hk
          have hdm : D.getD i 0 ∈ D := by simp [hi]
          have hd := hDI _ hdm
          simp (maxSteps := 1000000) (disch := omega) only [h0, h2, h9, h29, h30, h31, hrw'.ix Tryz.underlying34 cs3, hrw'.cell, Int.toNat_natCast, S, S1, S2, S3, S4, S5, ST, eq_self, reduceIte, reduceCtorEq, Nat.reduceEqDiff, Nat.reduceAdd]
          have htst := fun ys => htest (D.getD i 0) ys hdm
          have hfd := hfD i
          generalize D.getD i 0 = d at *
          have nxt : flipOk (rst xs x) x d = false → flipK n xs x = idxP (fun d => flipOk (rst xs x) x d) (D.drop (i + 1)) (i + 1) := fun h => by rw [hk, h]; rfl
          refine CallH.by (Clone_c u (rst xs x) H' hru' (by omega)) ?_
          rintro c H4 ⟨ho4, hp4⟩
          obtain ⟨v', H5, k1, k2, k3, k4, k5, k6⟩ := own1_34 ho4 hp4 (by omega) d
          simp (maxSteps := 1000000) (disch := omega) only [h0, h2, h9, h29, h30, h31, k1, S, S1, S2, S3, S4, S5, ST, eq_self, reduceIte, reduceCtorEq, Nat.reduceEqDiff, Nat.reduceAdd]
          refine CallH.by (Values_c v' _ H5 k2.row) ?_
          rintro _ _ ⟨rfl, rfl⟩
          have hp6 : H' <+: H5 ++ [AObj.cells [v'] 34 false] := pre_app k3 _
          have hc6 : cellA (H5 ++ [AObj.cells [v'] 34 false]) H5.length 0 = some v' := by rw [cell_of (at_new ..)]; rfl
          simp (maxSteps := 1000000) (disch := omega) only [S, S1, S2, S3, S4, S5, ST, eq_self, reduceIte, reduceCtorEq, Nat.reduceEqDiff, Nat.reduceAdd]
          refine CallH.by (SortedV_c H5.length v' _ _ hc6 (k2.row.pre (List.prefix_append _ _)) (by simp; omega)) ?_
          rintro y H7 ⟨ys, ho7, hperm, hasc, hp7⟩
          have hpp7 : H3 <+: H7 := hpp.trans (hp6.trans hp7)
          have hyl := hperm.length_eq
          simp only [List.length_append, List.length_cons, List.length_nil] at hyl
          have hyI : ∀ z ∈ ys, I64 z := by
            intro z hz
            have := hperm.mem_iff.1 hz
            simp only [List.mem_append, List.mem_singleton] at this
            rcases this with q | q
            · exact hxs z (rst_mem.1 q).1
            · rw [q]; exact hd
          simp (maxSteps := 1000000) (disch := omega) only [h0, h2, h9, h29, h30, h31, ho7.row.tup, S, S1, S2, S3, S4, S5, ST, eq_self, reduceIte, reduceCtorEq, Nat.reduceEqDiff, Nat.reduceAdd]
          refine brD.intro (fun e1 => ?_) (fun e1 => ?_) <;> simp (maxSteps := 1000000) (disch := omega) only [e1, h0, h2, h9, h29, h30, h31, ho7.row.tup, S, S1, S2, S3, S4, S5, ST, eq_self, reduceIte, reduceCtorEq, Nat.reduceEqDiff, Nat.reduceAdd]
          · obtain ⟨t1, t2⟩ := htst ys e1 hperm hasc
            refine CallH.by (isTriangulation_c n y ys H7 (by omega) ho7.row (by omega) hyI) ?_
            rintro _ H8 ⟨rfl, hp8⟩
            rw [t1]
            simp (maxSteps := 1000000) (disch := omega) only [e1, S, S1, S2, S3, S4, S5, ST, eq_self, reduceIte, reduceCtorEq, Nat.reduceEqDiff, Nat.reduceAdd]
            refine brH.intro (fun e2 => ?_) (fun e2 => ?_)
            · rw [if_pos e2] at hk
              have hys := t2 e2
              have hfd' := hfd hk
              simp (maxSteps := 1000000) (disch := omega) only [e1, e2, ho7.row.tup, S, S1, S2, S3, S4, S5, ST, eq_self, reduceIte, reduceCtorEq, Nat.reduceEqDiff, Nat.reduceAdd]
              refine hQ _ _ _ ?_
              simp (maxSteps := 1000000) (disch := omega) only [ho7.row.tup, S, S1, S2, S3, S4, S5, ST, eq_self, reduceIte, reduceCtorEq, Nat.reduceEqDiff, Nat.reduceAdd]
              refine ⟨y, by simp [hc, flipN, hfd'], ?_, hp03.trans (hpp7.trans hp8)⟩
              have := ((ho7.base (hp03.trans (hpp.trans hp6))).mine).pre hp8
              rw [hys] at this
              simpa [flipR, hc, hfd'] using this
            · have fx := nxt (by simpa using e2)
              have fp := hpp7.trans hp8
              simp (maxSteps := 1000000) (disch := omega) only [e1, e2, h0, h2, h9, h29, h30, h31, wrap64, S, S1, S2, S3, S4, S5, ST, eq_self, reduceIte, reduceCtorEq, Nat.reduceEqDiff, Nat.reduceAdd]
              refine ⟨m - 1, by omega, i + 1, ?_⟩
              (repeat' apply And.intro) <;> first | exact fx | exact fp | (simp only [Value.int.injEq, true_and]; omega) | omega | rfl | assumption | (simp; done) | (simp; omega)
          · have fx := nxt (by rw [Bool.eq_false_iff]; exact fun h => by have := (flipOk_first _ _ _).1 h; exact e1 this.1)
            simp (maxSteps := 1000000) (disch := omega) only [e1, h0, h2, h9, h29, h30, h31, wrap64, S, S1, S2, S3, S4, S5, ST, eq_self, reduceIte, reduceCtorEq, Nat.reduceEqDiff, Nat.reduceAdd]
            refine ⟨m - 1, by omega, i + 1, ?_⟩
            (repeat' apply And.intro) <;> first | exact fx | exact hpp7 | (simp only [Value.int.injEq, true_and]; omega) | omega | rfl | assumption | (simp; done) | (simp; omega)
        · rw [List.drop_of_length_le (by omega)] at hk
          simp only [idxP] at hk
          omega
    · refine hQ _ _ _ ?_
      simp (maxSteps := 1000000) (disch := omega) only [S, S1, S2, S3, S4, S5, ST, eq_self, reduceIte, reduceCtorEq, Nat.reduceEqDiff, Nat.reduceAdd]
      obtain ⟨f1, f2, f3⟩ := no (fun h => hb h.2)
      rw [f1, f2, f3]
      exact ⟨.slice none 0 0, rfl, .inl ⟨rfl, rfl⟩, hp1⟩
  · refine hQ _ _ _ ?_
    simp (maxSteps := 1000000) (disch := omega) only [S, S1, S2, S3, S4, S5, ST, eq_self, reduceIte, reduceCtorEq, Nat.reduceEqDiff, Nat.reduceAdd]
    obtain ⟨f1, f2, f3⟩ := no (fun h => ha h.1)
    rw [f1, f2, f3]
    exact ⟨.slice none 0 0, rfl, .inl ⟨rfl, rfl⟩, hp1⟩
end Go.Proofs.YtdgapefbbdfpbaaGreat.Ai
namespace Go.Proofs.YtdgapefbbdfpbaaGreat.Ai
open Go
def ords20 : List (Nat × List (Nat × Bool)) := []
def cd20 : Cd := (.seq (.reg [⟨⟨some 4, Op.assign (Operand.const (Value.slice none 0 0)), none⟩, []⟩,
  ⟨⟨some 5, Op.assign (Operand.const (Value.bool false)), none⟩, []⟩]) (.seq (.reg [⟨⟨some 8, Op.buildSlice 34 0 #[], none⟩, []⟩,
  ⟨⟨some 6, Op.assign (Operand.tmp 8), none⟩, []⟩]) (.seq (.seq (.reg [⟨⟨some 9, Op.move (Operand.tmp 0), none⟩, []⟩,
  ⟨⟨some 10, Op.move (Operand.tmp 1), none⟩, []⟩,
  ⟨⟨some 11, Op.call { callee := (Callee.value (Operand.func 78)), args := #[(Operand.tmp 9), (Operand.tmp 10)], argTypes := #[3, 34] }, none⟩, []⟩,
  ⟨⟨some 12, Op.unOp UnOp.not 4 (Operand.tmp 11), none⟩, []⟩]) (.cond (Operand.tmp 12) (.seq (.reg [⟨⟨some 13, Op.move (Operand.tmp 6), none⟩, []⟩,
  ⟨⟨some 4, Op.assign (Operand.tmp 13), none⟩, []⟩,
  ⟨⟨some 5, Op.assign (Operand.const (Value.bool false)), none⟩, []⟩]) .ret) .skip)) (.seq (.seq (.reg [⟨⟨some 7, Op.assign (Operand.const (Value.int IntKind.i64 0)), none⟩, []⟩]) (.block 0 (.loop (.seq (.seq (.reg [⟨⟨some 14, Op.move (Operand.tmp 7), none⟩, []⟩,
  ⟨⟨some 15, Op.move (Operand.tmp 0), none⟩, []⟩,
  ⟨⟨some 16, Op.binOp BinOp.lss 3 (Operand.tmp 14) (Operand.tmp 15) 3, none⟩, []⟩]) (.cond (Operand.tmp 16) .skip (.exit 0))) (.seq (.block 1 (.seq (.reg [⟨⟨some 19, Op.move (Operand.tmp 1), none⟩, []⟩,
  ⟨⟨some 20, Op.move (Operand.tmp 7), none⟩, []⟩,
  ⟨⟨some 21, Op.call { callee := (Callee.value (Operand.func 86)), args := #[(Operand.tmp 19), (Operand.tmp 20)], argTypes := #[34, 3] }, none⟩, []⟩,
  ⟨⟨some 22, Op.binOp BinOp.eql 3 (Operand.tmp 21) (Operand.const (Value.int IntKind.i64 0)) 3, none⟩, []⟩]) (.cond (Operand.tmp 22) (.reg [⟨⟨some 23, Op.move (Operand.tmp 6), none⟩, []⟩,
  ⟨⟨some 24, Op.move (Operand.tmp 7), none⟩, []⟩,
  ⟨⟨some 25, Op.buildSlice 34 1 #[(0, (Operand.tmp 24))], none⟩, []⟩,
  ⟨⟨some 26, Op.call { callee := (Callee.builtin Builtin.append), args := #[(Operand.tmp 23), (Operand.tmp 25)], argTypes := #[34, 34] }, none⟩, []⟩,
  ⟨⟨some 6, Op.assign (Operand.tmp 26), none⟩, []⟩]) .skip))) (.reg [⟨⟨some 17, Op.move (Operand.tmp 7), none⟩, []⟩,
  ⟨⟨some 18, Op.binOp BinOp.add 3 (Operand.tmp 17) (Operand.const (Value.int IntKind.i64 1)) 3, none⟩, []⟩,
  ⟨⟨some 7, Op.assign (Operand.tmp 18), none⟩, []⟩])))))) (.seq (.reg [⟨⟨some 27, Op.move (Operand.tmp 6), none⟩, []⟩,
  ⟨⟨some 4, Op.assign (Operand.tmp 27), none⟩, []⟩,
  ⟨⟨some 5, Op.assign (Operand.const (Value.bool true)), none⟩, []⟩]) .ret)))))
theorem sl20 : slim Tryz.f20.ntmps ords20 (Tryz.f20.body.getD .skip) = some cd20 := by kernel_rfl
theorem in20 {args : List Value} {H : AH} {R : Value → AH → Prop} (hl : args.length = 2) (h : ∀ (Q : Exit → Sl → AH → Prop), (∀ e s H, endA Tryz.prog [ResultVar.tmp 4, ResultVar.tmp 5] R e s H → Q e s H) → wpC Tryz.prog cd20 Q (enterA args) H) : ACalls Tryz.prog 20 args H R :=
  ACalls.intro (by kernel_rfl) Tryz.func20 rfl (by kernel_rfl) sl20 hl (of_decide_eq_true (by kernel_rfl)) (by kernel_rfl) h
def ords19 : List (Nat × List (Nat × Bool)) := []
def cd19 : Cd := (.seq (.reg [⟨⟨some 4, Op.assign (Operand.const (Value.slice none 0 0)), none⟩, []⟩,
  ⟨⟨some 5, Op.assign (Operand.const (Value.bool false)), none⟩, []⟩]) (.seq (.seq (.reg [⟨⟨some 8, Op.move (Operand.tmp 0), none⟩, []⟩,
  ⟨⟨some 9, Op.move (Operand.tmp 1), none⟩, []⟩,
  ⟨⟨some 10, Op.buildSlice 25 1 #[(0, (Operand.tmp 9))], none⟩, []⟩,
  ⟨⟨some 11, Op.call { callee := (Callee.value (Operand.func 70)), args := #[(Operand.tmp 8), (Operand.tmp 10)], argTypes := #[3, 25] }, none⟩, []⟩,
  ⟨⟨some 12, Op.unOp UnOp.not 4 (Operand.tmp 11), none⟩, []⟩]) (.cond (Operand.tmp 12) (.seq (.reg [⟨⟨some 4, Op.assign (Operand.const (Value.slice none 0 0)), none⟩, []⟩,
  ⟨⟨some 5, Op.assign (Operand.const (Value.bool false)), none⟩, []⟩]) .ret) .skip)) (.seq (.reg [⟨⟨some 13, Op.buildSlice 34 0 #[], none⟩, []⟩,
  ⟨⟨some 6, Op.assign (Operand.tmp 13), none⟩, []⟩]) (.seq (.seq (.reg [⟨⟨some 14, Op.move (Operand.tmp 0), none⟩, []⟩,
  ⟨⟨some 15, Op.move (Operand.const (Value.int IntKind.i64 0)), none⟩, []⟩]) (.block 0 (.loop (.seq (.reg [⟨⟨some 16, Op.binOp BinOp.lss 3 (Operand.tmp 15) (Operand.tmp 14) 3, none⟩, []⟩]) (.seq (.cond (Operand.tmp 16) .skip (.exit 0)) (.seq (.block 1 (.seq (.reg [⟨⟨some 17, Op.move (Operand.tmp 15), none⟩, []⟩,
  ⟨⟨some 7, Op.assign (Operand.tmp 17), none⟩, []⟩]) (.seq (.reg [⟨⟨some 18, Op.move (Operand.tmp 1), none⟩, []⟩,
  ⟨⟨some 19, Op.move (Operand.tmp 7), none⟩, []⟩,
  ⟨⟨some 20, Op.call { callee := (Callee.value (Operand.func 85)), args := #[(Operand.tmp 18), (Operand.tmp 19)], argTypes := #[34, 3] }, none⟩, []⟩,
  ⟨⟨some 21, Op.binOp BinOp.eql 3 (Operand.tmp 20) (Operand.const (Value.int IntKind.i64 0)) 3, none⟩, []⟩]) (.cond (Operand.tmp 21) (.reg [⟨⟨some 22, Op.move (Operand.tmp 6), none⟩, []⟩,
  ⟨⟨some 23, Op.move (Operand.tmp 7), none⟩, []⟩,
  ⟨⟨some 24, Op.buildSlice 34 1 #[(0, (Operand.tmp 23))], none⟩, []⟩,
  ⟨⟨some 25, Op.call { callee := (Callee.builtin Builtin.append), args := #[(Operand.tmp 22), (Operand.tmp 24)], argTypes := #[34, 34] }, none⟩, []⟩,
  ⟨⟨some 6, Op.assign (Operand.tmp 25), none⟩, []⟩]) .skip)))) (.reg [⟨⟨some 26, Op.binOp BinOp.add 3 (Operand.tmp 15) (Operand.const (Value.int IntKind.i64 1)) 3, none⟩, []⟩,
  ⟨⟨some 15, Op.move (Operand.tmp 26), none⟩, []⟩]))))))) (.seq (.reg [⟨⟨some 27, Op.move (Operand.tmp 6), none⟩, []⟩,
  ⟨⟨some 4, Op.assign (Operand.tmp 27), none⟩, []⟩,
  ⟨⟨some 5, Op.assign (Operand.const (Value.bool true)), none⟩, []⟩]) .ret)))))
theorem sl19 : slim Tryz.f19.ntmps ords19 (Tryz.f19.body.getD .skip) = some cd19 := by kernel_rfl
theorem in19 {args : List Value} {H : AH} {R : Value → AH → Prop} (hl : args.length = 2) (h : ∀ (Q : Exit → Sl → AH → Prop), (∀ e s H, endA Tryz.prog [ResultVar.tmp 4, ResultVar.tmp 5] R e s H → Q e s H) → wpC Tryz.prog cd19 Q (enterA args) H) : ACalls Tryz.prog 19 args H R :=
  ACalls.intro (by kernel_rfl) Tryz.func19 rfl (by kernel_rfl) sl19 hl (of_decide_eq_true (by kernel_rfl)) (by kernel_rfl) h
end Go.Proofs.YtdgapefbbdfpbaaGreat.Ai
namespace Go.Proofs.YtdgapefbbdfpbaaGreat.Ai
open Go Go.RowKit
set_option linter.unusedVariables false
set_option linter.unusedSimpArgs false
def ears (xs : List Int) : Nat → List Int
  | 0 => []
  | k + 1 => ears xs k ++ if atN xs (k : Int) = 0 then [(k : Int)] else []
theorem ears_len (xs : List Int) (k : Nat) : (ears xs k).length ≤ k := by
  induction k with
  | zero => exact Nat.le_refl _
  | succ k ih => simp only [ears, List.length_append]; split <;> simp <;> omega
def earsR (n : Int) (xs : List Int) : List Int := if Tri1 n xs then ears xs n.toNat else []
set_option maxHeartbeats 2000000 in
theorem EarsS_c (n : Int) (v : Value) (xs : List Int) (H : AH) (hr : Row 3 H v xs) (hlen : xs.length ≤ 1099511627776) (hxs : ∀ y ∈ xs, I64 y) :
    ACalls Tryz.prog 20 [.int .i64 n, v] H fun r H' => ∃ g, r = .tuple (List.toArray [g, .bool (decide (Tri1 n xs))]) ∧ Mine 3 H H' g (earsR n xs) ∧ H <+: H' := by
  refine in20 rfl ?_
  intro Q hQ
  have hp0 := List.prefix_append H [AObj.cells [] 3 false]
  have hown0 : Own 3 H (H ++ [AObj.cells [] 3 false]) (.slice (some ⟨H.length, 0, none⟩) 0 0) [] := .inr ⟨H.length, rfl, Nat.le_refl _, at_new ..⟩
  simp (maxSteps := 1000000) (disch := omega) only [cd20, S, S1, S2, S3, S4, S5, ST, eq_self, reduceIte, reduceCtorEq, Nat.reduceEqDiff, Nat.reduceAdd]
  refine CallH.by (valid_c n v xs _ (hr.pre hp0) hlen hxs) ?_
  rintro _ H1 ⟨rfl, hp1⟩
  have hp := hp0.trans hp1
  simp (maxSteps := 1000000) (disch := omega) only [S, S1, S2, S3, S4, S5, ST, eq_self, reduceIte, reduceCtorEq, Nat.reduceEqDiff, Nat.reduceAdd]
  refine brD.intro (fun ha => ?_) (fun ha => ?_) <;> simp (maxSteps := 1000000) (disch := omega) only [ha, S, S1, S2, S3, S4, S5, ST, eq_self, reduceIte, reduceCtorEq, Nat.reduceEqDiff, Nat.reduceAdd]
  · have hn := ha.1
    refine LoopH.by (fun m s H' => ∃ i, m + i = n.toNat ∧ s 0 = .int .i64 n ∧ s 1 = v ∧ s 7 = .int .i64 ((i : Nat) : Int) ∧ Own 3 H H' (s 6) (ears xs i) ∧ H <+: H') n.toNat ?_ ?_
    · refine ⟨0, by simp, rfl, rfl, rfl, ?_, hp⟩
      simp (maxSteps := 1000000) (disch := omega) only [S, S1, S2, S3, S4, S5, ST, eq_self, reduceIte, reduceCtorEq, Nat.reduceEqDiff, Nat.reduceAdd]; exact hown0.pre hp1
    · rintro m s H' ⟨i, hm, h0, h1, h7, hown, hpp⟩
      have hr' := hr.pre hpp
      have hel := ears_len xs i
      have st : ears xs (i + 1) = ears xs i ++ if atN xs (i : Int) = 0 then [(i : Int)] else [] := rfl
      generalize hE : ears xs i = E at *
      generalize hw : s 6 = w at *
      simp (maxSteps := 1000000) (disch := omega) only [h0, h1, h7, hw, S, S1, S2, S3, S4, S5, ST, eq_self, reduceIte, reduceCtorEq, Nat.reduceEqDiff, Nat.reduceAdd]
      refine brD.intro (fun g => ?_) (fun g => ?_) <;> simp (maxSteps := 1000000) (disch := omega) only [h0, h1, h7, hw, S, S1, S2, S3, S4, S5, ST, eq_self, reduceIte, reduceCtorEq, Nat.reduceEqDiff, Nat.reduceAdd]
      · refine CallH.by (l8At_c v xs _ H' hr' hlen hxs) ?_
        rintro _ _ ⟨rfl, rfl⟩
        simp (maxSteps := 1000000) (disch := omega) only [S, S1, S2, S3, S4, S5, ST, eq_self, reduceIte, reduceCtorEq, Nat.reduceEqDiff, Nat.reduceAdd]
        refine brD.intro (fun e => ?_) (fun e => ?_)
        · have hst : ears xs (i + 1) = E ++ [(i : Int)] := by rw [st, if_pos (by omega)]
          obtain ⟨w', H2, k1, k2, k3, k4, k5, k6⟩ := own1_34 hown hpp (by omega) (i : Int)
          rw [← hst] at k2
          simp (maxSteps := 1000000) (disch := omega) only [e, h0, h1, h7, hw, k1, wrap64, S, S1, S2, S3, S4, S5, ST, eq_self, reduceIte, reduceCtorEq, Nat.reduceEqDiff, Nat.reduceAdd]
          refine ⟨m - 1, by omega, i + 1, by omega, ?_⟩
          (repeat' apply And.intro) <;> first | exact k2 | exact k3 | (simp only [Value.int.injEq, true_and]; omega) | omega | rfl | assumption | (simp; done) | (simp; omega)
        · have hst : ears xs (i + 1) = E := by rw [st, if_neg (by omega), List.append_nil]
          simp (maxSteps := 1000000) (disch := omega) only [e, h0, h1, h7, hw, wrap64, S, S1, S2, S3, S4, S5, ST, eq_self, reduceIte, reduceCtorEq, Nat.reduceEqDiff, Nat.reduceAdd]
          refine ⟨m - 1, by omega, i + 1, by omega, ?_⟩
          rw [hst]
          (repeat' apply And.intro) <;> first | (simp only [Value.int.injEq, true_and]; omega) | omega | rfl | assumption | (simp; done) | (simp; omega)
      · refine hQ _ _ _ ?_
        simp (maxSteps := 1000000) (disch := omega) only [hw, hown.row.tup, S, S1, S2, S3, S4, S5, ST, eq_self, reduceIte, reduceCtorEq, Nat.reduceEqDiff, Nat.reduceAdd]
        have hi : i = n.toNat := by omega
        have e : earsR n xs = ears xs n.toNat := if_pos ha
        rw [e, ← hi, hE]
        exact ⟨w, by simp [ha], hown.mine, hpp⟩
  · refine hQ _ _ _ ?_
    simp (maxSteps := 1000000) (disch := omega) only [S, S1, S2, S3, S4, S5, ST, eq_self, reduceIte, reduceCtorEq, Nat.reduceEqDiff, Nat.reduceAdd]
    have e : earsR n xs = [] := if_neg ha
    rw [e]
    exact ⟨_, by simp [ha], (hown0.pre hp1).mine, hp⟩
set_option maxHeartbeats 2000000 in
theorem EarsI_c (n : Int) (v : Value) (xs : List Int) (H : AH) (hr : Row 3 H v xs) (hlen : xs.length ≤ 1099511627776) (hxs : ∀ y ∈ xs, I64 y) :
    ACalls Tryz.prog 19 [.int .i64 n, v] H fun r H' => ∃ g, r = .tuple (List.toArray [g, .bool (decide (Tri1 n xs))]) ∧ Mine 3 H H' g (earsR n xs) ∧ H <+: H' := by
  refine in19 rfl ?_
  intro Q hQ
  obtain ⟨pv, ev⟩ := hr.shape
  subst ev
  simp (maxSteps := 1000000) (disch := omega) only [cd19, S, S1, S2, S3, S4, S5, ST, eq_self, reduceIte, reduceCtorEq, Nat.reduceEqDiff, Nat.reduceAdd]
  generalize hv : Value.slice pv xs.length xs.length = v at *
  have hp0 : H <+: H ++ [AObj.cells [v] 34 false] := List.prefix_append _ _
  refine CallH.by (are1_c n v xs _ _ H rfl rfl hr hlen hxs) ?_
  rintro _ H1 ⟨rfl, hp1⟩
  have hp := hp0.trans hp1
  simp (maxSteps := 1000000) (disch := omega) only [S, S1, S2, S3, S4, S5, ST, eq_self, reduceIte, reduceCtorEq, Nat.reduceEqDiff, Nat.reduceAdd]
  refine brD.intro (fun ha => ?_) (fun ha => ?_) <;> simp (maxSteps := 1000000) (disch := omega) only [ha, S, S1, S2, S3, S4, S5, ST, eq_self, reduceIte, reduceCtorEq, Nat.reduceEqDiff, Nat.reduceAdd]
  · have hn := ha.1
    have hown0 : Own 3 H (H1 ++ [AObj.cells [] 3 false]) (.slice (some ⟨H1.length, 0, none⟩) 0 0) [] := .inr ⟨H1.length, rfl, hp.length_le, at_new ..⟩
    refine LoopH.by (fun m s H' => ∃ i, m + i = n.toNat ∧ s 1 = v ∧ s 15 = .int .i64 ((i : Nat) : Int) ∧ s 14 = .int .i64 n ∧ Own 3 H H' (s 6) (ears xs i) ∧ H <+: H') n.toNat ?_ ?_
    · refine ⟨0, by simp, rfl, rfl, rfl, ?_, pre_app hp _⟩
      simp (maxSteps := 1000000) (disch := omega) only [S, S1, S2, S3, S4, S5, ST, eq_self, reduceIte, reduceCtorEq, Nat.reduceEqDiff, Nat.reduceAdd]; exact hown0
    · rintro m s H' ⟨i, hm, h1, h7, h8, hown, hpp⟩
      have hr' := hr.pre hpp
      have hel := ears_len xs i
      have st : ears xs (i + 1) = ears xs i ++ if atN xs (i : Int) = 0 then [(i : Int)] else [] := rfl
      generalize hE : ears xs i = E at *
      generalize hw : s 6 = w at *
      simp (maxSteps := 1000000) (disch := omega) only [h1, h7, h8, hw, S, S1, S2, S3, S4, S5, ST, eq_self, reduceIte, reduceCtorEq, Nat.reduceEqDiff, Nat.reduceAdd]
      refine brD.intro (fun g => ?_) (fun g => ?_) <;> simp (maxSteps := 1000000) (disch := omega) only [h1, h7, h8, hw, S, S1, S2, S3, S4, S5, ST, eq_self, reduceIte, reduceCtorEq, Nat.reduceEqDiff, Nat.reduceAdd]
      · refine CallH.by (at_c v xs _ H' hr' hlen hxs) ?_
        rintro _ _ ⟨rfl, rfl⟩
        simp (maxSteps := 1000000) (disch := omega) only [S, S1, S2, S3, S4, S5, ST, eq_self, reduceIte, reduceCtorEq, Nat.reduceEqDiff, Nat.reduceAdd]
        refine brD.intro (fun e => ?_) (fun e => ?_)
        · have hst : ears xs (i + 1) = E ++ [(i : Int)] := by rw [st, if_pos (by omega)]
          obtain ⟨w', H2, k1, k2, k3, k4, k5, k6⟩ := own1_34 hown hpp (by omega) (i : Int)
          rw [← hst] at k2
          simp (maxSteps := 1000000) (disch := omega) only [e, h1, h7, h8, hw, k1, wrap64, S, S1, S2, S3, S4, S5, ST, eq_self, reduceIte, reduceCtorEq, Nat.reduceEqDiff, Nat.reduceAdd]
          refine ⟨m - 1, by omega, i + 1, by omega, ?_⟩
          (repeat' apply And.intro) <;> first | exact k2 | exact k3 | (simp only [Value.int.injEq, true_and]; omega) | omega | rfl | assumption | (simp; done) | (simp; omega)
        · have hst : ears xs (i + 1) = E := by rw [st, if_neg (by omega), List.append_nil]
          simp (maxSteps := 1000000) (disch := omega) only [e, h1, h7, h8, hw, wrap64, S, S1, S2, S3, S4, S5, ST, eq_self, reduceIte, reduceCtorEq, Nat.reduceEqDiff, Nat.reduceAdd]
          refine ⟨m - 1, by omega, i + 1, by omega, ?_⟩
          rw [hst]
          (repeat' apply And.intro) <;> first | (simp only [Value.int.injEq, true_and]; omega) | omega | rfl | assumption | (simp; done) | (simp; omega)
      · refine hQ _ _ _ ?_
        simp (maxSteps := 1000000) (disch := omega) only [hw, hown.row.tup, S, S1, S2, S3, S4, S5, ST, eq_self, reduceIte, reduceCtorEq, Nat.reduceEqDiff, Nat.reduceAdd]
        have hi : i = n.toNat := by omega
        have e : earsR n xs = ears xs n.toNat := if_pos ha
        rw [e, ← hi, hE]
        exact ⟨w, by simp [ha], hown.mine, hpp⟩
  · refine hQ _ _ _ ?_
    simp (maxSteps := 1000000) (disch := omega) only [S, S1, S2, S3, S4, S5, ST, eq_self, reduceIte, reduceCtorEq, Nat.reduceEqDiff, Nat.reduceAdd]
    have e : earsR n xs = [] := if_neg ha
    rw [e]
    exact ⟨_, by simp [ha], .inl ⟨rfl, rfl⟩, hp⟩
end Go.Proofs.YtdgapefbbdfpbaaGreat.Ai
namespace Go.Proofs.YtdgapefbbdfpbaaGreat.Ai
open Go
/-- a corner turned, and perhaps mirrored -/
def trnC (n b : Int) (mir : Bool) (x : Int) : Int := ((if mir = true then n - 1 - x else x) + b).tmod n
def trnD (n b : Int) (mir : Bool) (d : Int) : Int :=
  10 * (if trnC n b mir (d.tdiv 10) < trnC n b mir (d.tmod 10) then trnC n b mir (d.tdiv 10) else trnC n b mir (d.tmod 10)) + (if trnC n b mir (d.tmod 10) < trnC n b mir (d.tdiv 10) then trnC n b mir (d.tdiv 10) else trnC n b mir (d.tmod 10))
theorem dgs_bd : ∀ n : Fin 9, 3 ≤ n.val → ∀ d ∈ dgs (n.val : Int) n.val, (0 ≤ d.tdiv 10 ∧ d.tdiv 10 ≤ n.val - 1) ∧ (0 ≤ d.tmod 10 ∧ d.tmod 10 ≤ n.val - 1) := by decide +kernel
theorem trn_nodup : ∀ n : Fin 9, 3 ≤ n.val → ∀ b : Fin 9, b.val < n.val → ∀ mir : Bool, ((dgs (n.val : Int) n.val).map (trnD n.val b.val mir)).Nodup := by decide +kernel
theorem inj_of_nodup {L : List Int} {f : Int → Int} (h : (L.map f).Nodup) {a b : Int} (ha : a ∈ L) (hb : b ∈ L) (e : f a = f b) : a = b := by
  obtain ⟨i, hi, ei⟩ := List.getElem_of_mem ha
  obtain ⟨j, hj, ej⟩ := List.getElem_of_mem hb
  rw [List.Nodup, List.pairwise_iff_getElem] at h
  rcases Nat.lt_trichotomy i j with hij | hij | hij
  · have := h i j (by simpa using hi) (by simpa using hj) hij
    simp only [List.getElem_map, ei, ej] at this
    exact absurd e this
  · subst hij; rw [← ei, ← ej]
  · have := h j i (by simpa using hj) (by simpa using hi) hij
    simp only [List.getElem_map, ei, ej] at this
    exact absurd e.symm this
theorem Tri1.nodup {n : Int} {xs : List Int} (h : Tri1 n xs) : xs.Nodup := by
  have h2 := h.2
  unfold triS triOkS at h2
  simp only [Bool.and_eq_true, List.all_eq_true, decide_eq_true_eq, Bool.or_eq_true] at h2
  have step : ∀ i, 0 < i → i < xs.length → xs.getD (i - 1) 0 < xs.getD i 0 := by
    intro i h0 hi
    rcases (h2.1 i (List.mem_range.2 hi)).1.2 with e | e
    · omega
    · exact e
  have lt : ∀ d i, i + d + 1 < xs.length → xs.getD i 0 < xs.getD (i + d + 1) 0 := by
    intro d
    induction d with
    | zero => intro i hi; have := step (i + 1) (by omega) hi; simpa using this
    | succ d ih =>
      intro i hi
      have h1 := ih i (by omega)
      have h2 := step (i + (d + 1) + 1) (by omega) hi
      rw [show i + (d + 1) + 1 - 1 = i + d + 1 from by omega] at h2
      omega
  rw [List.Nodup, List.pairwise_iff_getElem]
  intro i j hi hj hij
  have := lt (j - i - 1) i (by omega)
  rw [show i + (j - i - 1) + 1 = j from by omega] at this
  simp only [List.getD_eq_getElem?_getD, List.getElem?_eq_getElem hi, List.getElem?_eq_getElem hj, Option.getD_some] at this
  omega
theorem trn_list {n b : Int} {mir : Bool} {xs : List Int} (h : Tri1 n xs) (hb : 0 ≤ b ∧ b ≤ n - 1) : (xs.map (trnD n b mir)).Nodup := by
  have hn := h.1
  obtain ⟨N, rfl⟩ : ∃ N : Nat, n = N := ⟨n.toNat, by omega⟩
  obtain ⟨B, rfl⟩ : ∃ B : Nat, b = B := ⟨b.toNat, by omega⟩
  have key := trn_nodup ⟨N, by omega⟩ (by show 3 ≤ N; omega) ⟨B, by omega⟩ (by show B < N; omega) mir
  have hx := h.nodup
  rw [List.Nodup, List.pairwise_iff_getElem] at hx ⊢
  intro i j hi hj hij
  simp only [List.length_map] at hi hj
  have hne := hx i j hi hj hij
  simp only [List.getElem_map]
  intro e
  have m1 := h.mem (List.getElem_mem hi)
  have m2 := h.mem (List.getElem_mem hj)
  simp only [Int.toNat_natCast] at m1 m2
  exact hne (inj_of_nodup key m1 m2 e)
theorem corner_bd {n d : Int} {xs : List Int} (h : Tri1 n xs) (hd : d ∈ xs) : (0 ≤ d.tdiv 10 ∧ d.tdiv 10 ≤ n - 1) ∧ (0 ≤ d.tmod 10 ∧ d.tmod 10 ≤ n - 1) := by
  have hn := h.1
  obtain ⟨N, rfl⟩ : ∃ N : Nat, n = N := ⟨n.toNat, by omega⟩
  have m := h.mem hd
  simp only [Int.toNat_natCast] at m
  have := dgs_bd ⟨N, by omega⟩ (by show 3 ≤ N; omega) d m
  simpa using this
theorem trnC_bd {n b x : Int} {mir : Bool} (hn : 3 ≤ n ∧ n ≤ 8) (hb : 0 ≤ b ∧ b ≤ n - 1) (hx : 0 ≤ x ∧ x ≤ n - 1) : 0 ≤ trnC n b mir x ∧ trnC n b mir x ≤ n - 1 := by
  unfold trnC
  have h1 := Int.tmod_nonneg n (show 0 ≤ (if mir = true then n - 1 - x else x) + b by split <;> omega)
  have h2 := Int.tmod_lt_of_pos ((if mir = true then n - 1 - x else x) + b) (show 0 < n by omega)
  omega
theorem trnD_bd {n b d : Int} {mir : Bool} {xs : List Int} (h : Tri1 n xs) (hd : d ∈ xs) (hb : 0 ≤ b ∧ b ≤ n - 1) : 0 ≤ trnD n b mir d ∧ trnD n b mir d ≤ 100 := by
  obtain ⟨c1, c2⟩ := corner_bd h hd
  have t1 := trnC_bd (mir := mir) h.1 hb c1
  have t2 := trnC_bd (mir := mir) h.1 hb c2
  have := h.1
  unfold trnD
  split <;> split <;> omega
def turnOk (n : Int) (xs : List Int) (b : Int) : Prop := Tri1 n xs ∧ 0 ≤ b ∧ b ≤ n - 1
instance (n : Int) (xs : List Int) (b : Int) : Decidable (turnOk n xs b) := inferInstanceAs (Decidable (_ ∧ _))
def turnR (n : Int) (xs : List Int) (b : Int) (mir : Bool) : List Int := if turnOk n xs b then puts (xs.map (trnD n b mir)) else []
end Go.Proofs.YtdgapefbbdfpbaaGreat.Ai
namespace Go.Proofs.YtdgapefbbdfpbaaGreat.Ai
open Go
set_option linter.unusedVariables false
/-- what holds all along -/
structure BI (N : Nat) (st : List Int × List Int) : Prop where
  len : st.1.length = N
  q : ∀ x ∈ st.2, (0 ≤ x ∧ x < N) ∧ 0 ≤ st.1.getD x.toNat 0
  lo : ∀ v, v < N → -1 ≤ st.1.getD v 0 ∧ st.1.getD v 0 < st.2.length
  cnt : st.2.length + st.1.countP (· < 0) = N
theorem countP_set_neg (xs : List Int) (j : Nat) (d : Int) (hj : j < xs.length) (h : xs.getD j 0 < 0) (hd : 0 ≤ d) : (xs.set j d).countP (· < 0) + 1 = xs.countP (· < 0) := by
  induction xs generalizing j with
  | nil => simp at hj
  | cons x xs ih =>
    cases j with
    | zero =>
      have hx : x < 0 := by simpa using h
      simp only [List.set_cons_zero, List.countP_cons]
      simp only [decide_eq_true_eq]
      rw [if_neg (by omega), if_pos hx]
    | succ j =>
      have := ih j (by simpa using hj) (by simpa using h)
      simp only [List.set_cons_succ, List.countP_cons]
      omega
theorem getD_setB (xs : List Int) (j v : Nat) (d : Int) (hv : v < xs.length) : (xs.set j d).getD v 0 = if j = v then d else xs.getD v 0 := by
  rw [List.getD_eq_getElem?_getD, List.getD_eq_getElem?_getD, List.getElem?_set]
  by_cases h : j = v
  · subst h; rw [if_pos rfl, if_pos rfl, if_pos hv]; rfl
  · rw [if_neg h, if_neg h]
theorem BI.put {N : Nat} {st : List Int × List Int} (h : BI N st) {j d : Int} (hj : 0 ≤ j ∧ j < N) (hn : st.1.getD j.toNat 0 < 0) (hd : 0 ≤ d ∧ d ≤ st.2.length) : BI N (st.1.set j.toNat d, st.2 ++ [j]) := by
  have hl := h.len
  refine ⟨by simp [hl], ?_, ?_, ?_⟩
  · intro x hx
    simp only [List.mem_append, List.mem_cons, List.not_mem_nil, or_false] at hx
    rcases hx with hx | rfl
    · obtain ⟨h1, h2⟩ := h.q x hx
      refine ⟨h1, ?_⟩
      show 0 ≤ (st.1.set j.toNat d).getD x.toNat 0
      rw [getD_setB _ _ _ _ (by omega)]
      split <;> omega
    · refine ⟨hj, ?_⟩
      show 0 ≤ (st.1.set x.toNat d).getD x.toNat 0
      rw [getD_setB _ _ _ _ (by omega), if_pos rfl]; omega
  · intro v hv
    have := h.lo v hv
    show -1 ≤ (st.1.set j.toNat d).getD v 0 ∧ (st.1.set j.toNat d).getD v 0 < ((st.2 ++ [j]).length : Nat)
    rw [getD_setB _ _ _ _ (by omega)]
    simp only [List.length_append, List.length_cons, List.length_nil]
    split <;> omega
  · have := countP_set_neg st.1 j.toNat d (by omega) hn hd.1
    have := h.cnt
    show (st.2 ++ [j]).length + (st.1.set j.toNat d).countP (· < 0) = N
    simp only [List.length_append, List.length_cons, List.length_nil]
    omega
end Go.Proofs.YtdgapefbbdfpbaaGreat.Ai
namespace Go.Proofs.YtdgapefbbdfpbaaGreat.Ai
open Go
end Go.Proofs.YtdgapefbbdfpbaaGreat.Ai
namespace Go.Proofs.YtdgapefbbdfpbaaGreat.Ai
open Go Go.RowKit
set_option linter.unusedVariables false
set_option linter.unusedSimpArgs false
/-- a part of an object -/
theorem sl_own {P : Program} {t e : TypeId} (hu : P.underlying t = some (.slice e)) (hc : P.cellsOf e = 1) {H : AH} {o k n c : Nat} {vs : List Value} {ro : Bool} (ho : H[o]? = some (.cells vs e ro)) {lo hi : Option Value} {l r : Nat} (h1 : boundA lo 0 = some l) (h2 : boundA hi n = some r) (hl : l ≤ r) (hr : r ≤ n) :
    sliceA P t (.slice (some ⟨o, k, none⟩) n c) lo hi none H = some (.slice (some ⟨o, k + l, none⟩) (r - l) (r - l)) := by
  simp only [sliceA, hu, h1, h2, ho, hc, Nat.mul_one]
  rw [if_pos ⟨hl, hr, trivial, Nat.one_pos⟩]
end Go.Proofs.YtdgapefbbdfpbaaGreat.Ai
namespace Go.Proofs.YtdgapefbbdfpbaaGreat.Ai
open Go
end Go.Proofs.YtdgapefbbdfpbaaGreat.Ai
namespace Go.Proofs.YtdgapefbbdfpbaaGreat.Ai
open Go Go.RowKit
set_option linter.unusedVariables false
set_option linter.unusedSimpArgs false
/-- the list of distances and the queue in the heap -/
def QH (H0 H : AH) (oo : Nat) (out : List Int) (oq kq nq : Nat) (q : List Int) : Prop :=
  (∃ zs, H[oq]? = some (.cells (ints zs) 3 false) ∧ (zs.drop kq).take nq = q ∧ kq + nq ≤ zs.length) ∧ H[oo]? = some (.cells (ints out) 3 false) ∧ H0.length ≤ oo ∧ H0.length ≤ oq ∧ oq ≠ oo ∧ H0 <+: H
/-- appending to a part of an object of ints -/
theorem app_q {P : Program} {t e : TypeId} (hu : P.underlying t = some (.slice e)) (hc : P.cellsOf e = 1) (hby : P.bytesOf e ≤ 64) (hz : zeroOk P e = true) {H : AH} {o k n c : Nat} {zs : List Int} {x : Int} (ho : H[o]? = some (.cells (ints zs) e false)) (hn : k + n ≤ zs.length) (hb : n ≤ 1099511627775) :
    appendA P t t (.slice (some ⟨o, k, none⟩) n c) (.slice (some ⟨H.length, 0, none⟩) 1 1) (H ++ [.cells [.int .i64 x] e false]) = some (.slice (some ⟨H.length + 1, 0, none⟩) (n + 1) (n + 1), H.set o .dead ++ [.cells [.int .i64 x] e false, .cells (ints ((zs.drop k).take n ++ [x])) e false]) := by
  have hlt : o < H.length := at_lt ho
  have hb2 : (n + 1) * P.bytesOf e ≤ 140737488355328 := by
    refine Nat.le_trans (Nat.mul_le_mul_left _ hby) ?_
    omega
  have ho2 : (H ++ [AObj.cells [.int .i64 x] e false])[o]? = some (.cells (ints zs) e false) := at_app ho _
  have hsc : sliceCells P e (.slice (some ⟨H.length, 0, none⟩) 1 1) (H ++ [.cells [.int .i64 x] e false]) = some (1, [.int .i64 x]) := by
    simp only [sliceCells, at_new, hc]; simp
  simp only [appendA, hu, hc, hsc, ho2, hz]
  rw [if_pos (by simp), if_neg (by simp), if_pos ⟨trivial, by rw [ints_len]; omega, hb2, by omega, trivial⟩]
  have : List.take (n * 1) (List.drop k (ints zs)) ++ [Value.int .i64 x] = ints ((zs.drop k).take n ++ [x]) := by
    simp [ints, List.map_take, List.map_drop]
  rw [this, List.length_append, List.set_append_left _ _ hlt]
  simp
theorem QH.push {H0 H : AH} {oo : Nat} {out : List Int} {oq kq nq : Nat} {q : List Int} (h : QH H0 H oo out oq kq nq q) (y : Nat) (d x : Int) (hb : nq ≤ 1099511627775) :
    ∃ H2, appendA Tryz.prog 34 34 (.slice (some ⟨oq, kq, none⟩) nq nq) (.slice (some ⟨(H.set oo (.cells (ints (out.set y d)) 3 false)).length, 0, none⟩) 1 1) (H.set oo (.cells (ints (out.set y d)) 3 false) ++ [.cells [.int .i64 x] 3 false]) = some (.slice (some ⟨(H.set oo (.cells (ints (out.set y d)) 3 false)).length + 1, 0, none⟩) (nq + 1) (nq + 1), H2) ∧
      QH H0 H2 oo (out.set y d) ((H.set oo (.cells (ints (out.set y d)) 3 false)).length + 1) 0 (nq + 1) (q ++ [x]) := by
  obtain ⟨⟨zs, h1, h2, h3⟩, h4, h5, h6, h7, h8⟩ := h
  have hlt := at_lt h4
  generalize hH1 : H.set oo (.cells (ints (out.set y d)) 3 false) = H1
  have l1 : H1.length = H.length := by rw [← hH1]; simp
  have k1 : H1[oq]? = some (.cells (ints zs) 3 false) := by rw [← hH1, List.getElem?_set_ne (fun e => h7 e.symm)]; exact h1
  have k4 : H1[oo]? = some (.cells (ints (out.set y d)) 3 false) := by rw [← hH1]; exact at_set h4
  have hp1 : H0 <+: H1 := by rw [← hH1]; exact pre_set h8 h5 _
  refine ⟨_, app_q Tryz.underlying34 cs3 (by rw [by3]; decide) zk3 k1 h3 hb, ⟨(zs.drop kq).take nq ++ [x], ?_, ?_, ?_⟩, ?_, h5, ?_, ?_, ?_⟩
  · rw [List.getElem?_append_right (by simp)]
    simp
  · rw [List.drop_zero, h2, List.take_of_length_le]
    rw [← h2]; simp; omega
  · simp; omega
  · rw [List.getElem?_append_left (by simp; omega), List.getElem?_set_ne h7]
    exact k4
  · have := h8.length_le; omega
  · omega
  · exact pre_app (pre_set hp1 h6 _) _
theorem QH.tail {H0 H : AH} {oo : Nat} {out : List Int} {oq kq nq : Nat} {x : Int} {q : List Int} (h : QH H0 H oo out oq kq nq (x :: q)) : QH H0 H oo out oq (kq + 1) (nq - 1) q ∧ cellA H oq kq = some (.int .i64 x) ∧ 0 < nq := by
  obtain ⟨⟨zs, h1, h2, h3⟩, h4⟩ := h
  have hl := congrArg List.length h2
  simp only [List.length_take, List.length_drop, List.length_cons] at hl
  have hk : kq < zs.length := by omega
  obtain ⟨n, rfl⟩ : ∃ n, nq = n + 1 := ⟨nq - 1, by omega⟩
  rw [List.drop_eq_getElem_cons hk, List.take_succ_cons] at h2
  injection h2 with e1 e2
  refine ⟨⟨⟨zs, h1, by simpa using e2, by omega⟩, h4⟩, ?_, by omega⟩
  rw [cell_of h1, ints_at zs hk]
  congr 2
  simp [hk, e1]
theorem QH.at {H0 H : AH} {oo : Nat} {out : List Int} {oq kq nq : Nat} {q : List Int} (h : QH H0 H oo out oq kq nq q) {j : Nat} (hj : j < q.length) : cellA H oq (kq + j) = some (.int .i64 (q.getD j 0)) := by
  obtain ⟨⟨zs, h1, h2, h3⟩, _⟩ := h
  have hl := congrArg List.length h2
  simp only [List.length_take, List.length_drop] at hl
  have hk : kq + j < zs.length := by omega
  rw [cell_of h1, ints_at zs hk]
  congr 2
  rw [← h2, List.getD_eq_getElem?_getD, List.getD_eq_getElem?_getD, List.getElem?_take, if_pos (by omega), List.getElem?_drop]
end Go.Proofs.YtdgapefbbdfpbaaGreat.Ai
namespace Go.Proofs.YtdgapefbbdfpbaaGreat.Ai
open Go Go.RowKit
set_option linter.unusedVariables false
set_option linter.unusedSimpArgs false
/-- the list so far in the variable pe, and what stays (fx) -/
structure LSt (HB : AH) (fx : List (Nat × AObj)) (pe : Nat) (F : Nat → Prop) (H : AH) (ed : List Int) : Prop where
  fix : ∀ q ∈ fx, H[q.1]? = some q.2 ∧ ¬ F q.1 ∧ q.1 ≠ pe
  e : ∃ oe zs, H[pe]? = some (.cells [.slice (some ⟨oe, 0, none⟩) ed.length ed.length] 34 false) ∧ H[oe]? = some (.cells (ints zs) 3 false) ∧ zs.take ed.length = ed ∧ ¬ F oe ∧ oe ≠ pe ∧ (∀ q ∈ fx, q.1 ≠ oe) ∧ HB.length ≤ oe
  out : ¬ F pe
  lo : HB.length ≤ pe
  pre : HB <+: H
section
variable {HB : AH} {fx : List (Nat × AObj)} {pe : Nat} {F F' : Nat → Prop} {H H' : AH} {ed : List Int}
/-- what changes other objects leaves all this -/
theorem LSt.cb (h : LSt HB fx pe F H ed) (hlive : ∀ o, F o → HB.length ≤ o) (hF : ∀ o, F' o → F o ∨ H.length ≤ o) (hk : ∀ o y, ¬ F o → H[o]? = some y → H'[o]? = some y) : LSt HB fx pe F' H' ed := by
  obtain ⟨oe, zs, e1, e2, e3, e4, e5⟩ := h.e
  have no : ∀ {o x}, ¬ F o → H[o]? = some x → ¬ F' o := fun ho hx hf => by
    rcases hF _ hf with g | g
    · exact ho g
    · have := at_lt hx; omega
  refine ⟨fun q hq => ?_, ⟨oe, zs, hk _ _ h.out e1, hk _ _ e4 e2, e3, no e4 e2, e5⟩, no h.out e1, h.lo, ?_⟩
  · obtain ⟨q1, q2, q3⟩ := h.fix q hq
    exact ⟨hk _ _ q2 q1, no q2 q1, q3⟩
  · exact prefix_of fun o x hx => hk o x (fun hf => by have := hlive o hf; have := at_lt hx; omega) (pre_at h.pre hx)
theorem LSt.grow (h : LSt HB fx pe F H ed) (hlive : ∀ o, F o → HB.length ≤ o) (hp : H <+: H') : LSt HB fx pe F H' ed := h.cb hlive (fun o ho => .inl ho) fun o y _ hy => pre_at hp hy
theorem LSt.row (h : LSt HB fx pe F H ed) : ∃ w, cellA H pe 0 = some w ∧ Row 3 H w ed ∧ ¬ F (rowO w) ∧ isTup w = false := by
  obtain ⟨oe, zs, e1, e2, e3, e4, e5⟩ := h.e
  refine ⟨_, cell_of e1 0, ?_, e4, rfl⟩
  have hzl : ed.length ≤ zs.length := by
    have := congrArg List.length e3
    rw [List.length_take] at this; omega
  refine .inr ⟨oe, 0, ints zs, false, rfl, e2, by rw [ints_len]; omega, ?_⟩
  rw [List.drop_zero]
  have : (ints zs).take ed.length = ints (zs.take ed.length) := by simp [ints, List.map_take]
  rw [this, e3]
/-- one more -/
theorem LSt.push (h : LSt HB fx pe F H ed) (hlive : ∀ o, F o → o < H.length) (hb : ed.length ≤ 1048576) (x : Int) :
    ∃ w H2 H3, cellA H pe 0 = some (.slice (some w) ed.length ed.length) ∧ appendA Tryz.prog 34 34 (.slice (some w) ed.length ed.length) (.slice (some ⟨H.length, 0, none⟩) 1 1) (H ++ [.cells [.int .i64 x] 3 false]) = some (.slice (some ⟨H.length + 1, 0, none⟩) (ed.length + 1) (ed.length + 1), H2) ∧
      storeA Tryz.prog 34 (.pointer (some ⟨pe, 0, none⟩)) (.slice (some ⟨H.length + 1, 0, none⟩) (ed.length + 1) (ed.length + 1)) H2 = some H3 ∧ LSt HB fx pe F H3 (ed ++ [x]) ∧ (∀ o y, F o → H[o]? = some y → H3[o]? = some y) ∧ H.length ≤ H3.length ∧
      ∀ o y, o ≠ pe → (∀ w', cellA H pe 0 = some w' → o ≠ rowO w') → H[o]? = some y → H3[o]? = some y := by
  obtain ⟨oe, zs, e1, e2, e3, e4, e8, e5, e9⟩ := h.e
  have hzl : ed.length ≤ zs.length := by
    have := congrArg List.length e3
    rw [List.length_take] at this; omega
  have k1 := app_q (P := Tryz.prog) (t := 34) (k := 0) (n := ed.length) (c := ed.length) (x := x) Tryz.underlying34 cs3 (by rw [by3]; decide) zk3 e2 (by omega) (by omega)
  rw [List.drop_zero, e3] at k1
  have at_ : ∀ {o y}, o ≠ oe → H[o]? = some y → (H.set oe .dead ++ [AObj.cells [.int .i64 x] 3 false, .cells (ints (ed ++ [x])) 3 false])[o]? = some y := by
    intro o y ho hy
    rw [List.getElem?_append_left (by simpa using at_lt hy), List.getElem?_set_ne (fun e => ho e.symm)]
    exact hy
  have a1 := at_ (fun e => e8 e.symm) e1
  have hst := st_at (P := Tryz.prog) (t := 34) (i := 0) (y := .slice (some ⟨H.length + 1, 0, none⟩) (ed.length + 1) (ed.length + 1)) cs34 a1 (by show 0 < 1; decide) rfl rfl
  have l1 := at_lt e1
  have l2 := at_lt e2
  have aw : ∀ {o y}, o ≠ oe → o ≠ pe → H[o]? = some y → ((H.set oe .dead ++ [AObj.cells [.int .i64 x] 3 false, .cells (ints (ed ++ [x])) 3 false]).set pe (.cells ([Value.slice (some ⟨oe, 0, none⟩) ed.length ed.length].set 0 (.slice (some ⟨H.length + 1, 0, none⟩) (ed.length + 1) (ed.length + 1))) 34 false))[o]? = some y := by
    intro o y ho1 ho2 hy
    rw [List.getElem?_set_ne (fun e => ho2 e.symm)]
    exact at_ ho1 hy
  have lo := h.lo
  refine ⟨_, _, _, cell_of e1 0, k1, hst, ⟨fun q hq => ?_, ⟨H.length + 1, ed ++ [x], ?_, ?_, ?_, ?_, by omega, fun q hq => ?_, by have := h.pre.length_le; omega⟩, h.out, h.lo, ?_⟩, ?_, by simp, ?_⟩
  · obtain ⟨q1, q2, q3⟩ := h.fix q hq
    exact ⟨aw (e5 q hq) q3 q1, q2, q3⟩
  · rw [List.getElem?_set_self (by simp; omega)]
    simp
  · rw [List.getElem?_set_ne (by omega), List.getElem?_append_right (by simp)]
    simp
  · rw [List.take_of_length_le (Nat.le_refl _)]
  · intro hf; have := hlive _ hf; omega
  · have := at_lt (h.fix q hq).1; omega
  · exact prefix_of fun o y hy => aw (by have := at_lt hy; omega) (by have := at_lt hy; omega) (pre_at h.pre hy)
  · intro o y hf hy
    exact aw (fun e => e4 (e ▸ hf)) (fun e => h.out (e ▸ hf)) hy
  · intro o y ho1 ho2 hy
    exact aw (ho2 _ (cell_of e1 0)) ho1 hy
/-- the last one away -/
theorem LSt.pop {x : Int} (h : LSt HB fx pe F H (ed ++ [x])) :
    ∃ w c, cellA H pe 0 = some (.slice (some w) (ed.length + 1) c) ∧ sliceA Tryz.prog 34 (.slice (some w) (ed.length + 1) c) none (some (.int .i64 (ed.length : Int))) none H = some (.slice (some w) ed.length ed.length) ∧
      ∃ H3, storeA Tryz.prog 34 (.pointer (some ⟨pe, 0, none⟩)) (.slice (some w) ed.length ed.length) H = some H3 ∧ LSt HB fx pe F H3 ed ∧ (∀ o y, F o → H[o]? = some y → H3[o]? = some y) ∧ H3.length = H.length := by
  obtain ⟨oe, zs, e1, e2, e3, e4, e8, e5, e9⟩ := h.e
  have hl : (ed ++ [x]).length = ed.length + 1 := by simp
  rw [hl] at e1 e3
  have hz : zs.take ed.length = ed := by
    have := congrArg (List.take ed.length) e3
    rw [List.take_take, Nat.min_eq_left (by omega)] at this
    simpa using this
  have hsl := sl_own (P := Tryz.prog) (t := 34) (k := 0) (n := ed.length + 1) (c := ed.length + 1) Tryz.underlying34 cs3 e2 lo_none (bound_some (k := .i64) (i := (ed.length : Int)) (by omega) (ed.length + 1)) (Nat.zero_le _) (by omega)
  simp only [Int.toNat_natCast, Nat.add_zero, Nat.sub_zero] at hsl
  have hst := st_at (P := Tryz.prog) (t := 34) (i := 0) (y := .slice (some ⟨oe, 0, none⟩) ed.length ed.length) cs34 e1 (by show 0 < 1; decide) rfl rfl
  have aw : ∀ {o y}, o ≠ pe → H[o]? = some y → (H.set pe (.cells ([Value.slice (some ⟨oe, 0, none⟩) (ed.length + 1) (ed.length + 1)].set 0 (.slice (some ⟨oe, 0, none⟩) ed.length ed.length)) 34 false))[o]? = some y := by
    intro o y ho hy
    rw [List.getElem?_set_ne (fun e => ho e.symm)]; exact hy
  have lo := h.lo
  refine ⟨_, _, cell_of e1 0, hsl, _, hst, ⟨fun q hq => ?_, ⟨oe, zs, ?_, aw e8 e2, hz, e4, e8, e5, e9⟩, h.out, h.lo, ?_⟩, fun o y hf hy => aw (fun e => h.out (e ▸ hf)) hy, by simp⟩
  · obtain ⟨q1, q2, q3⟩ := h.fix q hq
    exact ⟨aw q3 q1, q2, q3⟩
  · rw [List.getElem?_set_self (at_lt e1)]; rfl
  · exact prefix_of fun o y hy => aw (by have := at_lt hy; omega) (pre_at h.pre hy)
end
/-- the objects of a list of lists -/
def Obs (o : Nat) (us : List Value) (ls : List (List Int)) (j : Nat) : Prop := j = o ∨ ∃ i, i < ls.length ∧ us.getD i undef ≠ .slice none 0 0 ∧ j = rowO (us.getD i undef)
theorem InU.refit2 {lo hi : Nat} {e2 e : TypeId} {H H' : AH} {o : Nat} {us : List Value} {ls : List (List Int)} (h : InU lo hi e2 e H o us ls) (hk : ∀ j y, Obs o us ls j → H[j]? = some y → H'[j]? = some y) : InU lo H'.length e2 e H' o us ls := by
  obtain ⟨h1, h2, h3, h4, h5, h6⟩ := h
  have k3 := hk _ _ (.inl rfl) h3
  refine ⟨h1, at_lt k3, k3, h4, fun i hi => ⟨?_, (h5 i hi).2⟩, h6⟩
  rcases (h5 i hi).1 with g | ⟨oo, zs, g1, g2, g3, g4, g5⟩
  · exact .inl g
  · have := hk oo _ (.inr ⟨i, hi, (by rw [g1]; intro e; cases e), (by rw [g1]; rfl)⟩) g4
    exact .inr ⟨oo, zs, g1, g2, at_lt this, this, g5⟩
theorem InU.obs {lo hi : Nat} {e2 e : TypeId} {H : AH} {o : Nat} {us : List Value} {ls : List (List Int)} (h : InU lo hi e2 e H o us ls) {j : Nat} (hj : Obs o us ls j) : lo ≤ j ∧ j < hi := by
  obtain ⟨h1, h2, h3, h4, h5, h6⟩ := h
  rcases hj with rfl | ⟨i, hi, hn, rfl⟩
  · exact ⟨h1, h2⟩
  · rcases (h5 i hi).1.at_ with g | g
    · exact absurd g hn
    · exact g
theorem getD_snoc {us : List Value} {n i : Nat} {c : Value} (hn : n ≤ us.length) : (us.take n ++ [c]).getD i undef = if i < n then us.getD i undef else if i = n then c else undef := by
  rw [List.getD_eq_getElem?_getD, List.getElem?_append]
  have hl : (us.take n).length = n := by simp; omega
  rw [hl]
  split
  · rw [List.getElem?_take, if_pos (by assumption), List.getD_eq_getElem?_getD]
  · split
    · rename_i h; subst h; simp
    · rw [List.getElem?_eq_none (by simp; omega)]; rfl
/-- the lists found so far, in the variable po -/
def IOut (HB : AH) (po : Nat) (out : List (List Int)) (F : Nat → Prop) (H : AH) : Prop :=
  ∃ o us, H[po]? = some (.cells [.slice (some ⟨o, 0, none⟩) out.length out.length] 25 false) ∧ InU HB.length H.length 34 3 H o us out ∧ HB.length ≤ po ∧ ¬ Obs o us out po ∧ F = fun j => j = po ∨ Obs o us out j
theorem IOut.live {HB H : AH} {po : Nat} {out : List (List Int)} {F : Nat → Prop} (h : IOut HB po out F H) {o : Nat} (ho : F o) : o < H.length ∧ HB.length ≤ o := by
  obtain ⟨oo, us, h1, h2, h3, h4, rfl⟩ := h
  have ho' : o = po ∨ Obs oo us out o := ho
  rcases ho' with rfl | hj
  · exact ⟨at_lt h1, h3⟩
  · have := h2.obs hj
    exact ⟨this.2, this.1⟩
theorem IOut.keep {HB H H' : AH} {po : Nat} {out : List (List Int)} {F : Nat → Prop} (h : IOut HB po out F H) (hk : ∀ o y, F o → H[o]? = some y → H'[o]? = some y) : IOut HB po out F H' := by
  obtain ⟨oo, us, h1, h2, h3, h4, rfl⟩ := h
  exact ⟨oo, us, hk _ _ (.inl rfl) h1, h2.refit2 fun j y hj hy => hk _ _ (.inr hj) hy, h3, h4, rfl⟩
/-- one more list, a copy -/
theorem IOut.push {HB H C : AH} {po : Nat} {out : List (List Int)} {F : Nat → Prop} (h : IOut HB po out F H) (hp : HB <+: H) {c : Value} {xs : List Int} (pC : H <+: C) (hc : Own 3 H C c xs) (hb : out.length ≤ 1000000000) :
    ∃ w H3 H4, cellA H po 0 = some (.slice (some w) out.length out.length) ∧ cellA C po 0 = some (.slice (some w) out.length out.length) ∧ buildSliceA Tryz.prog 25 1 [(0, c)] C = some (.slice (some ⟨C.length, 0, none⟩) 1 1, C ++ [.cells [c] 34 false]) ∧
      appendA Tryz.prog 25 25 (.slice (some w) out.length out.length) (.slice (some ⟨C.length, 0, none⟩) 1 1) (C ++ [.cells [c] 34 false]) = some (.slice (some ⟨C.length + 1, 0, none⟩) (out.length + 1) (out.length + 1), H3) ∧
      storeA Tryz.prog 25 (.pointer (some ⟨po, 0, none⟩)) (.slice (some ⟨C.length + 1, 0, none⟩) (out.length + 1) (out.length + 1)) H3 = some H4 ∧
      ∃ F', IOut HB po (out ++ [xs]) F' H4 ∧ (∀ o, F' o → F o ∨ H.length ≤ o) ∧ ∀ o y, ¬ F o → H[o]? = some y → H4[o]? = some y := by
  obtain ⟨o, us, h2, h3, h4, h7, rfl⟩ := h
  have c2 := pre_at pC h2
  have hinw := InI.of hc.mine
  obtain ⟨H3, k1, k2, k3, k4⟩ := (h3.pre pC).app1 (P := Tryz.prog) (t2 := 25) Tryz.underlying25 cs34 (by rw [by34]; decide) zk34 hinw hp.length_le pC.length_le (Nat.le_refl _) (by omega)
  have hbs : buildSliceA Tryz.prog 25 1 [(0, c)] C = some (.slice (some ⟨C.length, 0, none⟩) 1 1, C ++ [.cells [c] 34 false]) := by
    obtain ⟨q, eq⟩ := hc.row.shape
    rw [eq]
    exact bs1 Tryz.underlying25 cs34 ze34 ⟨by kernel_rfl, by kernel_rfl⟩ C rfl
  have lC := pC.length_le
  have l2 := at_lt h2
  have d2 := k4 po _ (fun e => h7 (.inl e)) c2
  have hst := st_at (P := Tryz.prog) (t := 25) (i := 0) (y := .slice (some ⟨C.length + 1, 0, none⟩) (out.length + 1) (out.length + 1)) cs25 d2 (by show 0 < 1; decide) rfl rfl
  have e2 : (H3.set po (.cells ([Value.slice (some ⟨o, 0, none⟩) out.length out.length].set 0 (.slice (some ⟨C.length + 1, 0, none⟩) (out.length + 1) (out.length + 1))) 25 false))[po]? = some (.cells [.slice (some ⟨C.length + 1, 0, none⟩) (out.length + 1) (out.length + 1)] 25 false) := by
    rw [List.getElem?_set_self (by omega)]; rfl
  have hal : (out ++ [xs]).length = out.length + 1 := by simp
  have hcO : c = .slice none 0 0 ∨ H.length ≤ rowO c := by
    rcases hc with ⟨q, _⟩ | ⟨oc, q, hoc, _⟩
    · exact .inl q
    · exact .inr (by rw [q]; exact hoc)
  have hul := h3.2.2.2.1
  have aw2 : Away po (C.length + 1) (us.take out.length ++ [c]) (out ++ [xs]) := by
    refine ⟨by omega, fun i hi => ?_⟩
    rw [hal] at hi
    rw [getD_snoc hul]
    split
    · rename_i hi2
      by_cases hn : us.getD i undef = .slice none 0 0
      · exact .inl hn
      · exact .inr fun e => h7 (.inr ⟨i, hi2, hn, e.symm⟩)
    · rw [if_pos (by omega)]
      exact hcO.imp id fun q => by omega
  have k2' := (k2.wide (Nat.le_refl _) (Nat.le_of_eq k3.symm) : InU HB.length H3.length 34 3 H3 _ _ _)
  refine ⟨_, H3, _, cell_of h2 0, cell_of c2 0, hbs, k1, hst, fun j => j = po ∨ Obs (C.length + 1) (us.take out.length ++ [c]) (out ++ [xs]) j, ⟨C.length + 1, us.take out.length ++ [c], by rw [hal]; exact e2, ?_, h4, ?_, rfl⟩, ?_, ?_⟩
  · have := k2'.moveq aw2 (H' := H3.set po (.cells ([Value.slice (some ⟨o, 0, none⟩) out.length out.length].set 0 (.slice (some ⟨C.length + 1, 0, none⟩) (out.length + 1) (out.length + 1))) 25 false)) (fun j y hj hy => by rw [List.getElem?_set_ne (fun e => hj e.symm)]; exact hy)
    simpa using this
  · rintro (e | ⟨i, hi, hn, e⟩)
    · omega
    · rcases aw2.2 i hi with q | q
      · exact hn q
      · exact q e.symm
  · rintro j (e | e | ⟨i, hi, hn, e⟩)
    · exact .inl (.inl e)
    · exact .inr (by omega)
    · rw [getD_snoc hul] at hn e
      rw [hal] at hi
      by_cases hi2 : i < out.length
      · rw [if_pos hi2] at hn e
        exact .inl (.inr (.inr ⟨i, hi2, hn, e⟩))
      · rw [if_neg hi2, if_pos (by omega)] at hn e
        rcases hcO with q | q
        · exact absurd q hn
        · exact .inr (by omega)
  · intro j y hj hy
    rw [List.getElem?_set_ne (fun e => hj (.inl e.symm))]
    exact k4 j y (fun e => hj (.inr (.inl e))) (pre_at pC hy)
end Go.Proofs.YtdgapefbbdfpbaaGreat.Ai
namespace Go.Proofs.YtdgapefbbdfpbaaGreat.Ai
open Go
def ords130 : List (Nat × List (Nat × Bool)) := []
def cd130 : Cd := (.seq (.reg [⟨⟨some 3, Op.assign (Operand.const (Value.bool false)), none⟩, []⟩]) (.seq (.reg [⟨⟨some 4, Op.load 3 (Operand.tmp 1), none⟩, []⟩,
  ⟨⟨some 5, Op.move (Operand.tmp 0), none⟩, []⟩,
  ⟨⟨some 6, Op.call { callee := (Callee.value (Operand.func 97)), args := #[(Operand.tmp 4), (Operand.tmp 5)], argTypes := #[3, 3] }, none⟩, []⟩,
  ⟨⟨some 3, Op.assign (Operand.tmp 6), none⟩, []⟩]) .ret))
theorem sl130 : slim Tryz.f130.ntmps ords130 (Tryz.f130.body.getD .skip) = some cd130 := by kernel_rfl
theorem in130 {args : List Value} {H : AH} {R : Value → AH → Prop} (hl : args.length = 2) (h : ∀ (Q : Exit → Sl → AH → Prop), (∀ e s H, endA Tryz.prog [ResultVar.tmp 3] R e s H → Q e s H) → wpC Tryz.prog cd130 Q (enterA args) H) : ACalls Tryz.prog 130 args H R :=
  ACalls.intro (by kernel_rfl) Tryz.func130 rfl (by kernel_rfl) sl130 hl (of_decide_eq_true (by kernel_rfl)) (by kernel_rfl) h
def ords128 : List (Nat × List (Nat × Bool)) := [(1, [(0, false), (1, false), (2, true), (3, false), (4, true), (5, true)])]
def cd128 : Cd := (.seq (.seq (.reg [⟨⟨some 8, Op.load 34 (Operand.tmp 1), none⟩, []⟩,
  ⟨⟨some 9, Op.call { callee := (Callee.builtin Builtin.len), args := #[(Operand.tmp 8)], argTypes := #[34] }, none⟩, []⟩,
  ⟨⟨some 10, Op.load 3 (Operand.tmp 2), none⟩, []⟩,
  ⟨⟨some 11, Op.binOp BinOp.sub 3 (Operand.tmp 10) (Operand.const (Value.int IntKind.i64 3)) 3, none⟩, []⟩,
  ⟨⟨some 12, Op.binOp BinOp.eql 3 (Operand.tmp 9) (Operand.tmp 11) 3, none⟩, []⟩]) (.cond (Operand.tmp 12) (.seq (.reg [⟨⟨some 13, Op.load 25 (Operand.tmp 3), none⟩, []⟩,
  ⟨⟨some 14, Op.load 34 (Operand.tmp 1), none⟩, []⟩,
  ⟨⟨some 15, Op.call { callee := (Callee.value (Operand.func 76)), args := #[(Operand.tmp 14)], argTypes := #[34] }, none⟩, [⟨some 13, Op.load 25 (Operand.tmp 3), none⟩]⟩,
  ⟨⟨some 16, Op.buildSlice 25 1 #[(0, (Operand.tmp 15))], none⟩, []⟩,
  ⟨⟨some 17, Op.call { callee := (Callee.builtin Builtin.append), args := #[(Operand.tmp 13), (Operand.tmp 16)], argTypes := #[25, 25] }, none⟩, []⟩,
  ⟨⟨none, Op.store 25 (Operand.tmp 3) (Operand.tmp 17), none⟩, []⟩]) .ret) .skip)) (.block 0 (.loop (.seq (.seq (.reg [⟨⟨some 18, Op.move (Operand.tmp 0), none⟩, []⟩,
  ⟨⟨some 19, Op.load 34 (Operand.tmp 4), none⟩, []⟩,
  ⟨⟨some 20, Op.call { callee := (Callee.builtin Builtin.len), args := #[(Operand.tmp 19)], argTypes := #[34] }, none⟩, []⟩,
  ⟨⟨some 21, Op.binOp BinOp.lss 3 (Operand.tmp 18) (Operand.tmp 20) 3, none⟩, []⟩]) (.cond (Operand.tmp 21) .skip (.exit 0))) (.seq (.block 1 (.seq (.reg [⟨⟨some 24, Op.load 34 (Operand.tmp 4), none⟩, []⟩,
  ⟨⟨some 25, Op.move (Operand.tmp 0), none⟩, []⟩,
  ⟨⟨some 26, Op.indexAddr 34 (Operand.tmp 24) (Operand.tmp 25), none⟩, []⟩,
  ⟨⟨some 27, Op.load 3 (Operand.tmp 26), none⟩, []⟩,
  ⟨⟨some 7, Op.alloc 3, none⟩, []⟩,
  ⟨⟨none, Op.store 3 (Operand.tmp 7) (Operand.tmp 27), none⟩, []⟩]) (.seq (.reg [⟨⟨some 28, Op.load 34 (Operand.tmp 1), none⟩, []⟩,
  ⟨⟨some 29, Op.makeFunc (Fn.func 130) #[] #[(Operand.tmp 7)], none⟩, []⟩,
  ⟨⟨some 30, Op.call { callee := (Callee.value (Operand.func 129)), args := #[(Operand.tmp 28), (Operand.tmp 29)], argTypes := #[34, 76] }, none⟩, []⟩,
  ⟨⟨some 31, Op.unOp UnOp.not 4 (Operand.tmp 30), none⟩, []⟩]) (.cond (Operand.tmp 31) (.seq (.reg [⟨⟨some 32, Op.load 34 (Operand.tmp 1), none⟩, []⟩,
  ⟨⟨some 33, Op.load 3 (Operand.tmp 7), none⟩, []⟩,
  ⟨⟨some 34, Op.buildSlice 34 1 #[(0, (Operand.tmp 33))], none⟩, []⟩,
  ⟨⟨some 35, Op.call { callee := (Callee.builtin Builtin.append), args := #[(Operand.tmp 32), (Operand.tmp 34)], argTypes := #[34, 34] }, none⟩, []⟩,
  ⟨⟨none, Op.store 34 (Operand.tmp 1) (Operand.tmp 35), none⟩, []⟩]) (.seq (.reg [⟨⟨some 36, Op.load 126 (Operand.tmp 5), none⟩, []⟩,
  ⟨⟨some 37, Op.move (Operand.tmp 0), none⟩, []⟩,
  ⟨⟨some 38, Op.binOp BinOp.add 3 (Operand.tmp 37) (Operand.const (Value.int IntKind.i64 1)) 3, none⟩, []⟩,
  ⟨⟨some 39, Op.call { callee := (Callee.value (Operand.tmp 36)), args := #[(Operand.tmp 38)], argTypes := #[3] }, none⟩, []⟩]) (.reg [⟨⟨some 40, Op.load 34 (Operand.tmp 1), none⟩, []⟩,
  ⟨⟨some 41, Op.load 34 (Operand.tmp 1), none⟩, []⟩,
  ⟨⟨some 42, Op.call { callee := (Callee.builtin Builtin.len), args := #[(Operand.tmp 41)], argTypes := #[34] }, none⟩, []⟩,
  ⟨⟨some 43, Op.binOp BinOp.sub 3 (Operand.tmp 42) (Operand.const (Value.int IntKind.i64 1)) 3, none⟩, []⟩,
  ⟨⟨some 44, Op.slice 34 (Operand.tmp 40) none (some (Operand.tmp 43)) none, none⟩, []⟩,
  ⟨⟨none, Op.store 34 (Operand.tmp 1) (Operand.tmp 44), none⟩, []⟩]))) .skip)))) (.reg [⟨⟨some 22, Op.move (Operand.tmp 0), none⟩, []⟩,
  ⟨⟨some 23, Op.binOp BinOp.add 3 (Operand.tmp 22) (Operand.const (Value.int IntKind.i64 1)) 3, none⟩, []⟩,
  ⟨⟨some 0, Op.assign (Operand.tmp 23), none⟩, []⟩]))))))
theorem sl128 : slim Tryz.f128.ntmps ords128 (Tryz.f128.body.getD .skip) = some cd128 := by kernel_rfl
theorem in128 {args : List Value} {H : AH} {R : Value → AH → Prop} (hl : args.length = 6) (h : ∀ (Q : Exit → Sl → AH → Prop), (∀ e s H, endA Tryz.prog [] R e s H → Q e s H) → wpC Tryz.prog cd128 Q (enterA args) H) : ACalls Tryz.prog 128 args H R :=
  ACalls.intro (by kernel_rfl) Tryz.func128 rfl (by kernel_rfl) sl128 hl (of_decide_eq_true (by kernel_rfl)) (by kernel_rfl) h
def ords60 : List (Nat × List (Nat × Bool)) := []
def cd60 : Cd := (.seq (.reg [⟨⟨some 1, Op.box 3 (Operand.tmp 0), none⟩, []⟩,
  ⟨⟨some 2, Op.assign (Operand.const (Value.slice none 0 0)), none⟩, []⟩]) (.seq (.reg [⟨⟨some 7, Op.buildSlice 25 0 #[], none⟩, []⟩,
  ⟨⟨some 8, Op.load 3 (Operand.tmp 1), none⟩, []⟩,
  ⟨⟨some 9, Op.call { callee := (Callee.value (Operand.func 73)), args := #[(Operand.tmp 8)], argTypes := #[3] }, none⟩, []⟩,
  ⟨⟨some 10, Op.buildSlice 34 0 #[], none⟩, []⟩,
  ⟨⟨some 3, Op.alloc 25, none⟩, []⟩,
  ⟨⟨some 4, Op.alloc 34, none⟩, []⟩,
  ⟨⟨some 5, Op.alloc 34, none⟩, []⟩,
  ⟨⟨none, Op.store 25 (Operand.tmp 3) (Operand.tmp 7), none⟩, []⟩,
  ⟨⟨none, Op.store 34 (Operand.tmp 4) (Operand.tmp 9), none⟩, []⟩,
  ⟨⟨none, Op.store 34 (Operand.tmp 5) (Operand.tmp 10), none⟩, []⟩]) (.seq (.reg [⟨⟨some 6, Op.alloc 126, none⟩, []⟩]) (.seq (.reg [⟨⟨some 11, Op.makeFunc (Fn.func 128) #[] #[(Operand.tmp 5), (Operand.tmp 1), (Operand.tmp 3), (Operand.tmp 4), (Operand.tmp 6)], none⟩, []⟩,
  ⟨⟨none, Op.store 126 (Operand.tmp 6) (Operand.tmp 11), none⟩, []⟩]) (.seq (.reg [⟨⟨some 12, Op.load 126 (Operand.tmp 6), none⟩, []⟩,
  ⟨⟨some 13, Op.call { callee := (Callee.value (Operand.tmp 12)), args := #[(Operand.const (Value.int IntKind.i64 0))], argTypes := #[3] }, none⟩, []⟩]) (.seq (.reg [⟨⟨some 14, Op.load 25 (Operand.tmp 3), none⟩, []⟩,
  ⟨⟨some 2, Op.assign (Operand.tmp 14), none⟩, []⟩]) .ret))))))
theorem sl60 : slim Tryz.f60.ntmps ords60 (Tryz.f60.body.getD .skip) = some cd60 := by kernel_rfl
theorem in60 {args : List Value} {H : AH} {R : Value → AH → Prop} (hl : args.length = 1) (h : ∀ (Q : Exit → Sl → AH → Prop), (∀ e s H, endA Tryz.prog [ResultVar.tmp 2] R e s H → Q e s H) → wpC Tryz.prog cd60 Q (enterA args) H) : ACalls Tryz.prog 60 args H R :=
  ACalls.intro (by kernel_rfl) Tryz.func60 rfl (by kernel_rfl) sl60 hl (of_decide_eq_true (by kernel_rfl)) (by kernel_rfl) h
end Go.Proofs.YtdgapefbbdfpbaaGreat.Ai
namespace Go.Proofs.YtdgapefbbdfpbaaGreat.Ai
open Go Go.RowKit
set_option linter.unusedVariables false
set_option linter.unusedSimpArgs false
theorem agT : isAggA Tryz.prog 126 = some false := by kernel_rfl
theorem csT : Tryz.prog.cellsOf 126 = 1 := by kernel_rfl
theorem alloc_iT (H : AH) : allocA Tryz.prog 3 H = some (.pointer (some ⟨H.length, 0, none⟩), H ++ [.cells [.int .i64 0] 3 false]) := by kernel_rfl
theorem alloc_slT (H : AH) : allocA Tryz.prog 34 H = some (.pointer (some ⟨H.length, 0, none⟩), H ++ [.cells [.slice none 0 0] 34 false]) := by kernel_rfl
theorem alloc_llT (H : AH) : allocA Tryz.prog 25 H = some (.pointer (some ⟨H.length, 0, none⟩), H ++ [.cells [.slice none 0 0] 25 false]) := by kernel_rfl
theorem alloc_fT (H : AH) : allocA Tryz.prog 126 H = some (.pointer (some ⟨H.length, 0, none⟩), H ++ [.cells [.nilFunc] 126 false]) := by kernel_rfl
theorem box_iT (H : AH) (k : Int) : boxA Tryz.prog 3 (.int .i64 k) H = some (.pointer (some ⟨H.length, 0, none⟩), H ++ [.cells [.int .i64 k] 3 false]) := by kernel_rfl
theorem mkf_1T (f : Fn) (p : Option Addr) : makeFuncA f [] [.pointer p] = some (.func f #[] (List.toArray [.pointer p])) := rfl
theorem mkf_5T (f : Fn) (p q r t u : Option Addr) : makeFuncA f [] [.pointer p, .pointer q, .pointer r, .pointer t, .pointer u] = some (.func f #[] (List.toArray [.pointer p, .pointer q, .pointer r, .pointer t, .pointer u])) := rfl
theorem crsClos_c (d e : Int) (o : Nat) (H : AH) (hd : I64 d) (he : I64 e) (ho : cellA H o 0 = some (.int .i64 d)) : ACalls Tryz.prog 130 [.int .i64 e, .pointer (some ⟨o, 0, none⟩)] H fun r H' => r = .bool (decide (Crs d e)) ∧ H = H' := by
  refine in130 rfl ?_
  intro Q hQ
  simp (maxSteps := 1000000) (disch := omega) only [cd130, ho, S, S1, S2, S3, S4, S5, ST, eq_self, reduceIte, reduceCtorEq, Nat.reduceEqDiff, Nat.reduceAdd]
  refine CallH.by (cross_c d e H hd he) ?_
  rintro _ _ ⟨rfl, rfl⟩
  simp (maxSteps := 1000000) (disch := omega) only [S, S1, S2, S3, S4, S5, ST, eq_self, reduceIte, reduceCtorEq, Nat.reduceEqDiff, Nat.reduceAdd]
  refine hQ _ _ _ ?_
  simp (maxSteps := 1000000) (disch := omega) only [S, S1, S2, S3, S4, S5, ST, eq_self, reduceIte, reduceCtorEq, Nat.reduceEqDiff, Nat.reduceAdd]
/-- what stays in the walk -/
abbrev trgFx (n : Int) (all : List Int) (pn pa oa pf pl po : Nat) : List (Nat × AObj) :=
  [(pn, .cells [.int .i64 n] 3 false), (pa, .cells [.slice (some ⟨oa, 0, none⟩) all.length all.length] 34 false), (oa, .cells (ints all) 3 false),
   (pf, .cells [.func (.func 128) #[] (List.toArray [.pointer (some ⟨pl, 0, none⟩), .pointer (some ⟨pn, 0, none⟩), .pointer (some ⟨po, 0, none⟩), .pointer (some ⟨pa, 0, none⟩), .pointer (some ⟨pf, 0, none⟩)])] 126 false)]
set_option maxRecDepth 20000 in
set_option maxHeartbeats 4000000 in
theorem trg_c {HB : AH} (n : Int) (h : Nat) (hn : n - 3 = (h : Int)) (hh : h ≤ 100) (all : List Int) (hN : all.length ≤ 28) (hall : ∀ y ∈ all, 0 ≤ y ∧ y ≤ 100) (pn pa oa pf pl po : Nat) :
    ∀ (k : Nat) (ed : List Int) (out : List (List Int)) (F : Nat → Prop) (H : AH), k ≤ all.length → ed.length + k ≤ all.length → (∀ y ∈ ed, 0 ≤ y ∧ y ≤ 100) → out.length + 2 ^ k ≤ 1000000000 → IOut HB po out F H → LSt HB (trgFx n all pn pa oa pf pl po) pl F H ed →
      ACalls Tryz.prog 128 [.int .i64 ((all.length - k : Nat) : Int), .pointer (some ⟨pl, 0, none⟩), .pointer (some ⟨pn, 0, none⟩), .pointer (some ⟨po, 0, none⟩), .pointer (some ⟨pa, 0, none⟩), .pointer (some ⟨pf, 0, none⟩)] H fun r H' =>
        ∃ F', IOut HB po (out ++ tex all h k ed) F' H' ∧ LSt HB (trgFx n all pn pa oa pf pl po) pl F' H' ed := by
  intro k
  induction k using Nat.strongRecOn with
  | ind k ih =>
  intro ed out F H hk hek hed hout hO hL
  refine in128 rfl ?_
  intro Q hQ
  have f1 : ∀ {F H}, LSt HB (trgFx n all pn pa oa pf pl po) pl F H ed → cellA H pn 0 = some (.int .i64 n) := fun h => cell_of (h.fix (pn, _) (.head _)).1 0
  obtain ⟨w, hw1, hw2, hw3, hw4⟩ := hL.row
  have hpos : 1 ≤ 2 ^ k := Nat.one_le_two_pow
  simp (maxSteps := 1000000) (disch := omega) only [cd128, hw1, hw2.len Tryz.underlying34, f1 hL, wrap64, S, S1, S2, S3, S4, S5, ST, eq_self, reduceIte, reduceCtorEq, Nat.reduceEqDiff, Nat.reduceAdd]
  refine brD.intro (fun g => ?_) (fun g => ?_)
  · have hel : ed.length = h := by omega
    have ht : tex all h k ed = [ed] := by unfold tex; rw [if_pos hel]
    rw [ht] at hQ
    have hO1 := hO
    obtain ⟨o, us, hpo, _⟩ := hO1
    simp (maxSteps := 1000000) (disch := omega) only [cell_of hpo, hw1, S, S1, S2, S3, S4, S5, ST, eq_self, reduceIte, reduceCtorEq, Nat.reduceEqDiff, Nat.reduceAdd]
    refine CallH.by (Clone_c w ed H hw2 (by omega)) ?_
    rintro c C ⟨hc, pC⟩
    obtain ⟨w2, H3, H4, p0, p1, p2, p3, p4, F', hO4, hF4, hk4⟩ := hO.push hL.pre pC hc (by omega)
    have hww := p0.symm.trans (cell_of hpo 0)
    simp only [List.getElem?_cons_zero, Option.some.injEq, Value.slice.injEq] at hww
    obtain ⟨hww, _, _⟩ := hww
    subst hww
    simp (maxSteps := 1000000) (disch := omega) only [p1, p2, p3, p4, S, S1, S2, S3, S4, S5, ST, eq_self, reduceIte, reduceCtorEq, Nat.reduceEqDiff, Nat.reduceAdd]
    refine hQ _ _ _ ?_
    simp (maxSteps := 1000000) (disch := omega) only [S, S1, S2, S3, S4, S5, ST, eq_self, reduceIte, reduceCtorEq, Nat.reduceEqDiff, Nat.reduceAdd]
    exact ⟨F', hO4, hL.cb (fun o ho => (hO.live ho).2) hF4 hk4⟩
  have hel : ed.length ≠ h := by omega
  have ht : tex all h k ed = tlp all h k ed := by unfold tex; rw [if_neg hel]
  rw [ht] at hQ
  simp (maxSteps := 1000000) (disch := omega) only [g, S, S1, S2, S3, S4, S5, ST, eq_self, reduceIte, reduceCtorEq, Nat.reduceEqDiff, Nat.reduceAdd]
  refine LoopH.by (fun m s H' => ∃ out' F', m ≤ k ∧ s 0 = .int .i64 ((all.length - m : Nat) : Int) ∧ s 1 = .pointer (some ⟨pl, 0, none⟩) ∧ s 2 = .pointer (some ⟨pn, 0, none⟩) ∧ s 3 = .pointer (some ⟨po, 0, none⟩) ∧ s 4 = .pointer (some ⟨pa, 0, none⟩) ∧ s 5 = .pointer (some ⟨pf, 0, none⟩) ∧ out'.length + 2 ^ m ≤ 1000000000 ∧ out' ++ tlp all h m ed = out ++ tlp all h k ed ∧ IOut HB po out' F' H' ∧ LSt HB (trgFx n all pn pa oa pf pl po) pl F' H' ed) k ?_ ?_
  · exact ⟨out, F, Nat.le_refl _, rfl, rfl, rfl, rfl, rfl, rfl, hout, rfl, hO, hL⟩
  rintro m s H' ⟨out', F', hmk, h0, h1, h2, h3, h4, h5, hcnt, hout', hO', hL'⟩
  have fa : ∀ {F H}, LSt HB (trgFx n all pn pa oa pf pl po) pl F H ed → H[pa]? = some (.cells [.slice (some ⟨oa, 0, none⟩) all.length all.length] 34 false) := fun h => (h.fix (pa, _) (.tail _ (.head _))).1
  have foa : ∀ {F H}, LSt HB (trgFx n all pn pa oa pf pl po) pl F H ed → H[oa]? = some (.cells (ints all) 3 false) := fun h => (h.fix (oa, _) (.tail _ (.tail _ (.head _)))).1
  simp (maxSteps := 1000000) (disch := omega) only [h0, h1, h2, h3, h4, h5, cell_of (fa hL'), S, S1, S2, S3, S4, S5, ST, eq_self, reduceIte, reduceCtorEq, Nat.reduceEqDiff, Nat.reduceAdd]
  refine brD.intro (fun g2 => ?_) (fun g2 => ?_)
  rotate_left
  · have hm0 : m = 0 := by omega
    subst hm0
    simp (maxSteps := 1000000) (disch := omega) only [S, S1, S2, S3, S4, S5, ST, eq_self, reduceIte, reduceCtorEq, Nat.reduceEqDiff, Nat.reduceAdd]
    refine hQ _ _ _ ?_
    simp (maxSteps := 1000000) (disch := omega) only [S, S1, S2, S3, S4, S5, ST, eq_self, reduceIte, reduceCtorEq, Nat.reduceEqDiff, Nat.reduceAdd]
    rw [← hout']
    simp only [tlp, List.append_nil]
    exact ⟨F', hO', hL'⟩
  obtain ⟨i, rfl⟩ : ∃ i, m = i + 1 := ⟨m - 1, by omega⟩
  have hei : all.length - (i + 1) < all.length := by omega
  have he1 : ((all.length - (i + 1) : Nat) : Int) + 1 = ((all.length - i : Nat) : Int) := by omega
  have hstep := tlp_step all h i ed
  have hP : 2 ^ (i + 1) = 2 ^ i + 2 ^ i := by rw [Nat.pow_succ]; omega
  have hpi : 1 ≤ 2 ^ i := Nat.one_le_two_pow
  generalize he : all.length - (i + 1) = e at *
  have hdm : all.getD e 0 ∈ all := by simp [hei]
  have hdr := hall _ hdm
  generalize hd : all.getD e 0 = d at *
  have hca := cell_ints (foa hL') hei
  rw [hd] at hca
  have st0 := st_at (P := Tryz.prog) (t := 3) (i := 0) (y := .int .i64 d) cs3 (at_new H' (.cells [.int .i64 0] 3 false)) (by show 0 < 1; decide) rfl rfl
  rw [set_new, List.set_cons_zero] at st0
  simp (maxSteps := 1000000) (disch := omega) only [h0, h1, h2, h3, h4, h5, cell_of (fa hL'), Int.toNat_natCast, Nat.zero_add, hca, alloc_iT, st0, S, S1, S2, S3, S4, S5, ST, eq_self, reduceIte, reduceCtorEq, Nat.reduceEqDiff, Nat.reduceAdd]
  generalize hG : H' ++ [AObj.cells [.int .i64 d] 3 false] = G
  have pG : H' <+: G := by rw [← hG]; exact List.prefix_append _ _
  have cG : G[H'.length]? = some (.cells [.int .i64 d] 3 false) := by rw [← hG]; exact at_new ..
  have hlv : ∀ o, F' o → HB.length ≤ o := fun o ho => (hO'.live ho).2
  have hLG := hL'.grow hlv pG
  have hOG := hO'.keep (fun o y _ hy => pre_at pG hy)
  obtain ⟨w', hw1', hw2', hw3', hw4'⟩ := hLG.row
  simp (maxSteps := 1000000) (disch := omega) only [h0, h1, h2, h3, h4, h5, hw1', mkf_1T, S, S1, S2, S3, S4, S5, ST, eq_self, reduceIte, reduceCtorEq, Nat.reduceEqDiff, Nat.reduceAdd]
  refine CallH.by (ContainsFunc_c w' ed (fun y => decide (Crs d y)) 130 [.pointer (some ⟨H'.length, 0, none⟩)] G hw2' (by omega) (fun y hy => crsClos_c d y H'.length G ⟨by omega, by omega⟩ (by have := hed y hy; exact ⟨by omega, by omega⟩) (cell_of cG 0))) ?_
  rintro _ _ ⟨rfl, rfl⟩
  have hap := apB_comm ed d
  simp (maxSteps := 1000000) (disch := omega) only [S, S1, S2, S3, S4, S5, ST, eq_self, reduceIte, reduceCtorEq, Nat.reduceEqDiff, Nat.reduceAdd]
  refine brH.intro (fun q => ?_) (fun q => ?_)
  · have hno : ¬ apB ed d = true := by rw [← hap, q]; decide
    rw [if_neg hno, List.nil_append] at hstep
    rw [hstep] at hout'
    have f2 : out'.length + 2 ^ i ≤ 1000000000 := by omega
    simp (maxSteps := 1000000) (disch := omega) only [q, h0, h1, h2, h3, h4, h5, he1, wrap64, S, S1, S2, S3, S4, S5, ST, eq_self, reduceIte, reduceCtorEq, Nat.reduceEqDiff, Nat.reduceAdd]
    refine ⟨i, by omega, out', F', by omega, ?_⟩
    (repeat' first | exact f2 | exact hout' | exact hOG | exact hLG | apply And.intro) <;> first | (simp only [Value.int.injEq, true_and]; omega) | omega | rfl | assumption | (simp; done) | (simp; omega)
  · have hyes : apB ed d = true := by rw [← hap, q]; rfl
    rw [if_pos hyes] at hstep
    obtain ⟨w3, H2, H3, p1, p2, p3, hL3, hk3, hl3, _⟩ := hLG.push (fun o ho => (hOG.live ho).1) (by omega) d
    have hO3 := hOG.keep hk3
    have hff : H3[pf]? = some (.cells [.func (.func 128) #[] (List.toArray [.pointer (some ⟨pl, 0, none⟩), .pointer (some ⟨pn, 0, none⟩), .pointer (some ⟨po, 0, none⟩), .pointer (some ⟨pa, 0, none⟩), .pointer (some ⟨pf, 0, none⟩)])] 126 false) := (hL3.fix (pf, _) (.tail _ (.tail _ (.tail _ (.head _))))).1
    simp (maxSteps := 1000000) (disch := omega) only [q, h0, h1, h2, h3, h4, h5, p1, cell_of cG, p2, p3, ld_one agT, cell_of hff, he1, wrap64, S, S1, S2, S3, S4, S5, ST, eq_self, reduceIte, reduceCtorEq, Nat.reduceEqDiff, Nat.reduceAdd]
    refine CallH.by (ih i (by omega) (ed ++ [d]) out' F' H3 (by omega) (by simp; omega) (fun y hy => by
      rcases List.mem_append.1 hy with hy | hy
      · exact hed y hy
      · simp at hy; rw [hy]; exact hdr) (by omega) hO3 hL3) ?_
    rintro _ H4 ⟨F4, hO4, hL4⟩
    obtain ⟨w4, c4, r1, r2, H5, r3, hL5, hk5, hl5⟩ := hL4.pop
    have hO5 := hO4.keep hk5
    have htl : (tex all h i (ed ++ [d])).length ≤ 2 ^ i := by
      unfold tex
      split
      · simp; exact hpi
      · have := tex_len all h i (ed ++ [d]); omega
    have f2 : (out' ++ tex all h i (ed ++ [d])).length + 2 ^ i ≤ 1000000000 := by rw [List.length_append]; omega
    have f3 : (out' ++ tex all h i (ed ++ [d])) ++ tlp all h i ed = out ++ tlp all h k ed := by rw [← hout', hstep, List.append_assoc]
    have hcl : ((ed.length + 1 : Nat) : Int) - 1 = (ed.length : Int) := by omega
    simp (maxSteps := 1000000) (disch := omega) only [h0, h1, h2, h3, h4, h5, r1, hcl, r2, r3, he1, wrap64, S, S1, S2, S3, S4, S5, ST, eq_self, reduceIte, reduceCtorEq, Nat.reduceEqDiff, Nat.reduceAdd]
    refine ⟨i, by omega, out' ++ tex all h i (ed ++ [d]), F4, by omega, ?_⟩
    (repeat' first | exact f2 | exact f3 | exact hO5 | exact hL5 | apply And.intro) <;> first | (simp only [Value.int.injEq, true_and]; omega) | omega | rfl | assumption | (simp; done) | (simp; omega)
set_option maxRecDepth 20000 in
set_option maxHeartbeats 2000000 in
theorem triangulations_c (n : Int) (H : AH) (hn : 3 ≤ n ∧ n ≤ 8) (hdg : dgI n 100 = dgs n n.toNat) :
    ACalls Tryz.prog 60 [.int .i64 n] H fun r H' => InL H.length H'.length 34 3 H' r (triA n) ∧ H <+: H' := by
  obtain ⟨hk1, hk2, hk3, hk4, hk5, hk6⟩ := triA_ok hn
  refine in60 rfl ?_
  intro Q hQ
  simp (maxSteps := 1000000) (disch := omega) only [cd60, box_iT, S, S1, S2, S3, S4, S5, ST, eq_self, reduceIte, reduceCtorEq, Nat.reduceEqDiff, Nat.reduceAdd]
  generalize hA : H ++ [AObj.cells [.int .i64 n] 3 false] = A
  have pA : H <+: A := by rw [← hA]; exact List.prefix_append _ _
  have cA : A[H.length]? = some (.cells [.int .i64 n] 3 false) := by rw [← hA]; exact at_new ..
  generalize hB : A ++ [AObj.cells [] 34 false] = B
  have pB : A <+: B := by rw [← hB]; exact List.prefix_append _ _
  have cB : B[A.length]? = some (.cells [] 34 false) := by rw [← hB]; exact at_new ..
  have cBA := pre_at pB cA
  simp (maxSteps := 1000000) (disch := omega) only [cell_of cBA, S, S1, S2, S3, S4, S5, ST, eq_self, reduceIte, reduceCtorEq, Nat.reduceEqDiff, Nat.reduceAdd]
  refine CallH.by (diagonals_c n B (by omega)) ?_
  rintro _ C ⟨⟨oa, rfl, hoa, hca⟩, pC⟩
  rw [hdg] at hca ⊢
  generalize hall : dgs n n.toNat = all at *
  simp (maxSteps := 1000000) (disch := omega) only [alloc_llT, alloc_slT, S, S1, S2, S3, S4, S5, ST, eq_self, reduceIte, reduceCtorEq, Nat.reduceEqDiff, Nat.reduceAdd]
  generalize hD : C ++ [AObj.cells [] 3 false] = D
  have pD : C <+: D := by rw [← hD]; exact List.prefix_append _ _
  have cD : D[C.length]? = some (.cells (ints []) 3 false) := by rw [← hD]; exact at_new ..
  generalize hE1 : D ++ [AObj.cells [.slice none 0 0] 25 false] = E1
  have pE1 : D <+: E1 := by rw [← hE1]; exact List.prefix_append _ _
  have cE1 : E1[D.length]? = some (.cells [.slice none 0 0] 25 false) := by rw [← hE1]; exact at_new ..
  generalize hE2 : E1 ++ [AObj.cells [.slice none 0 0] 34 false] = E2
  have pE2 : E1 <+: E2 := by rw [← hE2]; exact List.prefix_append _ _
  have cE2 : E2[E1.length]? = some (.cells [.slice none 0 0] 34 false) := by rw [← hE2]; exact at_new ..
  generalize hE3 : E2 ++ [AObj.cells [.slice none 0 0] 34 false] = E3
  have pE3 : E2 <+: E3 := by rw [← hE3]; exact List.prefix_append _ _
  have cE3 : E3[E2.length]? = some (.cells [.slice none 0 0] 34 false) := by rw [← hE3]; exact at_new ..
  have lA : A.length = H.length + 1 := by rw [← hA]; simp
  have lB : B.length = A.length + 1 := by rw [← hB]; simp
  have lC := pC.length_le
  have lD : D.length = C.length + 1 := by rw [← hD]; simp
  have lE1 : E1.length = D.length + 1 := by rw [← hE1]; simp
  have lE2 : E2.length = E1.length + 1 := by rw [← hE2]; simp
  have lE3 : E3.length = E2.length + 1 := by rw [← hE3]; simp
  have loa := at_lt hca
  have s1 := st_at (P := Tryz.prog) (t := 25) (i := 0) (y := .slice (some ⟨A.length, 0, none⟩) 0 0) cs25 (pre_at (pE2.trans pE3) cE1) (by show 0 < 1; decide) rfl rfl
  rw [List.set_cons_zero] at s1
  generalize hE4 : E3.set D.length (.cells [.slice (some ⟨A.length, 0, none⟩) 0 0] 25 false) = E4 at *
  have at4 : ∀ {o y}, o ≠ D.length → E3[o]? = some y → E4[o]? = some y := fun ho hy => by rw [← hE4, List.getElem?_set_ne (fun e => ho e.symm)]; exact hy
  have l4 : E4.length = E3.length := by rw [← hE4]; simp
  have c4 : E4[D.length]? = some (.cells [.slice (some ⟨A.length, 0, none⟩) 0 0] 25 false) := by rw [← hE4, List.getElem?_set_self (by omega)]
  have s2 := st_at (P := Tryz.prog) (t := 34) (i := 0) (y := .slice (some ⟨oa, 0, none⟩) all.length all.length) cs34 (at4 (by omega) (pre_at pE3 cE2)) (by show 0 < 1; decide) rfl rfl
  rw [List.set_cons_zero] at s2
  generalize hE5 : E4.set E1.length (.cells [.slice (some ⟨oa, 0, none⟩) all.length all.length] 34 false) = E5 at *
  have at5 : ∀ {o y}, o ≠ E1.length → E4[o]? = some y → E5[o]? = some y := fun ho hy => by rw [← hE5, List.getElem?_set_ne (fun e => ho e.symm)]; exact hy
  have l5 : E5.length = E4.length := by rw [← hE5]; simp
  have c5 : E5[E1.length]? = some (.cells [.slice (some ⟨oa, 0, none⟩) all.length all.length] 34 false) := by rw [← hE5, List.getElem?_set_self (by omega)]
  have s3 := st_at (P := Tryz.prog) (t := 34) (i := 0) (y := .slice (some ⟨C.length, 0, none⟩) 0 0) cs34 (at5 (by omega) (at4 (by omega) cE3)) (by show 0 < 1; decide) rfl rfl
  rw [List.set_cons_zero] at s3
  generalize hE6 : E5.set E2.length (.cells [.slice (some ⟨C.length, 0, none⟩) 0 0] 34 false) = E6 at *
  have at6 : ∀ {o y}, o ≠ E2.length → E5[o]? = some y → E6[o]? = some y := fun ho hy => by rw [← hE6, List.getElem?_set_ne (fun e => ho e.symm)]; exact hy
  have l6 : E6.length = E5.length := by rw [← hE6]; simp
  have c6 : E6[E2.length]? = some (.cells [.slice (some ⟨C.length, 0, none⟩) 0 0] 34 false) := by rw [← hE6, List.getElem?_set_self (by omega)]
  have old : ∀ {o y}, o < D.length → D[o]? = some y → E6[o]? = some y := fun ho hy => at6 (by omega) (at5 (by omega) (at4 (by omega) (pre_at (pE1.trans (pE2.trans pE3)) hy)))
  have st7 := st_at (P := Tryz.prog) (t := 126) (i := 0) (y := .func (.func 128) #[] (List.toArray [.pointer (some ⟨E2.length, 0, none⟩), .pointer (some ⟨H.length, 0, none⟩), .pointer (some ⟨D.length, 0, none⟩), .pointer (some ⟨E1.length, 0, none⟩), .pointer (some ⟨E6.length, 0, none⟩)])) csT (at_new E6 (.cells [.nilFunc] 126 false)) (by show 0 < 1; decide) rfl rfl
  rw [set_new, List.set_cons_zero] at st7
  simp (maxSteps := 1000000) (disch := omega) only [s1, s2, s3, alloc_fT, mkf_5T, st7, ld_one agT, cell_new, S, S1, S2, S3, S4, S5, ST, eq_self, reduceIte, reduceCtorEq, Nat.reduceEqDiff, Nat.reduceAdd]
  generalize hG : E6 ++ [AObj.cells [.func (.func 128) #[] (List.toArray [.pointer (some ⟨E2.length, 0, none⟩), .pointer (some ⟨H.length, 0, none⟩), .pointer (some ⟨D.length, 0, none⟩), .pointer (some ⟨E1.length, 0, none⟩), .pointer (some ⟨E6.length, 0, none⟩)])] 126 false] = G
  have pG : E6 <+: G := by rw [← hG]; exact List.prefix_append _ _
  have cG : G[E6.length]? = some (.cells [.func (.func 128) #[] (List.toArray [.pointer (some ⟨E2.length, 0, none⟩), .pointer (some ⟨H.length, 0, none⟩), .pointer (some ⟨D.length, 0, none⟩), .pointer (some ⟨E1.length, 0, none⟩), .pointer (some ⟨E6.length, 0, none⟩)])] 126 false) := by rw [← hG]; exact at_new ..
  have lG : G.length = E6.length + 1 := by rw [← hG]; simp
  have oldG : ∀ {o y}, o < D.length → D[o]? = some y → G[o]? = some y := fun ho hy => pre_at pG (old ho hy)
  have pHD := pA.trans (pB.trans (pC.trans pD))
  have pHG : H <+: G := prefix_of fun o y hy => oldG (by have := at_lt hy; omega) (pre_at pHD hy)
  have gA := oldG (by omega) (pre_at (pB.trans (pC.trans pD)) cA)
  have gB := oldG (by omega) (pre_at (pC.trans pD) cB)
  have ga := oldG (by omega) (pre_at pD hca)
  have gD := oldG (by omega) cD
  have g4 := pre_at pG (at6 (by omega) (at5 (by omega) c4))
  have g5 := pre_at pG (at6 (by omega) c5)
  have g6 := pre_at pG c6
  have nob : ∀ j, j ≠ A.length → ¬ Obs A.length [] [] j := by
    rintro j hj (e | ⟨i, hi, _⟩)
    · exact hj e
    · simp at hi
  have hO : IOut H D.length [] (fun j => j = D.length ∨ Obs A.length [] [] j) G :=
    ⟨A.length, [], g4, ⟨by omega, by omega, gB, Nat.le_refl _, fun i hi => absurd hi (by simp), fun i j _ hi _ => absurd hi (by simp)⟩, by omega, nob _ (by omega), rfl⟩
  have nF : ∀ {j}, j ≠ D.length → j ≠ A.length → ¬ ((fun j => j = D.length ∨ Obs A.length [] [] j) j) := fun h1 h2 h => h.elim h1 (nob _ h2)
  have hL : LSt H (trgFx n all H.length E1.length oa E6.length E2.length D.length) E2.length (fun j => j = D.length ∨ Obs A.length [] [] j) G [] := by
    refine ⟨?_, ⟨C.length, [], g6, gD, rfl, nF (by omega) (by omega), by omega, ?_, by omega⟩, nF (by omega) (by omega), by omega, pHG⟩
    · intro q hq
      simp only [List.mem_cons, List.not_mem_nil, or_false] at hq
      rcases hq with rfl | rfl | rfl | rfl
      · exact ⟨gA, nF (by show H.length ≠ _; omega) (by show H.length ≠ _; omega), by show H.length ≠ _; omega⟩
      · exact ⟨g5, nF (by show E1.length ≠ _; omega) (by show E1.length ≠ _; omega), by show E1.length ≠ _; omega⟩
      · exact ⟨ga, nF (by show oa ≠ _; omega) (by show oa ≠ _; omega), by show oa ≠ _; omega⟩
      · exact ⟨cG, nF (by show E6.length ≠ _; omega) (by show E6.length ≠ _; omega), by show E6.length ≠ _; omega⟩
    · intro q hq
      simp only [List.mem_cons, List.not_mem_nil, or_false] at hq
      rcases hq with rfl | rfl | rfl | rfl
      · show H.length ≠ _; omega
      · show E1.length ≠ _; omega
      · show oa ≠ _; omega
      · show E6.length ≠ _; omega
  have hpw : 2 ^ all.length ≤ 2 ^ 28 := Nat.pow_le_pow_right (by decide) hk4
  have hf := trg_c n (n - 3).toNat (by omega) (by omega) all hk4 hk5 H.length E1.length oa E6.length E2.length D.length all.length [] [] _ G (Nat.le_refl _) (by simp) (fun y hy => absurd hy (by simp)) (by simp; omega) hO hL
  have z0 : ((0 : Nat) : Int) = 0 := rfl
  rw [Nat.sub_self, z0] at hf
  refine CallH.by hf ?_
  rintro _ H' ⟨F', hO', hL'⟩
  have htri : triA n = [] ++ tex all (n - 3).toNat all.length [] := by unfold triA; rw [hall, List.nil_append]
  obtain ⟨o, us, h1, h2, _⟩ := hO'
  simp (maxSteps := 1000000) (disch := omega) only [cell_of h1, S, S1, S2, S3, S4, S5, ST, eq_self, reduceIte, reduceCtorEq, Nat.reduceEqDiff, Nat.reduceAdd]
  refine hQ _ _ _ ?_
  simp (maxSteps := 1000000) (disch := omega) only [S, S1, S2, S3, S4, S5, ST, eq_self, reduceIte, reduceCtorEq, Nat.reduceEqDiff, Nat.reduceAdd]
  rw [htri]
  exact ⟨h2.inl, hL'.pre⟩
end Go.Proofs.YtdgapefbbdfpbaaGreat.Ai
namespace Go.Proofs.YtdgapefbbdfpbaaGreat.Ai
open Go
theorem prm_range {p : List Int} (h : Prm p) : (∀ i, i < p.length → 0 ≤ p.getD i 0 ∧ p.getD i 0 < p.length) ∧ ∀ i j, i < p.length → j < p.length → p.getD i 0 = p.getD j 0 → i = j := by
  have hm := List.mergeSort_perm p (fun x y => decide (x ≤ y))
  have hs : (p.mergeSort (fun x y => decide (x ≤ y))).Pairwise (fun x y => decide (x ≤ y) = true) := List.pairwise_mergeSort (fun a b c h1 h2 => by simp at *; omega) (fun a b => by simp; omega) p
  have ha : Asc (p.mergeSort (fun x y => decide (x ≤ y))) := by
    intro i j hij hj
    rw [List.pairwise_iff_getElem] at hs
    have := hs i j (by omega) hj hij
    simp only [decide_eq_true_eq] at this
    rw [List.getD_eq_getElem?_getD, List.getD_eq_getElem?_getD, List.getElem?_eq_getElem hj, List.getElem?_eq_getElem (show i < (p.mergeSort (fun x y => decide (x ≤ y))).length by omega)]
    exact this
  have hat := prm_at h hm ha
  have hl := hm.length_eq
  generalize p.mergeSort (fun x y => decide (x ≤ y)) = ys at *
  have mem : ∀ y ∈ p, 0 ≤ y ∧ y < p.length := by
    intro y hy
    obtain ⟨i, hi, e⟩ := pos_ex (hm.mem_iff.2 hy)
    rw [hat i hi] at e
    omega
  have nd : ys.Nodup := by
    rw [List.Nodup, List.pairwise_iff_getElem]
    intro i j hi hj hij e
    have h1 := hat i hi
    have h2 := hat j hj
    simp only [List.getD_eq_getElem?_getD, List.getElem?_eq_getElem hi, List.getElem?_eq_getElem hj, Option.getD_some] at h1 h2
    omega
  have pd : p.Nodup := hm.nodup_iff.1 nd
  refine ⟨fun i hi => mem _ (by simp [hi]), fun i j hi hj e => ?_⟩
  rw [List.Nodup, List.pairwise_iff_getElem] at pd
  simp only [List.getD_eq_getElem?_getD, List.getElem?_eq_getElem hi, List.getElem?_eq_getElem hj, Option.getD_some] at e
  rcases Nat.lt_trichotomy i j with g | g | g
  · exact absurd e (pd i j hi hj g)
  · exact g
  · exact absurd e.symm (pd j i hj hi g)
/-- the way from y till x -/
def orb (p : List Int) (x y : Int) : Nat → List Int
  | 0 => []
  | n + 1 => if y = x then [] else y :: orb p x (p.getD y.toNat 0) n
def cycC (p : List Int) (x : Int) : List Int := x :: orb p x (p.getD x.toNat 0) p.length
theorem orb_self (p : List Int) (x : Int) (n : Nat) : orb p x x n = [] := by cases n <;> simp [orb]
/-- a way begun at x: c, and y comes next -/
structure Way (p : List Int) (x : Int) (c : List Int) (y : Int) : Prop where
  rng : ∀ z ∈ c, 0 ≤ z ∧ z < p.length
  nd : c.Nodup
  ne : c ≠ []
  head : c.getD 0 0 = x
  step : ∀ i, i + 1 < c.length → c.getD (i + 1) 0 = p.getD (c.getD i 0).toNat 0
  last : y = p.getD (c.getD (c.length - 1) 0).toNat 0
  tail : cycC p x = c ++ orb p x y (p.length + 1 - c.length)
theorem nodup_len (n : Nat) : ∀ (c : List Int), c.Nodup → (∀ z ∈ c, 0 ≤ z ∧ z < (n : Int)) → c.length ≤ n := by
  induction n with
  | zero =>
    intro c _ h
    cases c with
    | nil => simp
    | cons z c => have := h z (by simp); omega
  | succ n ih =>
    intro c hn h
    have hn' := hn.erase (n : Int)
    have hl : c.length ≤ (c.erase (n : Int)).length + 1 := by
      rw [List.length_erase]; split <;> omega
    have := ih (c.erase (n : Int)) hn' (fun z hz => by
      have h1 := h z (List.mem_of_mem_erase hz)
      have h2 : z ≠ n := fun e => by
        subst e
        exact (hn.not_mem_erase) hz
      omega)
    omega
theorem Way.len {p : List Int} {x y : Int} {c : List Int} (h : Way p x c y) : 1 ≤ c.length ∧ c.length ≤ p.length := by
  refine ⟨?_, nodup_len _ c h.nd h.rng⟩
  have := h.ne
  cases c with
  | nil => exact absurd rfl this
  | cons _ _ => simp
theorem getD_mem {c : List Int} {i : Nat} (h : i < c.length) : c.getD i 0 ∈ c := by simp [h]
theorem Way.yrng {p : List Int} {x y : Int} {c : List Int} (hp : Prm p) (h : Way p x c y) : 0 ≤ y ∧ y < p.length := by
  have hl := h.len
  have := h.rng _ (getD_mem (show c.length - 1 < c.length by omega))
  rw [h.last]
  exact (prm_range hp).1 _ (by omega)
/-- what comes again is x -/
theorem Way.back {p : List Int} {x y : Int} {c : List Int} (hp : Prm p) (h : Way p x c y) (hy : y ∈ c) : y = x := by
  have hl := h.len
  obtain ⟨i, hi, e⟩ := pos_ex hy
  by_cases h0 : i = 0
  · subst h0; rw [← e, h.head]
  · have h1 := h.step (i - 1) (by omega)
    rw [show i - 1 + 1 = i from by omega, e, h.last] at h1
    have r1 := h.rng _ (getD_mem (show c.length - 1 < c.length by omega))
    have r2 := h.rng _ (getD_mem (show i - 1 < c.length by omega))
    have := (prm_range hp).2 _ _ (by omega) (by omega) h1
    have e2 : c.getD (c.length - 1) 0 = c.getD (i - 1) 0 := by omega
    have nd := h.nd
    rw [List.Nodup, List.pairwise_iff_getElem] at nd
    simp only [List.getD_eq_getElem?_getD, List.getElem?_eq_getElem (show c.length - 1 < c.length by omega), List.getElem?_eq_getElem (show i - 1 < c.length by omega), Option.getD_some] at e2
    exact absurd e2.symm (nd (i - 1) (c.length - 1) (by omega) (by omega) (by omega))
set_option linter.unusedVariables false in
theorem Way.first {p : List Int} (hp : Prm p) {x : Nat} (hx : x < p.length) : Way p (x : Int) [(x : Int)] (p.getD x 0) :=
  ⟨fun z hz => by simp at hz; omega, by simp, by simp, rfl, fun i hi => by simp at hi, by simp, by simp [cycC]⟩
set_option linter.unusedVariables false in
theorem Way.next {p : List Int} {x y : Int} {c : List Int} (hp : Prm p) (h : Way p x c y) (hy : y ≠ x) : Way p x (c ++ [y]) (p.getD y.toNat 0) := by
  have hl := h.len
  have hyr := h.yrng hp
  have hni : y ∉ c := fun hm => hy (h.back hp hm)
  have hnd : (c ++ [y]).Nodup := List.nodup_append.2 ⟨h.nd, by simp, fun a ha b hb e => by simp at hb; subst hb; exact hni (e ▸ ha)⟩
  have hlen := nodup_len p.length (c ++ [y]) hnd (fun z hz => by
    rcases List.mem_append.1 hz with g | g
    · exact h.rng z g
    · simp at g; rw [g]; exact hyr)
  simp only [List.length_append, List.length_cons, List.length_nil] at hlen
  have at1 : ∀ i, i < c.length → (c ++ [y]).getD i 0 = c.getD i 0 := fun i hi => by
    rw [List.getD_eq_getElem?_getD, List.getD_eq_getElem?_getD, List.getElem?_append_left hi]
  have at2 : (c ++ [y]).getD c.length 0 = y := by
    rw [List.getD_eq_getElem?_getD, List.getElem?_append_right (Nat.le_refl _)]; simp
  refine ⟨fun z hz => ?_, hnd, by simp, by rw [at1 0 (by omega)]; exact h.head, fun i hi => ?_, ?_, ?_⟩
  · rcases List.mem_append.1 hz with g | g
    · exact h.rng z g
    · simp at g; rw [g]; exact hyr
  · simp only [List.length_append, List.length_cons, List.length_nil] at hi
    by_cases c1 : i + 1 < c.length
    · rw [at1 _ c1, at1 _ (by omega)]; exact h.step i c1
    · have : i = c.length - 1 := by omega
      subst this
      rw [show c.length - 1 + 1 = c.length from by omega, at2, at1 _ (by omega)]
      exact h.last
  · simp only [List.length_append, List.length_cons, List.length_nil, Nat.add_sub_cancel]
    rw [at2]
  · have := h.tail
    obtain ⟨n, hn⟩ : ∃ n, p.length + 1 - c.length = n + 1 := ⟨p.length - c.length, by omega⟩
    rw [hn] at this
    simp only [orb, if_neg hy] at this
    rw [this]
    simp only [List.length_append, List.length_cons, List.length_nil, List.append_assoc, List.cons_append, List.nil_append]
    rw [show p.length + 1 - (c.length + (0 + 1)) = n from by omega]
theorem Way.done {p : List Int} {x : Int} {c : List Int} (h : Way p x c x) : c = cycC p x := by
  rw [h.tail, orb_self, List.append_nil]
/-- a set that nothing leads into from outside -/
def Shut (p s : List Int) : Prop := (∀ z ∈ s, 0 ≤ z ∧ z < p.length) ∧ ∀ z : Nat, z < p.length → p.getD z 0 ∈ s → (z : Int) ∈ s
theorem Way.out {p s : List Int} {x y : Int} {c : List Int} (h : Way p x c y) (hs : Shut p s) (hd : ∀ z ∈ c, z ∉ s) : y ∉ s := by
  have hl := h.len
  have hm := getD_mem (show c.length - 1 < c.length by omega)
  have r := h.rng _ hm
  intro hy
  rw [h.last] at hy
  have := hs.2 (c.getD (c.length - 1) 0).toNat (by omega) hy
  rw [show (((c.getD (c.length - 1) 0).toNat : Nat) : Int) = c.getD (c.length - 1) 0 from by omega] at this
  exact hd _ hm this
end Go.Proofs.YtdgapefbbdfpbaaGreat.Ai
namespace Go.Proofs.YtdgapefbbdfpbaaGreat.Ai
open Go
set_option linter.unusedVariables false
/-- the place of a number -/
def ax (q : List Int) (x : Int) : Int := idxP (fun y => decide (x = y)) q 0
theorem idxP_at (p : Int → Bool) : ∀ (xs : List Int) (k : Nat), xs.any p = true → ∃ i : Nat, i < xs.length ∧ idxP p xs k = ((k + i : Nat) : Int) ∧ p (xs.getD i 0) = true
  | [], k, h => by simp at h
  | x :: xs, k, h => by
    by_cases hx : p x = true
    · exact ⟨0, by simp, by simp [idxP, hx], by simpa using hx⟩
    · have : xs.any p = true := by simpa [hx] using h
      obtain ⟨i, h1, h2, h3⟩ := idxP_at p xs (k + 1) this
      refine ⟨i + 1, by simpa using h1, ?_, by simpa using h3⟩
      rw [idxP, if_neg hx, h2]
      congr 1; omega
theorem ax_at {q : List Int} {x : Int} (h : x ∈ q) : ∃ i : Nat, i < q.length ∧ ax q x = (i : Int) ∧ q.getD i 0 = x := by
  obtain ⟨i, h1, h2, h3⟩ := idxP_at (fun y => decide (x = y)) q 0 (by simpa using h)
  refine ⟨i, h1, by rw [ax, h2]; congr 1; omega, ?_⟩
  have := of_decide_eq_true h3
  exact this.symm
def swp (p : List Int) (a b : Nat) : List Int := (p.set a (p.getD b 0)).set b (p.getD a 0)
theorem swp_len (p : List Int) (a b : Nat) : (swp p a b).length = p.length := by simp [swp]
theorem swp_at (p : List Int) (a b k : Nat) (ha : a < p.length) (hb : b < p.length) (hk : k < p.length) : (swp p a b).getD k 0 = if k = b then p.getD a 0 else if k = a then p.getD b 0 else p.getD k 0 := by
  unfold swp
  rw [List.getD_eq_getElem?_getD, List.getElem?_set]
  by_cases h1 : b = k
  · subst h1
    rw [if_pos rfl, if_pos (by simpa using hb), if_pos rfl]; rfl
  · rw [if_neg h1, if_neg (fun e => h1 e.symm), List.getElem?_set]
    by_cases h2 : a = k
    · subst h2
      rw [if_pos rfl, if_pos ha, if_pos rfl]; rfl
    · rw [if_neg h2, if_neg (fun e => h2 e.symm), ← List.getD_eq_getElem?_getD]
theorem mem_getD {q : List Int} {k : Nat} (h : k < q.length) : q.getD k 0 ∈ q := by simp [h]
theorem swp_prm {p : List Int} (h : Prm p) {a b : Nat} (ha : a < p.length) (hb : b < p.length) : Prm (swp p a b) := by
  refine ⟨by rw [swp_len]; exact h.1, fun x hx => ?_⟩
  rw [swp_len] at hx
  obtain ⟨i, hi, e⟩ := pos_ex (h.2 x hx)
  have mk : ∀ k, k < p.length → (swp p a b).getD k 0 = x → (x : Int) ∈ swp p a b := fun k hk e => by
    rw [← e]; exact mem_getD (by rw [swp_len]; exact hk)
  by_cases h1 : i = a
  · subst h1; exact mk b hb (by rw [swp_at p _ b b ha hb hb, if_pos rfl]; exact e)
  · by_cases h2 : i = b
    · subst h2
      by_cases h3 : a = i
      · exact absurd h3.symm h1
      · exact mk a ha (by rw [swp_at p a _ a ha hb ha, if_neg h3, if_pos rfl]; exact e)
    · exact mk i hi (by rw [swp_at p a b i ha hb hi, if_neg h2, if_neg h1]; exact e)
structure SrtOk (p : List Int) (x : Nat) (o : List (Int × Int)) (q : List Int) : Prop where
  prm : Prm q
  len : q.length = p.length
  fix : ∀ y, y < x → q.getD y 0 = y
  few : o.length ≤ x
theorem SrtOk.place {p : List Int} {x : Nat} {o : List (Int × Int)} {q : List Int} (h : SrtOk p x o q) (hx : x < p.length) : ∃ i : Nat, x ≤ i ∧ i < p.length ∧ ax q x = (i : Int) ∧ q.getD i 0 = x ∧ (q.getD x 0 = x ↔ i = x) := by
  obtain ⟨i, h1, h2, h3⟩ := ax_at (h.prm.2 x (by rw [h.len]; exact hx))
  have hl := h.len
  refine ⟨i, ?_, by omega, h2, h3, fun e => ?_, fun e => by rw [← e]; rw [h3]; rw [e]⟩
  · by_cases hlt : i < x
    · have := h.fix i hlt
      omega
    · omega
  · exact (prm_range h.prm).2 i x h1 (by omega) (by rw [h3, e])
theorem SrtOk.next {p : List Int} {x i : Nat} {o : List (Int × Int)} {q : List Int} (h : SrtOk p x o q) (hx : x < p.length) (h1 : x ≤ i) (h2 : i < p.length) (h3 : q.getD i 0 = x) (hne : i ≠ x) : SrtOk p (x + 1) (o ++ [((x : Int), (i : Int))]) (swp q x i) := by
  have hl := h.len
  refine ⟨swp_prm h.prm (by omega) (by omega), by rw [swp_len]; exact hl, fun y hy => ?_, by have := h.few; simp; omega⟩
  rw [swp_at q x i y (by omega) (by omega) (by omega), if_neg (by omega)]
  by_cases hc : y = x
  · rw [if_pos hc, h3, hc]
  · rw [if_neg hc]; exact h.fix y (by omega)
def swOk (n : Nat) (s : Int × Int) : Prop := 0 ≤ s.1 ∧ s.1 < s.2 ∧ s.2 < n
instance (n : Nat) (s : Int × Int) : Decidable (swOk n s) := inferInstanceAs (Decidable (_ ∧ _))
def plcOk (p : List Int) (ss : List (Int × Int)) : Prop := Prm p ∧ ∀ s ∈ ss, swOk p.length s
instance (p : List Int) (ss : List (Int × Int)) : Decidable (plcOk p ss) := inferInstanceAs (Decidable (_ ∧ _))
end Go.Proofs.YtdgapefbbdfpbaaGreat.Ai
namespace Go.Proofs.YtdgapefbbdfpbaaGreat.Ai
open Go
def ords168 : List (Nat × List (Nat × Bool)) := []
def cd168 : Cd := (.seq (.reg [⟨⟨some 2, Op.assign (Operand.const (Value.slice none 0 0)), none⟩, []⟩]) (.seq (.reg [⟨⟨some 3, Op.buildSlice 34 0 #[], none⟩, []⟩,
  ⟨⟨some 4, Op.move (Operand.tmp 0), none⟩, []⟩,
  ⟨⟨some 5, Op.call { callee := (Callee.builtin Builtin.append), args := #[(Operand.tmp 3), (Operand.tmp 4)], argTypes := #[34, 34] }, none⟩, []⟩,
  ⟨⟨some 2, Op.assign (Operand.tmp 5), none⟩, []⟩]) .ret))
theorem sl168 : slim Tryz.f168.ntmps ords168 (Tryz.f168.body.getD .skip) = some cd168 := by kernel_rfl
theorem in168 {args : List Value} {H : AH} {R : Value → AH → Prop} (hl : args.length = 1) (h : ∀ (Q : Exit → Sl → AH → Prop), (∀ e s H, endA Tryz.prog [ResultVar.tmp 2] R e s H → Q e s H) → wpC Tryz.prog cd168 Q (enterA args) H) : ACalls Tryz.prog 168 args H R :=
  ACalls.intro (by kernel_rfl) Tryz.func168 rfl (by kernel_rfl) sl168 hl (of_decide_eq_true (by kernel_rfl)) (by kernel_rfl) h
end Go.Proofs.YtdgapefbbdfpbaaGreat.Ai
namespace Go.Proofs.YtdgapefbbdfpbaaGreat.Ai
open Go Go.RowKit
set_option linter.unusedVariables false
set_option linter.unusedSimpArgs false
set_option maxRecDepth 20000 in
theorem l1Own_c (v : Value) (xs : List Int) (H : AH) (hr : Row 3 H v xs) (hlen : xs.length ≤ 1099511627776) : ACalls Tryz.prog 168 [v] H fun r H' => Own 3 H H' r xs ∧ H <+: H' := by
  refine in168 rfl ?_
  intro Q hQ
  simp (maxSteps := 1000000) (disch := omega) only [cd168, S, S1, S2, S3, S4, S5, ST, eq_self, reduceIte, reduceCtorEq, Nat.reduceEqDiff, Nat.reduceAdd]
  have hp := List.prefix_append H [AObj.cells [] 3 false]
  have ho : Own 3 H (H ++ [AObj.cells [] 3 false]) (.slice (some ⟨H.length, 0, none⟩) 0 0) [] := .inr ⟨H.length, rfl, Nat.le_refl _, at_new ..⟩
  obtain ⟨v', H2, k1, k2, k3, _⟩ := ho.app (P := Tryz.prog) (t := 34) Tryz.underlying34 cs3 (by rw [by3]; decide) zk3 (hr.pre hp) hp (by simp; omega)
  simp (maxSteps := 1000000) (disch := omega) only [k1, S, S1, S2, S3, S4, S5, ST, eq_self, reduceIte, reduceCtorEq, Nat.reduceEqDiff, Nat.reduceAdd]
  refine hQ _ _ _ ?_
  simp (maxSteps := 1000000) (disch := omega) only [k2.row.tup, S, S1, S2, S3, S4, S5, ST, eq_self, reduceIte, reduceCtorEq, Nat.reduceEqDiff, Nat.reduceAdd]
  exact ⟨k2, k3⟩
end Go.Proofs.YtdgapefbbdfpbaaGreat.Ai
namespace Go.Proofs.YtdgapefbbdfpbaaGreat.Ai
open Go
def ords131 : List (Nat × List (Nat × Bool)) := [(7, [(0, false), (1, false), (2, false), (3, false), (4, false), (5, false), (6, false), (7, false), (8, false), (9, false), (10, false), (11, false), (12, false), (13, false), (14, false), (15, false), (16, false), (17, false), (18, false), (19, false), (20, false), (21, false), (22, true), (23, false), (24, false)]), (8, [(0, false), (1, false), (2, false), (3, false), (5, false), (6, false), (7, false), (8, false), (9, false), (4, true), (10, true), (11, true), (12, true), (13, true)])]
def cd131 : Cd := (.seq (.reg [⟨⟨some 6, Op.assign (Operand.const (Value.slice none 0 0)), none⟩, []⟩]) (.seq (.seq (.reg [⟨⟨some 9, Op.move (Operand.tmp 2), none⟩, []⟩,
  ⟨⟨some 10, Op.call { callee := (Callee.builtin Builtin.len), args := #[(Operand.tmp 9)], argTypes := #[34] }, none⟩, []⟩,
  ⟨⟨some 11, Op.move (Operand.tmp 0), none⟩, []⟩,
  ⟨⟨some 12, Op.binOp BinOp.sub 3 (Operand.tmp 11) (Operand.const (Value.int IntKind.i64 3)) 3, none⟩, []⟩,
  ⟨⟨some 13, Op.binOp BinOp.eql 3 (Operand.tmp 10) (Operand.tmp 12) 3, none⟩, []⟩]) (.cond (Operand.tmp 13) (.seq (.reg [⟨⟨some 14, Op.move (Operand.tmp 2), none⟩, []⟩,
  ⟨⟨some 15, Op.buildSlice 25 1 #[(0, (Operand.tmp 14))], none⟩, []⟩,
  ⟨⟨some 6, Op.assign (Operand.tmp 15), none⟩, []⟩]) .ret) .skip)) (.seq (.reg [⟨⟨some 16, Op.buildSlice 25 0 #[], none⟩, []⟩,
  ⟨⟨some 7, Op.assign (Operand.tmp 16), none⟩, []⟩]) (.seq (.seq (.reg [⟨⟨some 8, Op.assign (Operand.const (Value.int IntKind.i64 0)), none⟩, []⟩]) (.block 0 (.loop (.seq (.seq (.reg [⟨⟨some 17, Op.move (Operand.tmp 8), none⟩, []⟩,
  ⟨⟨some 18, Op.move (Operand.tmp 1), none⟩, []⟩,
  ⟨⟨some 19, Op.call { callee := (Callee.builtin Builtin.len), args := #[(Operand.tmp 18)], argTypes := #[34] }, none⟩, []⟩,
  ⟨⟨some 20, Op.binOp BinOp.lss 3 (Operand.tmp 17) (Operand.tmp 19) 3, none⟩, []⟩]) (.cond (Operand.tmp 20) .skip (.exit 0))) (.seq (.block 1 (.seq (.seq (.reg [⟨⟨some 23, Op.move (Operand.tmp 2), none⟩, []⟩,
  ⟨⟨some 24, Op.call { callee := (Callee.builtin Builtin.len), args := #[(Operand.tmp 23)], argTypes := #[34] }, none⟩, []⟩,
  ⟨⟨some 25, Op.binOp BinOp.gtr 3 (Operand.tmp 24) (Operand.const (Value.int IntKind.i64 0)) 3, none⟩, []⟩,
  ⟨⟨some 26, Op.move (Operand.tmp 25), none⟩, []⟩,
  ⟨⟨some 27, Op.move (Operand.tmp 1), some (26, true)⟩, []⟩,
  ⟨⟨some 28, Op.move (Operand.tmp 8), some (26, true)⟩, []⟩,
  ⟨⟨some 29, Op.indexAddr 34 (Operand.tmp 27) (Operand.tmp 28), some (26, true)⟩, []⟩,
  ⟨⟨some 30, Op.load 3 (Operand.tmp 29), some (26, true)⟩, []⟩,
  ⟨⟨some 31, Op.move (Operand.tmp 2), some (26, true)⟩, []⟩,
  ⟨⟨some 32, Op.move (Operand.tmp 2), some (26, true)⟩, []⟩,
  ⟨⟨some 33, Op.call { callee := (Callee.builtin Builtin.len), args := #[(Operand.tmp 32)], argTypes := #[34] }, some (26, true)⟩, []⟩,
  ⟨⟨some 34, Op.binOp BinOp.sub 3 (Operand.tmp 33) (Operand.const (Value.int IntKind.i64 1)) 3, some (26, true)⟩, []⟩,
  ⟨⟨some 35, Op.indexAddr 34 (Operand.tmp 31) (Operand.tmp 34), some (26, true)⟩, []⟩,
  ⟨⟨some 36, Op.load 3 (Operand.tmp 35), some (26, true)⟩, []⟩,
  ⟨⟨some 37, Op.binOp BinOp.leq 3 (Operand.tmp 30) (Operand.tmp 36) 3, some (26, true)⟩, []⟩,
  ⟨⟨some 38, Op.pick (Operand.tmp 26) (Operand.tmp 37) (Operand.const (Value.bool false)), none⟩, []⟩,
  ⟨⟨some 39, Op.move (Operand.tmp 38), none⟩, []⟩,
  ⟨⟨some 40, Op.move (Operand.tmp 2), some (39, false)⟩, []⟩,
  ⟨⟨some 41, Op.move (Operand.tmp 1), some (39, false)⟩, []⟩,
  ⟨⟨some 42, Op.move (Operand.tmp 8), some (39, false)⟩, []⟩,
  ⟨⟨some 43, Op.indexAddr 34 (Operand.tmp 41) (Operand.tmp 42), some (39, false)⟩, []⟩,
  ⟨⟨some 44, Op.load 3 (Operand.tmp 43), some (39, false)⟩, []⟩,
  ⟨⟨some 45, Op.call { callee := (Callee.value (Operand.func 82)), args := #[(Operand.tmp 40), (Operand.tmp 44)], argTypes := #[34, 3] }, some (39, false)⟩, []⟩,
  ⟨⟨some 46, Op.unOp UnOp.not 4 (Operand.tmp 45), some (39, false)⟩, []⟩,
  ⟨⟨some 47, Op.pick (Operand.tmp 39) (Operand.const (Value.bool true)) (Operand.tmp 46), none⟩, []⟩]) (.cond (Operand.tmp 47) (.exit 1) .skip)) (.reg [⟨⟨some 48, Op.move (Operand.tmp 7), none⟩, []⟩,
  ⟨⟨some 49, Op.move (Operand.tmp 0), none⟩, []⟩,
  ⟨⟨some 50, Op.move (Operand.tmp 1), none⟩, []⟩,
  ⟨⟨some 51, Op.move (Operand.tmp 2), none⟩, []⟩,
  ⟨⟨some 53, Op.move (Operand.tmp 1), none⟩, []⟩,
  ⟨⟨some 54, Op.move (Operand.tmp 8), none⟩, []⟩,
  ⟨⟨some 55, Op.indexAddr 34 (Operand.tmp 53) (Operand.tmp 54), none⟩, []⟩,
  ⟨⟨some 56, Op.load 3 (Operand.tmp 55), none⟩, []⟩,
  ⟨⟨some 57, Op.buildSlice 34 1 #[(0, (Operand.tmp 56))], none⟩, []⟩,
  ⟨⟨some 52, Op.call { callee := (Callee.value (Operand.func 168)), args := #[(Operand.tmp 51)], argTypes := #[34] }, none⟩, [⟨some 57, Op.buildSlice 34 1 #[(0, (Operand.tmp 56))], none⟩, ⟨some 56, Op.load 3 (Operand.tmp 55), none⟩]⟩,
  ⟨⟨some 58, Op.call { callee := (Callee.builtin Builtin.append), args := #[(Operand.tmp 52), (Operand.tmp 57)], argTypes := #[34, 34] }, none⟩, []⟩,
  ⟨⟨some 59, Op.call { callee := (Callee.value (Operand.func 131)), args := #[(Operand.tmp 49), (Operand.tmp 50), (Operand.tmp 58)], argTypes := #[3, 34, 34] }, none⟩, []⟩,
  ⟨⟨some 60, Op.call { callee := (Callee.builtin Builtin.append), args := #[(Operand.tmp 48), (Operand.tmp 59)], argTypes := #[25, 25] }, none⟩, []⟩,
  ⟨⟨some 7, Op.assign (Operand.tmp 60), none⟩, []⟩]))) (.reg [⟨⟨some 21, Op.move (Operand.tmp 8), none⟩, []⟩,
  ⟨⟨some 22, Op.binOp BinOp.add 3 (Operand.tmp 21) (Operand.const (Value.int IntKind.i64 1)) 3, none⟩, []⟩,
  ⟨⟨some 8, Op.assign (Operand.tmp 22), none⟩, []⟩])))))) (.seq (.reg [⟨⟨some 61, Op.move (Operand.tmp 7), none⟩, []⟩,
  ⟨⟨some 6, Op.assign (Operand.tmp 61), none⟩, []⟩]) .ret)))))
theorem sl131 : slim Tryz.f131.ntmps ords131 (Tryz.f131.body.getD .skip) = some cd131 := by kernel_rfl
theorem in131 {args : List Value} {H : AH} {R : Value → AH → Prop} (hl : args.length = 3) (h : ∀ (Q : Exit → Sl → AH → Prop), (∀ e s H, endA Tryz.prog [ResultVar.tmp 6] R e s H → Q e s H) → wpC Tryz.prog cd131 Q (enterA args) H) : ACalls Tryz.prog 131 args H R :=
  ACalls.intro (by kernel_rfl) Tryz.func131 rfl (by kernel_rfl) sl131 hl (of_decide_eq_true (by kernel_rfl)) (by kernel_rfl) h
end Go.Proofs.YtdgapefbbdfpbaaGreat.Ai
namespace Go.Proofs.YtdgapefbbdfpbaaGreat.Ai
open Go Go.RowKit
set_option linter.unusedVariables false
set_option linter.unusedSimpArgs false
theorem tlp_zero (all : List Int) (h : Nat) (ed : List Int) : tlp all h 0 ed = [] := rfl
set_option maxRecDepth 20000 in
set_option maxHeartbeats 4000000 in
theorem l8Fill_c (n : Int) (h : Nat) (hn : n - 3 = (h : Int)) (hh : h ≤ 100) (va : Value) (all : List Int) (hN : all.length ≤ 28) (hall : ∀ y ∈ all, 0 ≤ y ∧ y ≤ 100) (hasc : ∀ i j, i < j → j < all.length → all.getD i 0 < all.getD j 0) :
    ∀ (r : Nat) (ed : List Int) (w : Value) (lo : Nat) (H : AH), Row 3 H va all → InI lo H.length 3 H w ed → lo ≤ H.length → r ≤ all.length → ed.length + r ≤ all.length → (∀ y ∈ ed, 0 ≤ y ∧ y ≤ 100) → (ed.length = 0 → r = all.length) → (0 < ed.length → 0 < all.length - r ∧ ed.getD (ed.length - 1) 0 = all.getD (all.length - r - 1) 0) →
      ACalls Tryz.prog 131 [.int .i64 n, va, w] H fun g H' => InL lo H'.length 34 3 H' g (tex all h r ed) ∧ H <+: H' := by
  intro r
  induction r using Nat.strongRecOn with
  | ind r ih =>
  intro ed w lo H hr hw hlo hrl hel hed hz hlast
  have hrow := hw.row.1
  refine in131 rfl ?_
  intro Q hQ
  simp (maxSteps := 1000000) (disch := omega) only [cd131, hrow.len Tryz.underlying34, wrap64, S, S1, S2, S3, S4, S5, ST, eq_self, reduceIte, reduceCtorEq, Nat.reduceEqDiff, Nat.reduceAdd]
  refine brD.intro (fun e => ?_) (fun e => ?_)
  · have hek : ed.length = h := by omega
    have ht : tex all h r ed = [ed] := by unfold tex; rw [if_pos hek]
    rw [ht] at hQ
    have hbs : buildSliceA Tryz.prog 25 1 [(0, w)] H = some (.slice (some ⟨H.length, 0, none⟩) 1 1, H ++ [.cells [w] 34 false]) := by
      obtain ⟨q, eq⟩ := hrow.shape
      rw [eq]
      exact bs1 Tryz.underlying25 cs34 ze34 ⟨by kernel_rfl, by kernel_rfl⟩ H rfl
    simp (maxSteps := 1000000) (disch := omega) only [hbs, S, S1, S2, S3, S4, S5, ST, eq_self, reduceIte, reduceCtorEq, Nat.reduceEqDiff, Nat.reduceAdd]
    refine hQ _ _ _ ?_
    simp (maxSteps := 1000000) (disch := omega) only [S, S1, S2, S3, S4, S5, ST, eq_self, reduceIte, reduceCtorEq, Nat.reduceEqDiff, Nat.reduceAdd]
    refine ⟨.inr ⟨H.length, [w], rfl, ?_⟩, List.prefix_append _ _⟩
    refine ⟨by omega, by simp, at_new .., by simp, ?_, ?_⟩
    · intro i hi
      have hi0 : i = 0 := by simpa using hi
      subst hi0
      refine ⟨(hw.pre (List.prefix_append H _)).wide (Nat.le_refl _) (by simp), ?_⟩
      rcases hw.at_ with q | q
      · exact .inl q
      · refine .inr ?_
        show rowO w ≠ H.length
        omega
    · intro i j hij hi hj
      simp at hi hj; omega
  have hek : ed.length ≠ h := by omega
  have ht : tex all h r ed = tlp all h r ed := by unfold tex; rw [if_neg hek]
  rw [ht] at hQ
  have u0 := InU.new lo 34 3 H hlo
  have hPr : 2 ^ r ≤ 2 ^ 28 := Nat.pow_le_pow_right (by decide) (by omega)
  have etd : ((ed.length : Int) - 1).toNat = ed.length - 1 := by omega
  simp (maxSteps := 1000000) (disch := omega) only [e, S, S1, S2, S3, S4, S5, ST, eq_self, reduceIte, reduceCtorEq, Nat.reduceEqDiff, Nat.reduceAdd]
  refine LoopH.by (fun m s H' => ∃ i o us L, m + i = all.length ∧ s 0 = .int .i64 n ∧ s 1 = va ∧ s 2 = w ∧ s 7 = .slice (some ⟨o, 0, none⟩) L.length L.length ∧ s 8 = .int .i64 ((i : Nat) : Int) ∧ H.length ≤ o ∧ InU lo H'.length 34 3 H' o us L ∧ L ++ tlp all h (min r m) ed = tlp all h r ed ∧ L.length + 2 ^ (min r m) ≤ 2 ^ r ∧ H <+: H') all.length ?_ ?_
  · refine ⟨0, H.length, [], [], by simp, rfl, rfl, rfl, rfl, rfl, Nat.le_refl _, ?_, ?_, ?_, List.prefix_append _ _⟩
    · simpa using u0
    · rw [Nat.min_eq_left hrl]; rfl
    · rw [Nat.min_eq_left hrl]; simp
  rintro m s H' ⟨i, o, us, L, hm, h0, h1, h2, h7, h8, hoA, hin, hL, hcnt, hp⟩
  have hrH := hr.pre hp
  have wH := hrow.pre hp
  simp (maxSteps := 1000000) (disch := omega) only [h0, h1, h2, h7, h8, hrH.len Tryz.underlying34, S, S1, S2, S3, S4, S5, ST, eq_self, reduceIte, reduceCtorEq, Nat.reduceEqDiff, Nat.reduceAdd]
  refine brD.intro (fun g => ?_) (fun g => ?_)
  rotate_left
  · have hm0 : m = 0 := by omega
    subst hm0
    rw [Nat.min_eq_right (Nat.zero_le _), tlp_zero, List.append_nil] at hL
    simp (maxSteps := 1000000) (disch := omega) only [h7, S, S1, S2, S3, S4, S5, ST, eq_self, reduceIte, reduceCtorEq, Nat.reduceEqDiff, Nat.reduceAdd]
    refine hQ _ _ _ ?_
    simp (maxSteps := 1000000) (disch := omega) only [h7, S, S1, S2, S3, S4, S5, ST, eq_self, reduceIte, reduceCtorEq, Nat.reduceEqDiff, Nat.reduceAdd]
    rw [← hL]
    exact ⟨hin.inl, hp⟩
  have hi : i < all.length := by omega
  have hdm : all.getD i 0 ∈ all := by simp [hi]
  have hdr := hall _ hdm
  simp (maxSteps := 1000000) (disch := omega) only [h0, h1, h2, h7, h8, wH.len Tryz.underlying34, S, S1, S2, S3, S4, S5, ST, eq_self, reduceIte, reduceCtorEq, Nat.reduceEqDiff, Nat.reduceAdd]
  refine brD.intro (fun g3 => ?_) (fun g3 => ?_)
  · obtain ⟨hl1, hl2⟩ := hlast (by omega)
    have hlc := wH.cell (show ed.length - 1 < ed.length by omega)
    rw [hl2] at hlc
    have hdc0 := hrH.cell hi
    simp (maxSteps := 1000000) (disch := omega) only [g3, h0, h1, h2, h7, h8, etd, wH.len Tryz.underlying34, wH.ix Tryz.underlying34 cs3, hrH.ix Tryz.underlying34 cs3, hlc, hdc0, Int.toNat_natCast, wrap64, S, S1, S2, S3, S4, S5, ST, eq_self, reduceIte, reduceCtorEq, Nat.reduceEqDiff, Nat.reduceAdd]
    refine brD.intro (fun g4 => ?_) (fun g4 => ?_)
    · have hlt : i < all.length - r := by
        apply Decidable.byContradiction
        intro hc
        have := hasc (all.length - r - 1) i (by omega) hi
        omega
      have hm1 : min r m = r := Nat.min_eq_left (by omega)
      have hm2 : min r (m - 1) = r := Nat.min_eq_left (by omega)
      rw [hm1] at hL hcnt
      simp (maxSteps := 1000000) (disch := omega) only [g3, g4, h0, h1, h2, h7, h8, wrap64, S, S1, S2, S3, S4, S5, ST, eq_self, reduceIte, reduceCtorEq, Nat.reduceEqDiff, Nat.reduceAdd]
      refine ⟨m - 1, by omega, i + 1, o, us, L, by omega, ?_⟩
      rw [hm2]
      (repeat' first | exact hin | exact hL | exact hcnt | exact hp | apply And.intro) <;> first | (simp only [Value.int.injEq, true_and]; omega) | omega | rfl | assumption | (simp; done) | (simp; omega)
    · have hB0 : all.length - r ≤ i := by
        apply Decidable.byContradiction
        intro hc
        by_cases he : i = all.length - r - 1
        · rw [he] at g4; omega
        · have := hasc i (all.length - r - 1) (by omega) (by omega)
          omega
      obtain ⟨j, rfl⟩ : ∃ j, m = j + 1 := ⟨m - 1, by omega⟩
      have hmr : min r (j + 1) = j + 1 := Nat.min_eq_right (by omega)
      have hmr2 : min r j = j := Nat.min_eq_right (by omega)
      rw [hmr] at hL hcnt
      have hNi : all.length - (j + 1) = i := by omega
      have hstep := tlp_step all h j ed
      rw [hNi] at hstep
      have hP : 2 ^ (j + 1) = 2 ^ j + 2 ^ j := by rw [Nat.pow_succ]; omega
      have hpi : 1 ≤ 2 ^ j := Nat.one_le_two_pow
      generalize hd : all.getD i 0 = d at *
      have hdc := hrH.cell hi
      rw [hd] at hdc
      simp (maxSteps := 1000000) (disch := omega) only [g3, g4, h0, h1, h2, h7, h8, hrH.ix Tryz.underlying34 cs3, hdc, Int.toNat_natCast, S, S1, S2, S3, S4, S5, ST, eq_self, reduceIte, reduceCtorEq, Nat.reduceEqDiff, Nat.reduceAdd]
      refine CallH.by (l8Apart_c w ed d H' wH (by omega) (fun y hy => by have := hed y hy; exact ⟨by omega, by omega⟩) ⟨by omega, by omega⟩) ?_
      rintro _ _ ⟨rfl, rfl⟩
      have hap : (!ed.any fun y => decide (Crs y d)) = apB ed d := rfl
      rw [hap]
      cases hq : apB ed d
      · rw [hq] at hstep
        simp only [Bool.false_eq_true, if_false, List.nil_append] at hstep
        rw [hstep] at hL
        simp (maxSteps := 1000000) (disch := omega) only [g3, g4, h0, h1, h2, h7, h8, wrap64, S, S1, S2, S3, S4, S5, ST, eq_self, reduceIte, reduceCtorEq, Nat.reduceEqDiff, Nat.reduceAdd]
        refine ⟨j, by omega, i + 1, o, us, L, by omega, ?_⟩
        rw [hmr2]
        have f1 : L.length + 2 ^ j ≤ 2 ^ r := by omega
        (repeat' first | exact hin | exact hL | exact f1 | exact hp | apply And.intro) <;> first | (simp only [Value.int.injEq, true_and]; omega) | omega | rfl | assumption | (simp; done) | (simp; omega)
      · rw [hq, if_pos rfl] at hstep
        simp (maxSteps := 1000000) (disch := omega) only [g3, g4, h0, h1, h2, h7, h8, hrH.ix Tryz.underlying34 cs3, hdc, Int.toNat_natCast, S, S1, S2, S3, S4, S5, ST, eq_self, reduceIte, reduceCtorEq, Nat.reduceEqDiff, Nat.reduceAdd]
        generalize hB : H' ++ [AObj.cells [.int .i64 d] 3 false] = B
        have pB : H' <+: B := by rw [← hB]; exact List.prefix_append _ _
        have cB : B[H'.length]? = some (.cells [.int .i64 d] 3 false) := by rw [← hB]; exact at_new ..
        have lB : B.length = H'.length + 1 := by rw [← hB]; simp
        refine CallH.by (l1Own_c w ed B (wH.pre pB) (by omega)) ?_
        rintro c C ⟨hc, pC⟩
        have cC := pre_at pC cB
        have hrC := hrH.pre (pB.trans pC)
        have hdC := hrC.cell hi
        rw [hd] at hdC
        have hx : Row 3 C (.slice (some ⟨H'.length, 0, none⟩) 1 1) [d] := .inr ⟨H'.length, 0, [.int .i64 d], false, rfl, cC, by simp, rfl⟩
        obtain ⟨v', H2, k1, k2, k3, k4, k5⟩ := hc.app (P := Tryz.prog) Tryz.underlying34 cs3 (by rw [by3]; decide) zk3 hx pC (by simp; omega)
        have pH2 := pB.trans k3
        simp (maxSteps := 1000000) (disch := omega) only [g3, g4, h0, h1, h2, h7, h8, hdC, cC, cB, k1, S, S1, S2, S3, S4, S5, ST, eq_self, reduceIte, reduceCtorEq, Nat.reduceEqDiff, Nat.reduceAdd]
        have hrec := ih j (by omega) (ed ++ [d]) v' B.length H2 (hrH.pre pH2) (InI.of k2.mine) k3.length_le (by omega) (by simp; omega) (fun y hy => by
          rcases List.mem_append.1 hy with hy | hy
          · exact hed y hy
          · simp at hy; rw [hy]; exact hdr) (fun h0 => by simp at h0) (fun _ => ⟨by omega, by
            have e1 : (ed ++ [d]).getD ((ed ++ [d]).length - 1) 0 = d := by
              rw [List.length_append, List.getD_eq_getElem?_getD, List.getElem?_append_right (by simp)]; simp
            have e2 : all.length - j - 1 = i := by omega
            rw [e1, e2, hd]⟩)
        refine CallH.by hrec ?_
        rintro gL H3 ⟨hgL, p3⟩
        have htl : (tex all h j (ed ++ [d])).length ≤ 2 ^ j := by
          unfold tex
          split
          · simp; exact hpi
          · have := tex_len all h j (ed ++ [d]); omega
        have pH3 := pH2.trans p3
        have l3 := pH3.length_le
        obtain ⟨v2, H5, o', us', q1, q2, q3, q4, q5, q6⟩ := (hin.pre pH3).appL (P := Tryz.prog) (t2 := 25) Tryz.underlying25 cs34 (by rw [by34]; decide) zk34 (hgL.wide (lo' := H'.length) (by omega) (Nat.le_refl _)) (by have := hp.length_le; omega) l3 (Nat.le_refl _) (by omega)
        have f1 : H <+: H5 := prefix_of fun j' x hx' => q5 j' x (by have := at_lt hx'; omega) (pre_at (hp.trans pH3) hx')
        have f2 : (L ++ tex all h j (ed ++ [d])) ++ tlp all h j ed = tlp all h r ed := by rw [← hL, hstep, List.append_assoc]
        have f3 : (L ++ tex all h j (ed ++ [d])).length + 2 ^ j ≤ 2 ^ r := by rw [List.length_append]; omega
        have f4 : H.length ≤ o' := by have := (hp.trans pH3).length_le; omega
        simp (maxSteps := 1000000) (disch := omega) only [h0, h1, h2, h7, h8, q1, q2, wrap64, S, S1, S2, S3, S4, S5, ST, eq_self, reduceIte, reduceCtorEq, Nat.reduceEqDiff, Nat.reduceAdd]
        refine ⟨j, by omega, i + 1, o', us', L ++ tex all h j (ed ++ [d]), by omega, ?_⟩
        rw [hmr2]
        (repeat' first | exact f1 | exact f2 | exact f3 | exact f4 | exact q3 | apply And.intro) <;> first | (simp only [Value.int.injEq, true_and]; omega) | omega | rfl | assumption | (simp; done) | (simp; omega)
  · have hz' := hz (by omega)
    have hB0 : all.length - r ≤ i := by omega
    obtain ⟨j, rfl⟩ : ∃ j, m = j + 1 := ⟨m - 1, by omega⟩
    have hmr : min r (j + 1) = j + 1 := Nat.min_eq_right (by omega)
    have hmr2 : min r j = j := Nat.min_eq_right (by omega)
    rw [hmr] at hL hcnt
    have hNi : all.length - (j + 1) = i := by omega
    have hstep := tlp_step all h j ed
    rw [hNi] at hstep
    have hP : 2 ^ (j + 1) = 2 ^ j + 2 ^ j := by rw [Nat.pow_succ]; omega
    have hpi : 1 ≤ 2 ^ j := Nat.one_le_two_pow
    generalize hd : all.getD i 0 = d at *
    have hdc := hrH.cell hi
    rw [hd] at hdc
    simp (maxSteps := 1000000) (disch := omega) only [g3, h0, h1, h2, h7, h8, hrH.ix Tryz.underlying34 cs3, hdc, Int.toNat_natCast, S, S1, S2, S3, S4, S5, ST, eq_self, reduceIte, reduceCtorEq, Nat.reduceEqDiff, Nat.reduceAdd]
    refine CallH.by (l8Apart_c w ed d H' wH (by omega) (fun y hy => by have := hed y hy; exact ⟨by omega, by omega⟩) ⟨by omega, by omega⟩) ?_
    rintro _ _ ⟨rfl, rfl⟩
    have hap : (!ed.any fun y => decide (Crs y d)) = apB ed d := rfl
    rw [hap]
    cases hq : apB ed d
    · rw [hq] at hstep
      simp only [Bool.false_eq_true, if_false, List.nil_append] at hstep
      rw [hstep] at hL
      simp (maxSteps := 1000000) (disch := omega) only [g3, h0, h1, h2, h7, h8, wrap64, S, S1, S2, S3, S4, S5, ST, eq_self, reduceIte, reduceCtorEq, Nat.reduceEqDiff, Nat.reduceAdd]
      refine ⟨j, by omega, i + 1, o, us, L, by omega, ?_⟩
      rw [hmr2]
      have f1 : L.length + 2 ^ j ≤ 2 ^ r := by omega
      (repeat' first | exact hin | exact hL | exact f1 | exact hp | apply And.intro) <;> first | (simp only [Value.int.injEq, true_and]; omega) | omega | rfl | assumption | (simp; done) | (simp; omega)
    · rw [hq, if_pos rfl] at hstep
      simp (maxSteps := 1000000) (disch := omega) only [g3, h0, h1, h2, h7, h8, hrH.ix Tryz.underlying34 cs3, hdc, Int.toNat_natCast, S, S1, S2, S3, S4, S5, ST, eq_self, reduceIte, reduceCtorEq, Nat.reduceEqDiff, Nat.reduceAdd]
      generalize hB : H' ++ [AObj.cells [.int .i64 d] 3 false] = B
      have pB : H' <+: B := by rw [← hB]; exact List.prefix_append _ _
      have cB : B[H'.length]? = some (.cells [.int .i64 d] 3 false) := by rw [← hB]; exact at_new ..
      have lB : B.length = H'.length + 1 := by rw [← hB]; simp
      refine CallH.by (l1Own_c w ed B (wH.pre pB) (by omega)) ?_
      rintro c C ⟨hc, pC⟩
      have cC := pre_at pC cB
      have hrC := hrH.pre (pB.trans pC)
      have hdC := hrC.cell hi
      rw [hd] at hdC
      have hx : Row 3 C (.slice (some ⟨H'.length, 0, none⟩) 1 1) [d] := .inr ⟨H'.length, 0, [.int .i64 d], false, rfl, cC, by simp, rfl⟩
      obtain ⟨v', H2, k1, k2, k3, k4, k5⟩ := hc.app (P := Tryz.prog) Tryz.underlying34 cs3 (by rw [by3]; decide) zk3 hx pC (by simp; omega)
      have pH2 := pB.trans k3
      simp (maxSteps := 1000000) (disch := omega) only [g3, h0, h1, h2, h7, h8, hdC, cC, cB, k1, S, S1, S2, S3, S4, S5, ST, eq_self, reduceIte, reduceCtorEq, Nat.reduceEqDiff, Nat.reduceAdd]
      have hrec := ih j (by omega) (ed ++ [d]) v' B.length H2 (hrH.pre pH2) (InI.of k2.mine) k3.length_le (by omega) (by simp; omega) (fun y hy => by
        rcases List.mem_append.1 hy with hy | hy
        · exact hed y hy
        · simp at hy; rw [hy]; exact hdr) (fun h0 => by simp at h0) (fun _ => ⟨by omega, by
          have e1 : (ed ++ [d]).getD ((ed ++ [d]).length - 1) 0 = d := by
            rw [List.length_append, List.getD_eq_getElem?_getD, List.getElem?_append_right (by simp)]; simp
          have e2 : all.length - j - 1 = i := by omega
          rw [e1, e2, hd]⟩)
      refine CallH.by hrec ?_
      rintro gL H3 ⟨hgL, p3⟩
      have htl : (tex all h j (ed ++ [d])).length ≤ 2 ^ j := by
        unfold tex
        split
        · simp; exact hpi
        · have := tex_len all h j (ed ++ [d]); omega
      have pH3 := pH2.trans p3
      have l3 := pH3.length_le
      obtain ⟨v2, H5, o', us', q1, q2, q3, q4, q5, q6⟩ := (hin.pre pH3).appL (P := Tryz.prog) (t2 := 25) Tryz.underlying25 cs34 (by rw [by34]; decide) zk34 (hgL.wide (lo' := H'.length) (by omega) (Nat.le_refl _)) (by have := hp.length_le; omega) l3 (Nat.le_refl _) (by omega)
      have f1 : H <+: H5 := prefix_of fun j' x hx' => q5 j' x (by have := at_lt hx'; omega) (pre_at (hp.trans pH3) hx')
      have f2 : (L ++ tex all h j (ed ++ [d])) ++ tlp all h j ed = tlp all h r ed := by rw [← hL, hstep, List.append_assoc]
      have f3 : (L ++ tex all h j (ed ++ [d])).length + 2 ^ j ≤ 2 ^ r := by rw [List.length_append]; omega
      have f4 : H.length ≤ o' := by have := (hp.trans pH3).length_le; omega
      simp (maxSteps := 1000000) (disch := omega) only [h0, h1, h2, h7, h8, q1, q2, wrap64, S, S1, S2, S3, S4, S5, ST, eq_self, reduceIte, reduceCtorEq, Nat.reduceEqDiff, Nat.reduceAdd]
      refine ⟨j, by omega, i + 1, o', us', L ++ tex all h j (ed ++ [d]), by omega, ?_⟩
      rw [hmr2]
      (repeat' first | exact f1 | exact f2 | exact f3 | exact f4 | exact q3 | apply And.intro) <;> first | (simp only [Value.int.injEq, true_and]; omega) | omega | rfl | assumption | (simp; done) | (simp; omega)
end Go.Proofs.YtdgapefbbdfpbaaGreat.Ai
namespace Go.Proofs.YtdgapefbbdfpbaaGreat.Ai
open Go
def ords132 : List (Nat × List (Nat × Bool)) := []
def cd132 : Cd := (.seq (.reg [⟨⟨some 4, Op.assign (Operand.const (Value.slice none 0 0)), none⟩, []⟩]) (.seq (.reg [⟨⟨some 7, Op.buildSlice 34 0 #[], none⟩, []⟩,
  ⟨⟨some 5, Op.assign (Operand.tmp 7), none⟩, []⟩]) (.seq (.seq (.reg [⟨⟨some 6, Op.assign (Operand.const (Value.int IntKind.i64 0)), none⟩, []⟩]) (.block 0 (.loop (.seq (.seq (.reg [⟨⟨some 8, Op.move (Operand.tmp 6), none⟩, []⟩,
  ⟨⟨some 9, Op.move (Operand.tmp 0), none⟩, []⟩,
  ⟨⟨some 10, Op.call { callee := (Callee.builtin Builtin.len), args := #[(Operand.tmp 9)], argTypes := #[34] }, none⟩, []⟩,
  ⟨⟨some 11, Op.binOp BinOp.lss 3 (Operand.tmp 8) (Operand.tmp 10) 3, none⟩, []⟩]) (.cond (Operand.tmp 11) .skip (.exit 0))) (.seq (.block 1 (.seq (.reg [⟨⟨some 14, Op.move (Operand.tmp 1), none⟩, []⟩,
  ⟨⟨some 15, Op.move (Operand.tmp 0), none⟩, []⟩,
  ⟨⟨some 16, Op.move (Operand.tmp 6), none⟩, []⟩,
  ⟨⟨some 17, Op.indexAddr 34 (Operand.tmp 15) (Operand.tmp 16), none⟩, []⟩,
  ⟨⟨some 18, Op.load 3 (Operand.tmp 17), none⟩, []⟩,
  ⟨⟨some 19, Op.call { callee := (Callee.value (Operand.func 79)), args := #[(Operand.tmp 14), (Operand.tmp 18)], argTypes := #[34, 3] }, none⟩, []⟩,
  ⟨⟨some 20, Op.unOp UnOp.not 4 (Operand.tmp 19), none⟩, []⟩]) (.cond (Operand.tmp 20) (.reg [⟨⟨some 21, Op.move (Operand.tmp 5), none⟩, []⟩,
  ⟨⟨some 22, Op.move (Operand.tmp 0), none⟩, []⟩,
  ⟨⟨some 23, Op.move (Operand.tmp 6), none⟩, []⟩,
  ⟨⟨some 24, Op.indexAddr 34 (Operand.tmp 22) (Operand.tmp 23), none⟩, []⟩,
  ⟨⟨some 25, Op.load 3 (Operand.tmp 24), none⟩, []⟩,
  ⟨⟨some 26, Op.buildSlice 34 1 #[(0, (Operand.tmp 25))], none⟩, []⟩,
  ⟨⟨some 27, Op.call { callee := (Callee.builtin Builtin.append), args := #[(Operand.tmp 21), (Operand.tmp 26)], argTypes := #[34, 34] }, none⟩, []⟩,
  ⟨⟨some 5, Op.assign (Operand.tmp 27), none⟩, []⟩]) .skip))) (.reg [⟨⟨some 12, Op.move (Operand.tmp 6), none⟩, []⟩,
  ⟨⟨some 13, Op.binOp BinOp.add 3 (Operand.tmp 12) (Operand.const (Value.int IntKind.i64 1)) 3, none⟩, []⟩,
  ⟨⟨some 6, Op.assign (Operand.tmp 13), none⟩, []⟩])))))) (.seq (.reg [⟨⟨some 28, Op.move (Operand.tmp 5), none⟩, []⟩,
  ⟨⟨some 4, Op.assign (Operand.tmp 28), none⟩, []⟩]) .ret))))
theorem sl132 : slim Tryz.f132.ntmps ords132 (Tryz.f132.body.getD .skip) = some cd132 := by kernel_rfl
theorem in132 {args : List Value} {H : AH} {R : Value → AH → Prop} (hl : args.length = 2) (h : ∀ (Q : Exit → Sl → AH → Prop), (∀ e s H, endA Tryz.prog [ResultVar.tmp 4] R e s H → Q e s H) → wpC Tryz.prog cd132 Q (enterA args) H) : ACalls Tryz.prog 132 args H R :=
  ACalls.intro (by kernel_rfl) Tryz.func132 rfl (by kernel_rfl) sl132 hl (of_decide_eq_true (by kernel_rfl)) (by kernel_rfl) h
end Go.Proofs.YtdgapefbbdfpbaaGreat.Ai
namespace Go.Proofs.YtdgapefbbdfpbaaGreat.Ai
open Go Go.RowKit
set_option linter.unusedVariables false
set_option linter.unusedSimpArgs false
set_option maxHeartbeats 1000000 in
theorem l4Lone_c (v w : Value) (xs ys : List Int) (H : AH) (hr : Row 3 H v xs) (hr2 : Row 3 H w ys) (hl : xs.length ≤ 1000000) (hl2 : ys.length ≤ 1099511627776) :
    ACalls Tryz.prog 132 [v, w] H fun r H' => Own 3 H H' r (without xs ys) ∧ H <+: H' := by
  refine in132 rfl ?_
  intro Q hQ
  simp (maxSteps := 1000000) (disch := omega) only [cd132, S, S1, S2, S3, S4, S5, ST, eq_self, reduceIte, reduceCtorEq, Nat.reduceEqDiff, Nat.reduceAdd]
  refine LoopH.by (fun m s H' => ∃ i, m + i = xs.length ∧ s 0 = v ∧ s 1 = w ∧ s 6 = .int .i64 ((i : Nat) : Int) ∧ Own 3 H H' (s 5) (without (xs.take i) ys) ∧ H <+: H') xs.length ?_ ?_
  · exact ⟨0, by simp, rfl, rfl, rfl, .inr ⟨H.length, rfl, Nat.le_refl _, at_new ..⟩, List.prefix_append _ _⟩
  · rintro m s H' ⟨i, hm, h0, h1, h6, ho, hp⟩
    have hr' := hr.pre hp
    have hr2' := hr2.pre hp
    have hle := without_len (xs.take i) ys
    have htl : (xs.take i).length ≤ i := by simp; omega
    generalize hu : s 5 = u at *
    simp (maxSteps := 1000000) (disch := omega) only [h0, h1, h6, hu, hr'.len Tryz.underlying34, S, S1, S2, S3, S4, S5, ST, eq_self, reduceIte, reduceCtorEq, Nat.reduceEqDiff, Nat.reduceAdd]
    refine brD.intro (fun g => ?_) (fun g => ?_)
    · have hi : i < xs.length := by omega
      have hst := without_step xs ys i hi
      simp (maxSteps := 1000000) (disch := omega) only [h0, h1, h6, hu, hr'.ix Tryz.underlying34 cs3, hr'.cell, Int.toNat_natCast, S, S1, S2, S3, S4, S5, ST, eq_self, reduceIte, reduceCtorEq, Nat.reduceEqDiff, Nat.reduceAdd]
      refine CallH.by (l1Has_c w ys (xs.getD i 0) H' hr2' hl2) ?_
      rintro _ _ ⟨rfl, rfl⟩
      simp (maxSteps := 1000000) (disch := omega) only [S, S1, S2, S3, S4, S5, ST, eq_self, reduceIte, reduceCtorEq, Nat.reduceEqDiff, Nat.reduceAdd]
      refine brD.intro (fun e => ?_) (fun e => ?_)
      · rw [if_pos e, List.append_nil] at hst
        rw [← hst] at ho
        simp (maxSteps := 1000000) (disch := omega) only [h0, h1, h6, hu, wrap64, S, S1, S2, S3, S4, S5, ST, eq_self, reduceIte, reduceCtorEq, Nat.reduceEqDiff, Nat.reduceAdd]
        refine ⟨m - 1, by omega, i + 1, ?_⟩
        (repeat' first | exact ho | exact hp | apply And.intro) <;> first | (simp only [Value.int.injEq, true_and]; omega) | omega | rfl | assumption | (simp; done) | (simp; omega)
      · rw [if_neg e] at hst
        obtain ⟨u', H2, k1, k2, k3, k4, k5, k6⟩ := own1_34 ho hp (by omega) (xs.getD i 0)
        rw [← hst] at k2
        simp (maxSteps := 1000000) (disch := omega) only [h0, h1, h6, hu, hr'.ix Tryz.underlying34 cs3, hr'.cell, Int.toNat_natCast, k1, wrap64, S, S1, S2, S3, S4, S5, ST, eq_self, reduceIte, reduceCtorEq, Nat.reduceEqDiff, Nat.reduceAdd]
        refine ⟨m - 1, by omega, i + 1, ?_⟩
        (repeat' first | exact k2 | exact k3 | apply And.intro) <;> first | (simp only [Value.int.injEq, true_and]; omega) | omega | rfl | assumption | (simp; done) | (simp; omega)
    · simp (maxSteps := 1000000) (disch := omega) only [hu, S, S1, S2, S3, S4, S5, ST, eq_self, reduceIte, reduceCtorEq, Nat.reduceEqDiff, Nat.reduceAdd]
      refine hQ _ _ _ ?_
      simp (maxSteps := 1000000) (disch := omega) only [hu, ho.row.tup, S, S1, S2, S3, S4, S5, ST, eq_self, reduceIte, reduceCtorEq, Nat.reduceEqDiff, Nat.reduceAdd]
      rw [List.take_of_length_le (by omega)] at ho
      exact ⟨ho, hp⟩
end Go.Proofs.YtdgapefbbdfpbaaGreat.Ai
