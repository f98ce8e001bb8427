/- Texts of this claim, joined: Poly, Count, PlgP, LTri, Bound, Pair, Turn, Plg, ArB. -/
import Derived.Test.YtdgapefbbdfpbaaGreatProg
import Derived.KernelRfl
import Derived.Test.YtdgapefbbdfpbaaGreatMgLawPlg5
namespace Go.Proofs.YtdgapefbbdfpbaaGreat.Ai
open Go
def ords61 : List (Nat × List (Nat × Bool)) := []
def cd61 : Cd := (.seq (.reg [⟨⟨some 4, Op.assign (Operand.const (Value.bool false)), none⟩, []⟩]) (.seq (.reg [⟨⟨some 5, Op.move (Operand.tmp 0), none⟩, []⟩,
  ⟨⟨some 6, Op.move (Operand.tmp 1), none⟩, []⟩,
  ⟨⟨some 7, Op.call { callee := (Callee.value (Operand.func 72)), args := #[(Operand.tmp 5), (Operand.tmp 6)], argTypes := #[34, 34] }, none⟩, []⟩,
  ⟨⟨some 8, Op.call { callee := (Callee.builtin Builtin.len), args := #[(Operand.tmp 7)], argTypes := #[34] }, none⟩, []⟩,
  ⟨⟨some 9, Op.binOp BinOp.eql 3 (Operand.tmp 8) (Operand.const (Value.int IntKind.i64 1)) 3, none⟩, []⟩,
  ⟨⟨some 4, Op.assign (Operand.tmp 9), none⟩, []⟩]) .ret))
theorem sl61 : slim Tryz.f61.ntmps ords61 (Tryz.f61.body.getD .skip) = some cd61 := by kernel_rfl
theorem in61 {args : List Value} {H : AH} {R : Value → AH → Prop} (hl : args.length = 2) (h : ∀ (Q : Exit → Sl → AH → Prop), (∀ e s H, endA Tryz.prog [ResultVar.tmp 4] R e s H → Q e s H) → wpC Tryz.prog cd61 Q (enterA args) H) : ACalls Tryz.prog 61 args H R :=
  ACalls.intro (by kernel_rfl) Tryz.func61 rfl (by kernel_rfl) sl61 hl (of_decide_eq_true (by kernel_rfl)) (by kernel_rfl) h
def ords8 : List (Nat × List (Nat × Bool)) := []
def cd8 : Cd := (.seq (.reg [⟨⟨some 2, Op.alloc 28, none⟩, []⟩,
  ⟨⟨some 3, Op.assign (Operand.const (Value.bool false)), none⟩, []⟩]) (.seq (.seq (.reg [⟨⟨some 4, Op.move (Operand.tmp 0), none⟩, []⟩,
  ⟨⟨some 5, Op.call { callee := (Callee.value (Operand.func 58)), args := #[(Operand.tmp 4)], argTypes := #[3] }, none⟩, []⟩,
  ⟨⟨some 6, Op.unOp UnOp.not 4 (Operand.tmp 5), none⟩, []⟩]) (.cond (Operand.tmp 6) (.seq (.reg [⟨⟨some 7, Op.build 28 #[], none⟩, []⟩,
  ⟨⟨none, Op.store 28 (Operand.tmp 2) (Operand.tmp 7), none⟩, []⟩,
  ⟨⟨some 3, Op.assign (Operand.const (Value.bool false)), none⟩, []⟩]) .ret) .skip)) (.seq (.reg [⟨⟨some 8, Op.move (Operand.tmp 0), none⟩, []⟩,
  ⟨⟨some 9, Op.call { callee := (Callee.value (Operand.func 60)), args := #[(Operand.tmp 8)], argTypes := #[3] }, none⟩, []⟩,
  ⟨⟨some 10, Op.call { callee := (Callee.value (Operand.func 59)), args := #[(Operand.tmp 9), (Operand.func 61)], argTypes := #[25, 39] }, none⟩, []⟩,
  ⟨⟨none, Op.store 28 (Operand.tmp 2) (Operand.tmp 10), none⟩, []⟩,
  ⟨⟨some 3, Op.assign (Operand.const (Value.bool true)), none⟩, []⟩]) .ret)))
theorem sl8 : slim Tryz.f8.ntmps ords8 (Tryz.f8.body.getD .skip) = some cd8 := by kernel_rfl
set_option maxRecDepth 20000 in
theorem in8 {args : List Value} {H : AH} {R : Value → AH → Prop} (hl : args.length = 1) (h : ∀ (Q : Exit → Sl → AH → Prop), (∀ e s H, endA Tryz.prog [ResultVar.cell 2 28, ResultVar.tmp 3] R e s H → Q e s H) → wpC Tryz.prog cd8 Q (enterA args) H) : ACalls Tryz.prog 8 args H R :=
  ACalls.intro (by kernel_rfl) Tryz.func8 rfl (by kernel_rfl) sl8 hl (of_decide_eq_true (by kernel_rfl)) (by kernel_rfl) h
def ords63 : List (Nat × List (Nat × Bool)) := [(8, [(0, false), (1, false), (2, false), (3, false), (4, false), (5, false), (6, false), (7, false), (8, false), (9, false), (10, true), (11, false), (12, false)])]
def cd63 : Cd := (.seq (.reg [⟨⟨some 2, Op.alloc 28, none⟩, []⟩]) (.seq (.reg [⟨⟨some 6, Op.move (Operand.tmp 0), none⟩, []⟩,
  ⟨⟨some 7, Op.move (Operand.tmp 0), none⟩, []⟩,
  ⟨⟨some 8, Op.call { callee := (Callee.value (Operand.func 81)), args := #[(Operand.tmp 7)], argTypes := #[3] }, none⟩, []⟩,
  ⟨⟨some 9, Op.buildSlice 34 0 #[], none⟩, []⟩,
  ⟨⟨some 10, Op.call { callee := (Callee.value (Operand.func 131)), args := #[(Operand.tmp 6), (Operand.tmp 8), (Operand.tmp 9)], argTypes := #[3, 34, 34] }, none⟩, []⟩,
  ⟨⟨some 11, Op.buildSlice 26 0 #[], none⟩, []⟩,
  ⟨⟨some 12, Op.build 28 #[(0, (Operand.tmp 10)), (1, (Operand.tmp 11))], none⟩, []⟩,
  ⟨⟨some 3, Op.alloc 28, none⟩, []⟩,
  ⟨⟨none, Op.store 28 (Operand.tmp 3) (Operand.tmp 12), none⟩, []⟩]) (.seq (.seq (.reg [⟨⟨some 4, Op.assign (Operand.const (Value.int IntKind.i64 0)), none⟩, []⟩]) (.block 0 (.loop (.seq (.seq (.reg [⟨⟨some 13, Op.move (Operand.tmp 4), none⟩, []⟩,
  ⟨⟨some 14, Op.fieldAddr 28 (Operand.tmp 3) 0, none⟩, []⟩,
  ⟨⟨some 15, Op.load 25 (Operand.tmp 14), none⟩, []⟩,
  ⟨⟨some 16, Op.call { callee := (Callee.builtin Builtin.len), args := #[(Operand.tmp 15)], argTypes := #[25] }, none⟩, []⟩,
  ⟨⟨some 17, Op.binOp BinOp.lss 3 (Operand.tmp 13) (Operand.tmp 16) 3, none⟩, []⟩]) (.cond (Operand.tmp 17) .skip (.exit 0))) (.seq (.block 1 (.seq (.reg [⟨⟨some 20, Op.move (Operand.tmp 4), none⟩, []⟩,
  ⟨⟨some 21, Op.binOp BinOp.add 3 (Operand.tmp 20) (Operand.const (Value.int IntKind.i64 1)) 3, none⟩, []⟩,
  ⟨⟨some 5, Op.assign (Operand.tmp 21), none⟩, []⟩]) (.block 2 (.loop (.seq (.seq (.reg [⟨⟨some 22, Op.move (Operand.tmp 5), none⟩, []⟩,
  ⟨⟨some 23, Op.fieldAddr 28 (Operand.tmp 3) 0, none⟩, []⟩,
  ⟨⟨some 24, Op.load 25 (Operand.tmp 23), none⟩, []⟩,
  ⟨⟨some 25, Op.call { callee := (Callee.builtin Builtin.len), args := #[(Operand.tmp 24)], argTypes := #[25] }, none⟩, []⟩,
  ⟨⟨some 26, Op.binOp BinOp.lss 3 (Operand.tmp 22) (Operand.tmp 25) 3, none⟩, []⟩]) (.cond (Operand.tmp 26) .skip (.exit 2))) (.seq (.block 3 (.seq (.reg [⟨⟨some 29, Op.fieldAddr 28 (Operand.tmp 3) 0, none⟩, []⟩,
  ⟨⟨some 30, Op.load 25 (Operand.tmp 29), none⟩, []⟩,
  ⟨⟨some 31, Op.move (Operand.tmp 4), none⟩, []⟩,
  ⟨⟨some 32, Op.indexAddr 25 (Operand.tmp 30) (Operand.tmp 31), none⟩, []⟩,
  ⟨⟨some 33, Op.load 34 (Operand.tmp 32), none⟩, []⟩,
  ⟨⟨some 34, Op.fieldAddr 28 (Operand.tmp 3) 0, none⟩, []⟩,
  ⟨⟨some 35, Op.load 25 (Operand.tmp 34), none⟩, []⟩,
  ⟨⟨some 36, Op.move (Operand.tmp 5), none⟩, []⟩,
  ⟨⟨some 37, Op.indexAddr 25 (Operand.tmp 35) (Operand.tmp 36), none⟩, []⟩,
  ⟨⟨some 38, Op.load 34 (Operand.tmp 37), none⟩, []⟩,
  ⟨⟨some 39, Op.call { callee := (Callee.value (Operand.func 132)), args := #[(Operand.tmp 33), (Operand.tmp 38)], argTypes := #[34, 34] }, none⟩, []⟩,
  ⟨⟨some 40, Op.call { callee := (Callee.builtin Builtin.len), args := #[(Operand.tmp 39)], argTypes := #[34] }, none⟩, []⟩,
  ⟨⟨some 41, Op.binOp BinOp.eql 3 (Operand.tmp 40) (Operand.const (Value.int IntKind.i64 1)) 3, none⟩, []⟩]) (.cond (Operand.tmp 41) (.reg [⟨⟨some 42, Op.fieldAddr 28 (Operand.tmp 3) 1, none⟩, []⟩,
  ⟨⟨some 43, Op.load 26 (Operand.tmp 42), none⟩, []⟩,
  ⟨⟨some 44, Op.move (Operand.tmp 4), none⟩, []⟩,
  ⟨⟨some 45, Op.move (Operand.tmp 5), none⟩, []⟩,
  ⟨⟨some 46, Op.build 96 #[(0, (Operand.tmp 44)), (1, (Operand.tmp 45))], none⟩, []⟩,
  ⟨⟨some 47, Op.buildSlice 26 1 #[(0, (Operand.tmp 46))], none⟩, []⟩,
  ⟨⟨some 48, Op.call { callee := (Callee.builtin Builtin.append), args := #[(Operand.tmp 43), (Operand.tmp 47)], argTypes := #[26, 26] }, none⟩, []⟩,
  ⟨⟨some 49, Op.fieldAddr 28 (Operand.tmp 3) 1, none⟩, []⟩,
  ⟨⟨none, Op.store 26 (Operand.tmp 49) (Operand.tmp 48), none⟩, []⟩]) .skip))) (.reg [⟨⟨some 27, Op.move (Operand.tmp 5), none⟩, []⟩,
  ⟨⟨some 28, Op.binOp BinOp.add 3 (Operand.tmp 27) (Operand.const (Value.int IntKind.i64 1)) 3, none⟩, []⟩,
  ⟨⟨some 5, Op.assign (Operand.tmp 28), none⟩, []⟩]))))))) (.reg [⟨⟨some 18, Op.move (Operand.tmp 4), none⟩, []⟩,
  ⟨⟨some 19, Op.binOp BinOp.add 3 (Operand.tmp 18) (Operand.const (Value.int IntKind.i64 1)) 3, none⟩, []⟩,
  ⟨⟨some 4, Op.assign (Operand.tmp 19), none⟩, []⟩])))))) (.seq (.reg [⟨⟨some 50, Op.load 28 (Operand.tmp 3), none⟩, []⟩,
  ⟨⟨none, Op.store 28 (Operand.tmp 2) (Operand.tmp 50), none⟩, []⟩]) .ret))))
theorem sl63 : slim Tryz.f63.ntmps ords63 (Tryz.f63.body.getD .skip) = some cd63 := by kernel_rfl
set_option maxRecDepth 20000 in
theorem in63 {args : List Value} {H : AH} {R : Value → AH → Prop} (hl : args.length = 1) (h : ∀ (Q : Exit → Sl → AH → Prop), (∀ e s H, endA Tryz.prog [ResultVar.cell 2 28] R e s H → Q e s H) → wpC Tryz.prog cd63 Q (enterA args) H) : ACalls Tryz.prog 63 args H R :=
  ACalls.intro (by kernel_rfl) Tryz.func63 rfl (by kernel_rfl) sl63 hl (of_decide_eq_true (by kernel_rfl)) (by kernel_rfl) h
def ords9 : List (Nat × List (Nat × Bool)) := []
def cd9 : Cd := (.seq (.reg [⟨⟨some 2, Op.alloc 28, none⟩, []⟩,
  ⟨⟨some 3, Op.assign (Operand.const (Value.bool false)), none⟩, []⟩]) (.seq (.seq (.reg [⟨⟨some 4, Op.move (Operand.tmp 0), none⟩, []⟩,
  ⟨⟨some 5, Op.call { callee := (Callee.value (Operand.func 62)), args := #[(Operand.tmp 4)], argTypes := #[3] }, none⟩, []⟩,
  ⟨⟨some 6, Op.unOp UnOp.not 4 (Operand.tmp 5), none⟩, []⟩]) (.cond (Operand.tmp 6) (.seq (.reg [⟨⟨some 7, Op.build 28 #[], none⟩, []⟩,
  ⟨⟨none, Op.store 28 (Operand.tmp 2) (Operand.tmp 7), none⟩, []⟩,
  ⟨⟨some 3, Op.assign (Operand.const (Value.bool false)), none⟩, []⟩]) .ret) .skip)) (.seq (.reg [⟨⟨some 8, Op.move (Operand.tmp 0), none⟩, []⟩,
  ⟨⟨some 9, Op.call { callee := (Callee.value (Operand.func 63)), args := #[(Operand.tmp 8)], argTypes := #[3] }, none⟩, []⟩,
  ⟨⟨none, Op.store 28 (Operand.tmp 2) (Operand.tmp 9), none⟩, []⟩,
  ⟨⟨some 3, Op.assign (Operand.const (Value.bool true)), none⟩, []⟩]) .ret)))
theorem sl9 : slim Tryz.f9.ntmps ords9 (Tryz.f9.body.getD .skip) = some cd9 := by kernel_rfl
set_option maxRecDepth 20000 in
theorem in9 {args : List Value} {H : AH} {R : Value → AH → Prop} (hl : args.length = 1) (h : ∀ (Q : Exit → Sl → AH → Prop), (∀ e s H, endA Tryz.prog [ResultVar.cell 2 28, ResultVar.tmp 3] R e s H → Q e s H) → wpC Tryz.prog cd9 Q (enterA args) H) : ACalls Tryz.prog 9 args H R :=
  ACalls.intro (by kernel_rfl) Tryz.func9 rfl (by kernel_rfl) sl9 hl (of_decide_eq_true (by kernel_rfl)) (by kernel_rfl) h
end Go.Proofs.YtdgapefbbdfpbaaGreat.Ai
namespace Go.Proofs.YtdgapefbbdfpbaaGreat.Ai
open Go Go.RowKit
set_option linter.unusedVariables false
set_option linter.unusedSimpArgs false
/-- two lists differ by one number -/
def exP (x y : List Int) : Bool := decide ((without x y).length = 1)
theorem isExchange_c (v w : Value) (xs ys : List Int) (H : AH) (hr : Row 3 H v xs) (hr2 : Row 3 H w ys) (hl : xs.length ≤ 1099511627776) (hl2 : ys.length ≤ 1099511627776) :
    ACalls Tryz.prog 61 [v, w] H fun r H' => r = .bool (exP xs ys) ∧ H <+: H' := by
  refine in61 rfl ?_
  intro Q hQ
  simp (maxSteps := 1000000) (disch := omega) only [cd61, S, S1, S2, S3, S4, S5, ST, eq_self, reduceIte, reduceCtorEq, Nat.reduceEqDiff, Nat.reduceAdd]
  refine CallH.by (without_c v w xs ys H hr hl hr2 hl2) ?_
  rintro u A ⟨hu, pA⟩
  simp (maxSteps := 1000000) (disch := omega) only [hu.row.len Tryz.underlying34, S, S1, S2, S3, S4, S5, ST, eq_self, reduceIte, reduceCtorEq, Nat.reduceEqDiff, Nat.reduceAdd]
  refine hQ _ _ _ ?_
  simp (maxSteps := 1000000) (disch := omega) only [S, S1, S2, S3, S4, S5, ST, eq_self, reduceIte, reduceCtorEq, Nat.reduceEqDiff, Nat.reduceAdd]
  refine ⟨?_, pA⟩
  unfold exP
  rw [Value.bool.injEq, decide_eq_decide]
  constructor <;> intro h <;> omega
/-- what PolygonSpace tells -/
def polyL (n : Int) : List (List Int) := if 3 ≤ n ∧ n ≤ 8 then triA n else []
def polyP (n : Int) : List (Int × Int) := if 3 ≤ n ∧ n ≤ 8 then steps exP (triA n) else []
set_option maxRecDepth 20000 in
set_option maxHeartbeats 1000000 in
theorem PolyI_c (n : Int) (H : AH) :
    ACalls Tryz.prog 8 [.int .i64 n] H fun r H' => ∃ a b, r = .tuple (List.toArray [.agg (List.toArray [a, b]), .bool (decide (3 ≤ n ∧ n ≤ 8))]) ∧ SpIn H.length H'.length H' a b (polyL n) (polyP n) ∧ H <+: H' := by
  refine in8 rfl ?_
  intro Q hQ
  simp (maxSteps := 1000000) (disch := omega) only [cd8, alloc_sp, S, S1, S2, S3, S4, S5, ST, eq_self, reduceIte, reduceCtorEq, Nat.reduceEqDiff, Nat.reduceAdd]
  generalize hA : H ++ [AObj.cells [.slice none 0 0, .slice none 0 0] 28 false] = A
  have pA : H <+: A := by rw [← hA]; exact List.prefix_append _ _
  have cA : A[H.length]? = some (.cells [.slice none 0 0, .slice none 0 0] 28 false) := by rw [← hA]; exact at_new ..
  have lA : A.length = H.length + 1 := by rw [← hA]; simp
  refine CallH.by (isPolygon_c n A) ?_
  rintro _ _ ⟨rfl, rfl⟩
  simp (maxSteps := 1000000) (disch := omega) only [S, S1, S2, S3, S4, S5, ST, eq_self, reduceIte, reduceCtorEq, Nat.reduceEqDiff, Nat.reduceAdd]
  refine brD.intro (fun e => ?_) (fun e => ?_)
  · have hdg : dgI n 100 = dgs n n.toNat := by
      have := dgI_eq ⟨n.toNat, by omega⟩ (by show 3 ≤ n.toNat; omega)
      have e1 : ((n.toNat : Nat) : Int) = n := by omega
      simpa [e1] using this
    obtain ⟨hk1, hk2, hk3, hk4, hk5, hk6⟩ := triA_ok e
    have hpL : polyL n = triA n := by unfold polyL; rw [if_pos e]
    have hpP : polyP n = steps exP (triA n) := by unfold polyP; rw [if_pos e]
    simp (maxSteps := 1000000) (disch := omega) only [e, S, S1, S2, S3, S4, S5, ST, eq_self, reduceIte, reduceCtorEq, Nat.reduceEqDiff, Nat.reduceAdd]
    refine CallH.by (triangulations_c n A e hdg) ?_
    rintro a B ⟨hL, pB⟩
    obtain ⟨us, r1, r2, r3⟩ := hL.parts
    have hsts : Sts B a us (triA n) := ⟨r1, r2, fun i hi => (r3 i hi).row.1, fun i hi => by
      have : (triA n).getD i [] ∈ triA n := by simp [hi]
      have := hk3 _ this; omega, by omega, hk1⟩
    have hS : StepFn B 61 [] (triA n) exP := fun v w x y H2 hp2 hv hw hx hy => isExchange_c v w x y H2 hv hw (by have := hk3 _ hx; omega) (by have := hk3 _ hy; omega)
    simp (maxSteps := 1000000) (disch := omega) only [S, S1, S2, S3, S4, S5, ST, eq_self, reduceIte, reduceCtorEq, Nat.reduceEqDiff, Nat.reduceAdd]
    refine CallH.by (spaceOf_c hsts (by omega) 61 [] exP hS (List.prefix_refl _)) ?_
    rintro _ C ⟨st, rfl, hst, pC⟩
    have pBC := pB.trans pC
    have cC := pre_at pBC cA
    have hrowC : SpRow C a st (triA n) (steps exP (triA n)) := ⟨⟨_, (hL.row).pre pC⟩, hst.row⟩
    have hstore := hrowC.store cC rfl
    simp (maxSteps := 1000000) (disch := omega) only [hstore, S, S1, S2, S3, S4, S5, ST, eq_self, reduceIte, reduceCtorEq, Nat.reduceEqDiff, Nat.reduceAdd]
    have d4 := at_set (d := .cells [a, st] 28 false) cC
    have lB := pB.length_le
    have lC := pC.length_le
    refine hQ _ _ _ (end_cell2 _ _ _ _ _ _ _ (.agg (List.toArray [a, st])) (.bool true) ?_ rfl ?_ rfl ⟨a, st, by rw [decide_eq_true e], ⟨B.length, by omega, by simp; omega, ?_, ?_⟩, ?_⟩)
    · simp (maxSteps := 1000000) (disch := omega) only [ld_agg ag28 cs28 d4, S, S1, S2, S3, S4, S5, ST, eq_self, reduceIte, reduceCtorEq, Nat.reduceEqDiff, Nat.reduceAdd]
    · simp (maxSteps := 1000000) (disch := omega) only [S, S1, S2, S3, S4, S5, ST, eq_self, reduceIte, reduceCtorEq, Nat.reduceEqDiff, Nat.reduceAdd]
    · rw [hpL]
      rcases hL.pre pC with q | ⟨o, us', q1, q2⟩
      · exact .inl q
      · refine .inr ⟨o, us', q1, (q2.move fun j y hj1 hj2 hy => ?_).wide (by omega) (Nat.le_refl _)⟩
        rw [List.getElem?_set_ne (by omega)]; exact hy
    · rw [hpP]
      have hI := InP.of hst
      rcases hI with q | ⟨o, zs, q1, q2, q3, q4, q5⟩
      · exact .inl q
      · exact .inr ⟨o, zs, q1, q2, by simpa using q3, by rw [List.getElem?_set_ne (by omega)]; exact q4, q5⟩
    · exact pre_set (pA.trans pBC) (Nat.le_refl _) _
  · have hpL : polyL n = [] := by unfold polyL; rw [if_neg e]
    have hpP : polyP n = [] := by unfold polyP; rw [if_neg e]
    have hstore := st_ss cA rfl none none 0 0 0 0
    simp (maxSteps := 1000000) (disch := omega) only [e, bld_sp0, hstore, S, S1, S2, S3, S4, S5, ST, eq_self, reduceIte, reduceCtorEq, Nat.reduceEqDiff, Nat.reduceAdd]
    have d4 := at_set (d := .cells [.slice none 0 0, .slice none 0 0] 28 false) cA
    refine hQ _ _ _ (end_cell2 _ _ _ _ _ _ _ (.agg (List.toArray [.slice none 0 0, .slice none 0 0])) (.bool false) ?_ rfl ?_ rfl ⟨_, _, by rw [decide_eq_false e], ⟨H.length, Nat.le_refl _, by simp; omega, ?_, ?_⟩, ?_⟩)
    · simp (maxSteps := 1000000) (disch := omega) only [ld_agg ag28 cs28 d4, S, S1, S2, S3, S4, S5, ST, eq_self, reduceIte, reduceCtorEq, Nat.reduceEqDiff, Nat.reduceAdd]
    · simp (maxSteps := 1000000) (disch := omega) only [S, S1, S2, S3, S4, S5, ST, eq_self, reduceIte, reduceCtorEq, Nat.reduceEqDiff, Nat.reduceAdd]
    · rw [hpL]; exact .inl ⟨rfl, rfl⟩
    · rw [hpP]; exact .inl ⟨rfl, rfl⟩
    · exact pre_set pA (Nat.le_refl _) _
set_option maxRecDepth 20000 in
set_option maxHeartbeats 4000000 in
theorem l8Polygon_c (n : Int) (H : AH) (hn : 3 ≤ n ∧ n ≤ 8) :
    ACalls Tryz.prog 63 [.int .i64 n] H fun r H' => ∃ a b, r = .agg (List.toArray [a, b]) ∧ SpIn H.length H'.length H' a b (triA n) (steps exP (triA n)) ∧ H <+: H' := by
  obtain ⟨hk1, hk2, hk3, hk4, hk5, hk6⟩ := triA_ok hn
  refine in63 rfl ?_
  intro Q hQ
  simp (maxSteps := 1000000) (disch := omega) only [cd63, alloc_sp, S, S1, S2, S3, S4, S5, ST, eq_self, reduceIte, reduceCtorEq, Nat.reduceEqDiff, Nat.reduceAdd]
  generalize hA : H ++ [AObj.cells [.slice none 0 0, .slice none 0 0] 28 false] = A
  have pA : H <+: A := by rw [← hA]; exact List.prefix_append _ _
  have cA : A[H.length]? = some (.cells [.slice none 0 0, .slice none 0 0] 28 false) := by rw [← hA]; exact at_new ..
  have lA : A.length = H.length + 1 := by rw [← hA]; simp
  refine CallH.by (l8Diagonals_c n A (by omega)) ?_
  rintro va B ⟨hva, pB⟩
  generalize hall : dgs n n.toNat = all at *
  simp (maxSteps := 1000000) (disch := omega) only [S, S1, S2, S3, S4, S5, ST, eq_self, reduceIte, reduceCtorEq, Nat.reduceEqDiff, Nat.reduceAdd]
  generalize hC : B ++ [AObj.cells [] 3 false] = C
  have pC : B <+: C := by rw [← hC]; exact List.prefix_append _ _
  have cC : C[B.length]? = some (.cells (ints []) 3 false) := by rw [← hC]; exact at_new ..
  have lC : C.length = B.length + 1 := by rw [← hC]; simp
  have lB := pB.length_le
  refine CallH.by (l8Fill_c n (n - 3).toNat (by omega) (by omega) va all hk4 hk5 hk6 all.length [] (.slice (some ⟨B.length, 0, none⟩) 0 0) B.length C (hva.row.pre pC) (.inr ⟨B.length, [], rfl, Nat.le_refl _, by omega, cC, rfl⟩) (by omega) (Nat.le_refl _) (by simp) (fun y hy => absurd hy (by simp)) (fun _ => rfl) (fun h => absurd h (by simp))) ?_
  rintro a D ⟨hL0, pD⟩
  have htri : triA n = tex all (n - 3).toNat all.length [] := by unfold triA; rw [hall]
  rw [← htri] at hL0
  have hL : InL A.length D.length 34 3 D a (triA n) := hL0.wide lB (Nat.le_refl _)
  obtain ⟨us, r1, r2, r3⟩ := hL.parts
  have ha : isTup a = false := r1.tup
  generalize hls : triA n = ls at *
  obtain ⟨pa, hpa⟩ := r1.shape
  have lD := pD.length_le
  have hb2 := bld_sp2 pa (some ⟨D.length, 0, none⟩) us.length us.length 0 0
  rw [← hpa] at hb2
  simp (maxSteps := 1000000) (disch := omega) only [hb2, alloc_sp, S, S1, S2, S3, S4, S5, ST, eq_self, reduceIte, reduceCtorEq, Nat.reduceEqDiff, Nat.reduceAdd]
  generalize hE : D ++ [AObj.cells [] 96 false] = E
  have pE : D <+: E := by rw [← hE]; exact List.prefix_append _ _
  have lE : E.length = D.length + 1 := by rw [← hE]; simp
  have m0 : MineP 96 D E (.slice (some ⟨D.length, 0, none⟩) 0 0) [] := by rw [← hE]; exact MineP.nil0 (P := Tryz.prog) D D (Nat.le_refl _)
  have st1 := st_ss (at_new E (.cells [.slice none 0 0, .slice none 0 0] 28 false)) rfl pa (some ⟨D.length, 0, none⟩) us.length us.length 0 0
  rw [set_new, ← hpa] at st1
  simp (maxSteps := 1000000) (disch := omega) only [st1, S, S1, S2, S3, S4, S5, ST, eq_self, reduceIte, reduceCtorEq, Nat.reduceEqDiff, Nat.reduceAdd]
  generalize hG : E ++ [AObj.cells [a, .slice (some ⟨D.length, 0, none⟩) 0 0] 28 false] = G
  have pG : E <+: G := by rw [← hG]; exact List.prefix_append _ _
  have cG : G[E.length]? = some (.cells [a, .slice (some ⟨D.length, 0, none⟩) 0 0] 28 false) := by rw [← hG]; exact at_new ..
  have lG : G.length = E.length + 1 := by rw [← hG]; simp
  have pDG := pE.trans pG
  have pAD := (pB.trans (pC.trans pD))
  have rowA : ∀ {H'}, D <+: H' → RowV 34 H' a us := fun hp => r1.pre hp
  have rowI : ∀ {H'} (i : Nat), i < ls.length → D <+: H' → Row 3 H' (us.getD i undef) (ls.getD i []) := fun i hi hp => (r3 i hi).row.1.pre hp
  have sm : ∀ i, i < ls.length → (ls.getD i []).length ≤ 5 := fun i hi => hk3 _ (by simp [hi])
  refine LoopH.by (fun m s H' => ∃ i st, m + i = ls.length ∧ s 2 = .pointer (some ⟨H.length, 0, none⟩) ∧ s 3 = .pointer (some ⟨E.length, 0, none⟩) ∧ s 4 = .int .i64 ((i : Nat) : Int) ∧ H'[E.length]? = some (.cells [a, st] 28 false) ∧ (rowO st = D.length ∨ G.length ≤ rowO st) ∧ st ≠ .slice none 0 0 ∧ MineP 96 D H' st (stpO exP ls i) ∧ D <+: H') ls.length ?_ ?_
  · exact ⟨0, .slice (some ⟨D.length, 0, none⟩) 0 0, by simp, rfl, rfl, rfl, cG, .inl rfl, (by intro e; cases e), m0.pre pG, pDG⟩
  rintro m s H' ⟨i, st, hm, s2, s3, s4, hc5, hst, hsn, hmn, hpp⟩
  simp (maxSteps := 1000000) (disch := omega) only [s2, s3, s4, cell_of hc5, (rowA hpp).len Tryz.underlying25, r2, S, S1, S2, S3, S4, S5, ST, eq_self, reduceIte, reduceCtorEq, Nat.reduceEqDiff, Nat.reduceAdd]
  refine brD.intro (fun g => ?_) (fun g => ?_)
  rotate_left
  · have hi : i = ls.length := by omega
    subst hi
    have hrow : SpRow H' a st ls (stpO exP ls ls.length) := ⟨⟨_, hL.row.pre hpp⟩, hmn.row⟩
    have cAH := pre_at (pAD.trans hpp) cA
    have hstore := hrow.store cAH rfl
    simp (maxSteps := 1000000) (disch := omega) only [s2, s3, ld_agg ag28 cs28 hc5, hstore, S, S1, S2, S3, S4, S5, ST, eq_self, reduceIte, reduceCtorEq, Nat.reduceEqDiff, Nat.reduceAdd]
    have d4 := at_set (d := .cells [a, st] 28 false) cAH
    have lH' := hpp.length_le
    refine hQ _ _ _ (end_cell _ _ _ _ _ _ (.agg (List.toArray [a, st])) ?_ rfl ⟨a, st, rfl, ⟨D.length, by omega, by simp; omega, ?_, ?_⟩, ?_⟩)
    · simp (maxSteps := 1000000) (disch := omega) only [s2, ld_agg ag28 cs28 d4, S, S1, S2, S3, S4, S5, ST, eq_self, reduceIte, reduceCtorEq, Nat.reduceEqDiff, Nat.reduceAdd]
    · rcases hL.pre hpp with q | ⟨o, us', q1, q2⟩
      · exact .inl q
      · refine .inr ⟨o, us', q1, (q2.move fun j y hj1 hj2 hy => ?_).wide (by omega) (Nat.le_refl _)⟩
        rw [List.getElem?_set_ne (by omega)]; exact hy
    · rcases InP.of hmn with q | ⟨o, zs, q1, q2, q3, q4, q5⟩
      · exact .inl q
      · exact .inr ⟨o, zs, q1, q2, by simpa using q3, by rw [List.getElem?_set_ne (by omega)]; exact q4, q5⟩
    · exact pre_set (pA.trans (pAD.trans hpp)) (Nat.le_refl _) _
  have hi : i < ls.length := by omega
  simp (maxSteps := 1000000) (disch := omega) only [s2, s3, s4, wrap64, S, S1, S2, S3, S4, S5, ST, eq_self, reduceIte, reduceCtorEq, Nat.reduceEqDiff, Nat.reduceAdd]
  refine LoopH.by (fun m' s' H'' => ∃ j st', m' + j = ls.length - (i + 1) ∧ s' 2 = .pointer (some ⟨H.length, 0, none⟩) ∧ s' 3 = .pointer (some ⟨E.length, 0, none⟩) ∧ s' 4 = .int .i64 ((i : Nat) : Int) ∧ s' 5 = .int .i64 ((i + 1 + j : Nat) : Int) ∧ H''[E.length]? = some (.cells [a, st'] 28 false) ∧ (rowO st' = D.length ∨ G.length ≤ rowO st') ∧ st' ≠ .slice none 0 0 ∧ MineP 96 D H'' st' (stpO exP ls i ++ stpI exP ls i j) ∧ D <+: H'') (ls.length - (i + 1)) ?_ ?_
  · refine ⟨0, st, by simp, ?_⟩
    simp only [S, S1, S2, S3, S4, S5, ST, eq_self, reduceIte, reduceCtorEq, Nat.reduceEqDiff, Nat.reduceAdd, s2, s3, s4]
    have f0 : MineP 96 D H' st (stpO exP ls i ++ stpI exP ls i 0) := by rw [stpI, List.append_nil]; exact hmn
    (repeat' first | exact hc5 | exact hst | exact hsn | exact f0 | exact hpp | apply And.intro) <;> first | (simp only [Value.int.injEq, true_and]; omega) | omega | rfl | assumption | (simp; done) | (simp; omega)
  · rintro m' s' H'' ⟨j, st', hm', g2, g3, g4, g5, hc5', hst', hsn', hmn', hpp'⟩
    simp (maxSteps := 1000000) (disch := omega) only [g2, g3, g4, g5, cell_of hc5', (rowA hpp').len Tryz.underlying25, r2, S, S1, S2, S3, S4, S5, ST, eq_self, reduceIte, reduceCtorEq, Nat.reduceEqDiff, Nat.reduceAdd]
    refine brD.intro (fun q => ?_) (fun q => ?_)
    · have hj : i + 1 + j < ls.length := by omega
      have hci := (rowA hpp').cell (show i < us.length by omega)
      have hcj := (rowA hpp').cell (show i + 1 + j < us.length by omega)
      simp (maxSteps := 1000000) (disch := omega) only [g2, g3, g4, g5, cell_of hc5', (rowA hpp').ix Tryz.underlying25 cs34, Int.toNat_natCast, hci, hcj, S, S1, S2, S3, S4, S5, ST, eq_self, reduceIte, reduceCtorEq, Nat.reduceEqDiff, Nat.reduceAdd]
      refine CallH.by (l4Lone_c _ _ _ _ H'' (rowI i hi hpp') (rowI (i + 1 + j) hj hpp') (by have := sm i hi; omega) (by have := sm (i + 1 + j) hj; omega)) ?_
      rintro u K ⟨hu, pK⟩
      have hcK := pre_at pK hc5'
      have hpK := hpp'.trans pK
      have hmK := hmn'.pre pK
      have hsl1 := stpO_len exP ls i
      have hsl2 := stpI_len exP ls i j
      have hmul : i * ls.length ≤ 132 * 132 := Nat.mul_le_mul (by omega) (by omega)
      have lK := hpK.length_le
      have l5 := at_lt hc5'
      have hne : ∀ o, o = E.length → o ≠ rowO st' := fun o ho => by omega
      simp (maxSteps := 1000000) (disch := omega) only [g2, g3, g4, g5, hu.row.len Tryz.underlying34, S, S1, S2, S3, S4, S5, ST, eq_self, reduceIte, reduceCtorEq, Nat.reduceEqDiff, Nat.reduceAdd]
      refine brD.intro (fun e => ?_) (fun e => ?_)
      · have hex : exP (ls.getD i []) (ls.getD (i + 1 + j) []) = true := by unfold exP; rw [decide_eq_true_iff]; omega
        have hstep : stpI exP ls i (j + 1) = stpI exP ls i j ++ [((i : Int), ((i + 1 + j : Nat) : Int))] := by rw [stpI, if_pos hex]
        obtain ⟨st2, H3, k1, k2, k3, k4, k5, k6⟩ := own1_26 hmK hpK (by rw [List.length_append]; omega) (i : Int) ((i + 1 + j : Nat) : Int)
        have d5 : H3[E.length]? = some (.cells [a, st'] 28 false) := k4 _ _ (.inr (hne _ rfl)) hcK
        obtain ⟨q2, hq2⟩ := k2.row.shape
        have t2 : st2.cells.toList = [st2] := by rw [hq2]; rfl
        have hst3 := st_at (P := Tryz.prog) (t := 26) (i := 1) (y := st2) cs26 d5 (by show 1 < 2; decide) k6 t2
        have lGK : G.length ≤ K.length := by
          have := pK.length_le
          omega
        simp (maxSteps := 1000000) (disch := omega) only [e, g2, g3, g4, g5, cell_of hcK, build_a2, wrap64, k1, hst3, S, S1, S2, S3, S4, S5, ST, eq_self, reduceIte, reduceCtorEq, Nat.reduceEqDiff, Nat.reduceAdd]
        have f5 : (H3.set E.length (.cells ([a, st'].set 1 st2) 28 false))[E.length]? = some (.cells [a, st2] 28 false) := by
          rw [List.getElem?_set_self (at_lt d5)]; rfl
        have fs1 : rowO st2 = D.length ∨ G.length ≤ rowO st2 := .inr (by omega)
        have fs2 : st2 ≠ .slice none 0 0 := by
          intro hh
          rw [hh] at k5
          have : rowO (Value.slice none 0 0) = 0 := rfl
          omega
        have fm : MineP 96 D (H3.set E.length (.cells ([a, st'].set 1 st2) 28 false)) st2 (stpO exP ls i ++ stpI exP ls i (j + 1)) := by
          rw [hstep, ← List.append_assoc]
          exact k2.keepL fun hl y hy => by rw [List.getElem?_set_ne (by omega)]; exact hy
        have fp : D <+: H3.set E.length (.cells ([a, st'].set 1 st2) 28 false) := pre_set k3 (by omega) _
        refine ⟨m' - 1, by omega, j + 1, st2, ?_⟩
        (repeat' first | exact f5 | exact fs1 | exact fs2 | exact fm | exact fp | apply And.intro) <;> first | (simp only [Value.int.injEq, true_and]; omega) | omega | rfl | assumption | (simp; done) | (simp; omega)
      · have hex : ¬ exP (ls.getD i []) (ls.getD (i + 1 + j) []) = true := by unfold exP; rw [decide_eq_true_iff]; omega
        have hstep : stpI exP ls i (j + 1) = stpI exP ls i j := by rw [stpI, if_neg hex, List.append_nil]
        rw [← hstep] at hmK
        simp (maxSteps := 1000000) (disch := omega) only [e, g2, g3, g4, g5, wrap64, S, S1, S2, S3, S4, S5, ST, eq_self, reduceIte, reduceCtorEq, Nat.reduceEqDiff, Nat.reduceAdd]
        refine ⟨m' - 1, by omega, j + 1, st', ?_⟩
        (repeat' first | exact hcK | exact hst' | exact hsn' | exact hmK | exact hpK | apply And.intro) <;> first | (simp only [Value.int.injEq, true_and]; omega) | omega | rfl | assumption | (simp; done) | (simp; omega)
    · have hjj : j = ls.length - (i + 1) := by omega
      subst hjj
      have hstO : stpO exP ls (i + 1) = stpO exP ls i ++ stpI exP ls i (ls.length - (i + 1)) := rfl
      rw [← hstO] at hmn'
      simp (maxSteps := 1000000) (disch := omega) only [g2, g3, g4, g5, wrap64, S, S1, S2, S3, S4, S5, ST, eq_self, reduceIte, reduceCtorEq, Nat.reduceEqDiff, Nat.reduceAdd]
      refine ⟨m - 1, by omega, i + 1, st', ?_⟩
      (repeat' first | exact hc5' | exact hst' | exact hsn' | exact hmn' | exact hpp' | apply And.intro) <;> first | (simp only [Value.int.injEq, true_and]; omega) | omega | rfl | assumption | (simp; done) | (simp; omega)
set_option maxRecDepth 20000 in
set_option maxHeartbeats 1000000 in
theorem PolyS_c (n : Int) (H : AH) :
    ACalls Tryz.prog 9 [.int .i64 n] H fun r H' => ∃ a b, r = .tuple (List.toArray [.agg (List.toArray [a, b]), .bool (decide (3 ≤ n ∧ n ≤ 8))]) ∧ SpIn H.length H'.length H' a b (polyL n) (polyP n) ∧ H <+: H' := by
  refine in9 rfl ?_
  intro Q hQ
  simp (maxSteps := 1000000) (disch := omega) only [cd9, alloc_sp, S, S1, S2, S3, S4, S5, ST, eq_self, reduceIte, reduceCtorEq, Nat.reduceEqDiff, Nat.reduceAdd]
  generalize hA : H ++ [AObj.cells [.slice none 0 0, .slice none 0 0] 28 false] = A
  have pA : H <+: A := by rw [← hA]; exact List.prefix_append _ _
  have cA : A[H.length]? = some (.cells [.slice none 0 0, .slice none 0 0] 28 false) := by rw [← hA]; exact at_new ..
  have lA : A.length = H.length + 1 := by rw [← hA]; simp
  refine CallH.by (l8Corners_c n A) ?_
  rintro _ _ ⟨rfl, rfl⟩
  simp (maxSteps := 1000000) (disch := omega) only [S, S1, S2, S3, S4, S5, ST, eq_self, reduceIte, reduceCtorEq, Nat.reduceEqDiff, Nat.reduceAdd]
  refine brD.intro (fun e => ?_) (fun e => ?_)
  · have hpL : polyL n = triA n := by unfold polyL; rw [if_pos e]
    have hpP : polyP n = steps exP (triA n) := by unfold polyP; rw [if_pos e]
    simp (maxSteps := 1000000) (disch := omega) only [e, S, S1, S2, S3, S4, S5, ST, eq_self, reduceIte, reduceCtorEq, Nat.reduceEqDiff, Nat.reduceAdd]
    refine CallH.by (l8Polygon_c n A e) ?_
    rintro _ B ⟨a, b, rfl, hs, pB⟩
    have cB := pre_at pB cA
    have hstore := hs.row.store cB rfl
    simp (maxSteps := 1000000) (disch := omega) only [hstore, S, S1, S2, S3, S4, S5, ST, eq_self, reduceIte, reduceCtorEq, Nat.reduceEqDiff, Nat.reduceAdd]
    have d4 := at_set (d := .cells [a, b] 28 false) cB
    obtain ⟨mid, m1, m2, m3, m4⟩ := hs
    refine hQ _ _ _ (end_cell2 _ _ _ _ _ _ _ (.agg (List.toArray [a, b])) (.bool true) ?_ rfl ?_ rfl ⟨a, b, by rw [decide_eq_true e], ⟨mid, by omega, by simp; omega, ?_, ?_⟩, ?_⟩)
    · simp (maxSteps := 1000000) (disch := omega) only [ld_agg ag28 cs28 d4, S, S1, S2, S3, S4, S5, ST, eq_self, reduceIte, reduceCtorEq, Nat.reduceEqDiff, Nat.reduceAdd]
    · simp (maxSteps := 1000000) (disch := omega) only [S, S1, S2, S3, S4, S5, ST, eq_self, reduceIte, reduceCtorEq, Nat.reduceEqDiff, Nat.reduceAdd]
    · rw [hpL]
      rcases m3 with q | ⟨o, us', q1, q2⟩
      · exact .inl q
      · refine .inr ⟨o, us', q1, (q2.move fun j y hj1 hj2 hy => ?_).wide (by omega) (Nat.le_refl _)⟩
        rw [List.getElem?_set_ne (by omega)]; exact hy
    · rw [hpP]
      rcases m4 with q | ⟨o, zs, q1, q2, q3, q4, q5⟩
      · exact .inl q
      · exact .inr ⟨o, zs, q1, q2, by simpa using q3, by rw [List.getElem?_set_ne (by omega)]; exact q4, q5⟩
    · exact pre_set (pA.trans pB) (Nat.le_refl _) _
  · have hpL : polyL n = [] := by unfold polyL; rw [if_neg e]
    have hpP : polyP n = [] := by unfold polyP; rw [if_neg e]
    have hstore := st_ss cA rfl none none 0 0 0 0
    simp (maxSteps := 1000000) (disch := omega) only [e, bld_sp0, hstore, S, S1, S2, S3, S4, S5, ST, eq_self, reduceIte, reduceCtorEq, Nat.reduceEqDiff, Nat.reduceAdd]
    have d4 := at_set (d := .cells [.slice none 0 0, .slice none 0 0] 28 false) cA
    refine hQ _ _ _ (end_cell2 _ _ _ _ _ _ _ (.agg (List.toArray [.slice none 0 0, .slice none 0 0])) (.bool false) ?_ rfl ?_ rfl ⟨_, _, by rw [decide_eq_false e], ⟨H.length, Nat.le_refl _, by simp; omega, ?_, ?_⟩, ?_⟩)
    · simp (maxSteps := 1000000) (disch := omega) only [ld_agg ag28 cs28 d4, S, S1, S2, S3, S4, S5, ST, eq_self, reduceIte, reduceCtorEq, Nat.reduceEqDiff, Nat.reduceAdd]
    · simp (maxSteps := 1000000) (disch := omega) only [S, S1, S2, S3, S4, S5, ST, eq_self, reduceIte, reduceCtorEq, Nat.reduceEqDiff, Nat.reduceAdd]
    · rw [hpL]; exact .inl ⟨rfl, rfl⟩
    · rw [hpP]; exact .inl ⟨rfl, rfl⟩
    · exact pre_set pA (Nat.le_refl _) _
end Go.Proofs.YtdgapefbbdfpbaaGreat.Ai
namespace Go.Proofs.YtdgapefbbdfpbaaGreat.Ai
open Go
def ords12 : List (Nat × List (Nat × Bool)) := [(11, [(0, false), (1, false), (2, false), (3, false), (4, false), (5, false), (6, false), (7, false), (8, false), (9, false), (10, false), (11, false), (12, false), (13, false), (14, true)])]
def cd12 : Cd := (.seq (.reg [⟨⟨some 2, Op.assign (Operand.const (Value.int IntKind.i64 0)), none⟩, []⟩,
  ⟨⟨some 3, Op.assign (Operand.const (Value.bool false)), none⟩, []⟩]) (.seq (.seq (.reg [⟨⟨some 8, Op.move (Operand.tmp 0), none⟩, []⟩,
  ⟨⟨some 9, Op.call { callee := (Callee.value (Operand.func 62)), args := #[(Operand.tmp 8)], argTypes := #[3] }, none⟩, []⟩,
  ⟨⟨some 10, Op.unOp UnOp.not 4 (Operand.tmp 9), none⟩, []⟩]) (.cond (Operand.tmp 10) (.seq (.reg [⟨⟨some 2, Op.assign (Operand.const (Value.int IntKind.i64 0)), none⟩, []⟩,
  ⟨⟨some 3, Op.assign (Operand.const (Value.bool false)), none⟩, []⟩]) .ret) .skip)) (.seq (.reg [⟨⟨some 11, Op.buildSlice 34 3 #[(0, (Operand.const (Value.int IntKind.i64 0))), (1, (Operand.const (Value.int IntKind.i64 0))), (2, (Operand.const (Value.int IntKind.i64 1)))], none⟩, []⟩,
  ⟨⟨some 4, Op.assign (Operand.tmp 11), none⟩, []⟩]) (.seq (.seq (.reg [⟨⟨some 5, Op.assign (Operand.const (Value.int IntKind.i64 3)), none⟩, []⟩]) (.block 0 (.loop (.seq (.seq (.reg [⟨⟨some 12, Op.move (Operand.tmp 5), none⟩, []⟩,
  ⟨⟨some 13, Op.move (Operand.tmp 0), none⟩, []⟩,
  ⟨⟨some 14, Op.binOp BinOp.leq 3 (Operand.tmp 12) (Operand.tmp 13) 3, none⟩, []⟩]) (.cond (Operand.tmp 14) .skip (.exit 0))) (.seq (.block 1 (.seq (.reg [⟨⟨some 6, Op.assign (Operand.const (Value.int IntKind.i64 0)), none⟩, []⟩]) (.seq (.seq (.reg [⟨⟨some 7, Op.assign (Operand.const (Value.int IntKind.i64 1)), none⟩, []⟩]) (.block 2 (.loop (.seq (.seq (.reg [⟨⟨some 17, Op.move (Operand.tmp 7), none⟩, []⟩,
  ⟨⟨some 18, Op.move (Operand.tmp 5), none⟩, []⟩,
  ⟨⟨some 19, Op.binOp BinOp.sub 3 (Operand.tmp 18) (Operand.const (Value.int IntKind.i64 1)) 3, none⟩, []⟩,
  ⟨⟨some 20, Op.binOp BinOp.lss 3 (Operand.tmp 17) (Operand.tmp 19) 3, none⟩, []⟩]) (.cond (Operand.tmp 20) .skip (.exit 2))) (.seq (.block 3 (.reg [⟨⟨some 23, Op.move (Operand.tmp 6), none⟩, []⟩,
  ⟨⟨some 24, Op.move (Operand.tmp 4), none⟩, []⟩,
  ⟨⟨some 25, Op.move (Operand.tmp 7), none⟩, []⟩,
  ⟨⟨some 26, Op.binOp BinOp.add 3 (Operand.tmp 25) (Operand.const (Value.int IntKind.i64 1)) 3, none⟩, []⟩,
  ⟨⟨some 27, Op.indexAddr 34 (Operand.tmp 24) (Operand.tmp 26), none⟩, []⟩,
  ⟨⟨some 28, Op.load 3 (Operand.tmp 27), none⟩, []⟩,
  ⟨⟨some 29, Op.move (Operand.tmp 4), none⟩, []⟩,
  ⟨⟨some 30, Op.move (Operand.tmp 5), none⟩, []⟩,
  ⟨⟨some 31, Op.move (Operand.tmp 7), none⟩, []⟩,
  ⟨⟨some 32, Op.binOp BinOp.sub 3 (Operand.tmp 30) (Operand.tmp 31) 3, none⟩, []⟩,
  ⟨⟨some 33, Op.indexAddr 34 (Operand.tmp 29) (Operand.tmp 32), none⟩, []⟩,
  ⟨⟨some 34, Op.load 3 (Operand.tmp 33), none⟩, []⟩,
  ⟨⟨some 35, Op.binOp BinOp.mul 3 (Operand.tmp 28) (Operand.tmp 34) 3, none⟩, []⟩,
  ⟨⟨some 36, Op.binOp BinOp.add 3 (Operand.tmp 23) (Operand.tmp 35) 3, none⟩, []⟩,
  ⟨⟨some 6, Op.assign (Operand.tmp 36), none⟩, []⟩])) (.reg [⟨⟨some 21, Op.move (Operand.tmp 7), none⟩, []⟩,
  ⟨⟨some 22, Op.binOp BinOp.add 3 (Operand.tmp 21) (Operand.const (Value.int IntKind.i64 1)) 3, none⟩, []⟩,
  ⟨⟨some 7, Op.assign (Operand.tmp 22), none⟩, []⟩])))))) (.reg [⟨⟨some 37, Op.move (Operand.tmp 4), none⟩, []⟩,
  ⟨⟨some 38, Op.move (Operand.tmp 6), none⟩, []⟩,
  ⟨⟨some 39, Op.buildSlice 34 1 #[(0, (Operand.tmp 38))], none⟩, []⟩,
  ⟨⟨some 40, Op.call { callee := (Callee.builtin Builtin.append), args := #[(Operand.tmp 37), (Operand.tmp 39)], argTypes := #[34, 34] }, none⟩, []⟩,
  ⟨⟨some 4, Op.assign (Operand.tmp 40), none⟩, []⟩])))) (.reg [⟨⟨some 15, Op.move (Operand.tmp 5), none⟩, []⟩,
  ⟨⟨some 16, Op.binOp BinOp.add 3 (Operand.tmp 15) (Operand.const (Value.int IntKind.i64 1)) 3, none⟩, []⟩,
  ⟨⟨some 5, Op.assign (Operand.tmp 16), none⟩, []⟩])))))) (.seq (.reg [⟨⟨some 41, Op.move (Operand.tmp 4), none⟩, []⟩,
  ⟨⟨some 42, Op.move (Operand.tmp 0), none⟩, []⟩,
  ⟨⟨some 43, Op.indexAddr 34 (Operand.tmp 41) (Operand.tmp 42), none⟩, []⟩,
  ⟨⟨some 44, Op.load 3 (Operand.tmp 43), none⟩, []⟩,
  ⟨⟨some 2, Op.assign (Operand.tmp 44), none⟩, []⟩,
  ⟨⟨some 3, Op.assign (Operand.const (Value.bool true)), none⟩, []⟩]) .ret)))))
theorem sl12 : slim Tryz.f12.ntmps ords12 (Tryz.f12.body.getD .skip) = some cd12 := by kernel_rfl
theorem in12 {args : List Value} {H : AH} {R : Value → AH → Prop} (hl : args.length = 1) (h : ∀ (Q : Exit → Sl → AH → Prop), (∀ e s H, endA Tryz.prog [ResultVar.tmp 2, ResultVar.tmp 3] R e s H → Q e s H) → wpC Tryz.prog cd12 Q (enterA args) H) : ACalls Tryz.prog 12 args H R :=
  ACalls.intro (by kernel_rfl) Tryz.func12 rfl (by kernel_rfl) sl12 hl (of_decide_eq_true (by kernel_rfl)) (by kernel_rfl) h
def ords11 : List (Nat × List (Nat × Bool)) := [(10, [(0, false), (1, false), (2, false), (3, false), (4, false), (5, false), (6, false), (7, false), (8, false), (9, false), (10, false), (11, false), (12, false), (13, false), (14, false), (15, true)])]
def cd11 : Cd := (.seq (.reg [⟨⟨some 2, Op.assign (Operand.const (Value.int IntKind.i64 0)), none⟩, []⟩,
  ⟨⟨some 3, Op.assign (Operand.const (Value.bool false)), none⟩, []⟩]) (.seq (.seq (.reg [⟨⟨some 7, Op.move (Operand.tmp 0), none⟩, []⟩,
  ⟨⟨some 8, Op.call { callee := (Callee.value (Operand.func 58)), args := #[(Operand.tmp 7)], argTypes := #[3] }, none⟩, []⟩,
  ⟨⟨some 9, Op.unOp UnOp.not 4 (Operand.tmp 8), none⟩, []⟩]) (.cond (Operand.tmp 9) (.seq (.reg [⟨⟨some 2, Op.assign (Operand.const (Value.int IntKind.i64 0)), none⟩, []⟩,
  ⟨⟨some 3, Op.assign (Operand.const (Value.bool false)), none⟩, []⟩]) .ret) .skip)) (.seq (.reg [⟨⟨some 10, Op.build 81 #[(2, (Operand.const (Value.int IntKind.i64 1)))], none⟩, []⟩,
  ⟨⟨some 4, Op.alloc 81, none⟩, []⟩,
  ⟨⟨none, Op.store 81 (Operand.tmp 4) (Operand.tmp 10), none⟩, []⟩]) (.seq (.seq (.reg [⟨⟨some 5, Op.assign (Operand.const (Value.int IntKind.i64 3)), none⟩, []⟩]) (.block 0 (.loop (.seq (.seq (.reg [⟨⟨some 11, Op.move (Operand.tmp 5), none⟩, []⟩,
  ⟨⟨some 12, Op.move (Operand.tmp 0), none⟩, []⟩,
  ⟨⟨some 13, Op.binOp BinOp.leq 3 (Operand.tmp 11) (Operand.tmp 12) 3, none⟩, []⟩]) (.cond (Operand.tmp 13) .skip (.exit 0))) (.seq (.block 1 (.seq (.reg [⟨⟨some 6, Op.assign (Operand.const (Value.int IntKind.i64 1)), none⟩, []⟩]) (.block 2 (.loop (.seq (.seq (.reg [⟨⟨some 16, Op.move (Operand.tmp 6), none⟩, []⟩,
  ⟨⟨some 17, Op.move (Operand.tmp 5), none⟩, []⟩,
  ⟨⟨some 18, Op.binOp BinOp.sub 3 (Operand.tmp 17) (Operand.const (Value.int IntKind.i64 2)) 3, none⟩, []⟩,
  ⟨⟨some 19, Op.binOp BinOp.leq 3 (Operand.tmp 16) (Operand.tmp 18) 3, none⟩, []⟩]) (.cond (Operand.tmp 19) .skip (.exit 2))) (.seq (.block 3 (.reg [⟨⟨some 22, Op.move (Operand.tmp 5), none⟩, []⟩,
  ⟨⟨some 23, Op.indexAddr 81 (Operand.tmp 4) (Operand.tmp 22), none⟩, []⟩,
  ⟨⟨some 24, Op.load 3 (Operand.tmp 23), none⟩, []⟩,
  ⟨⟨some 25, Op.move (Operand.tmp 6), none⟩, []⟩,
  ⟨⟨some 26, Op.binOp BinOp.add 3 (Operand.tmp 25) (Operand.const (Value.int IntKind.i64 1)) 3, none⟩, []⟩,
  ⟨⟨some 27, Op.indexAddr 81 (Operand.tmp 4) (Operand.tmp 26), none⟩, []⟩,
  ⟨⟨some 28, Op.load 3 (Operand.tmp 27), none⟩, []⟩,
  ⟨⟨some 29, Op.move (Operand.tmp 5), none⟩, []⟩,
  ⟨⟨some 30, Op.move (Operand.tmp 6), none⟩, []⟩,
  ⟨⟨some 31, Op.binOp BinOp.sub 3 (Operand.tmp 29) (Operand.tmp 30) 3, none⟩, []⟩,
  ⟨⟨some 32, Op.indexAddr 81 (Operand.tmp 4) (Operand.tmp 31), none⟩, []⟩,
  ⟨⟨some 33, Op.load 3 (Operand.tmp 32), none⟩, []⟩,
  ⟨⟨some 34, Op.binOp BinOp.mul 3 (Operand.tmp 28) (Operand.tmp 33) 3, none⟩, []⟩,
  ⟨⟨some 35, Op.binOp BinOp.add 3 (Operand.tmp 24) (Operand.tmp 34) 3, none⟩, []⟩,
  ⟨⟨some 36, Op.indexAddr 81 (Operand.tmp 4) (Operand.tmp 22), none⟩, []⟩,
  ⟨⟨none, Op.store 3 (Operand.tmp 36) (Operand.tmp 35), none⟩, []⟩])) (.reg [⟨⟨some 20, Op.move (Operand.tmp 6), none⟩, []⟩,
  ⟨⟨some 21, Op.binOp BinOp.add 3 (Operand.tmp 20) (Operand.const (Value.int IntKind.i64 1)) 3, none⟩, []⟩,
  ⟨⟨some 6, Op.assign (Operand.tmp 21), none⟩, []⟩]))))))) (.reg [⟨⟨some 14, Op.move (Operand.tmp 5), none⟩, []⟩,
  ⟨⟨some 15, Op.binOp BinOp.add 3 (Operand.tmp 14) (Operand.const (Value.int IntKind.i64 1)) 3, none⟩, []⟩,
  ⟨⟨some 5, Op.assign (Operand.tmp 15), none⟩, []⟩])))))) (.seq (.reg [⟨⟨some 37, Op.move (Operand.tmp 0), none⟩, []⟩,
  ⟨⟨some 38, Op.indexAddr 81 (Operand.tmp 4) (Operand.tmp 37), none⟩, []⟩,
  ⟨⟨some 39, Op.load 3 (Operand.tmp 38), none⟩, []⟩,
  ⟨⟨some 2, Op.assign (Operand.tmp 39), none⟩, []⟩,
  ⟨⟨some 3, Op.assign (Operand.const (Value.bool true)), none⟩, []⟩]) .ret)))))
theorem sl11 : slim Tryz.f11.ntmps ords11 (Tryz.f11.body.getD .skip) = some cd11 := by kernel_rfl
theorem in11 {args : List Value} {H : AH} {R : Value → AH → Prop} (hl : args.length = 1) (h : ∀ (Q : Exit → Sl → AH → Prop), (∀ e s H, endA Tryz.prog [ResultVar.tmp 2, ResultVar.tmp 3] R e s H → Q e s H) → wpC Tryz.prog cd11 Q (enterA args) H) : ACalls Tryz.prog 11 args H R :=
  ACalls.intro (by kernel_rfl) Tryz.func11 rfl (by kernel_rfl) sl11 hl (of_decide_eq_true (by kernel_rfl)) (by kernel_rfl) h
end Go.Proofs.YtdgapefbbdfpbaaGreat.Ai
namespace Go.Proofs.YtdgapefbbdfpbaaGreat.Ai
open Go Go.RowKit
set_option linter.unusedVariables false
set_option linter.unusedSimpArgs false
def catSum (c : List Int) (k : Nat) : Nat → Int
  | 0 => 0
  | m + 1 => catSum c k m + c.getD (m + 2) 0 * c.getD (k - (m + 1)) 0
def cat : Nat → List Int
  | 0 => [0, 0, 1]
  | j + 1 => cat j ++ [catSum (cat j) (j + 3) (j + 1)]
theorem cat_len (j : Nat) : (cat j).length = j + 3 := by
  induction j with
  | zero => rfl
  | succ j ih => simp [cat, ih]
theorem cat_small : ∀ j, j < 7 → ∀ i, i < 10 → 0 ≤ (cat j).getD i 0 ∧ (cat j).getD i 0 ≤ 1000 := by decide
theorem catSum_small : ∀ j, j < 7 → ∀ i, i < 10 → 0 ≤ catSum (cat j) (j + 3) i ∧ catSum (cat j) (j + 3) i ≤ 1000000 := by decide
theorem countS_c (n : Int) (H : AH) : ACalls Tryz.prog 12 [.int .i64 n] H fun r H' => r = (if 3 ≤ n ∧ n ≤ 8 then .tuple #[.int .i64 ((cat (n.toNat - 2)).getD n.toNat 0), .bool true] else .tuple #[.int .i64 0, .bool false]) ∧ H <+: H' := by
  refine in12 rfl ?_
  intro Q hQ
  simp (maxSteps := 1000000) (disch := omega) only [cd12, S, S1, S2, S3, S4, S5, ST, eq_self, reduceIte, reduceCtorEq, Nat.reduceEqDiff, Nat.reduceAdd]
  refine CallH.by (l8Corners_c ..) ?_
  rintro _ _ ⟨rfl, rfl⟩
  simp (maxSteps := 1000000) (disch := omega) only [S, S1, S2, S3, S4, S5, ST, eq_self, reduceIte, reduceCtorEq, Nat.reduceEqDiff, Nat.reduceAdd]
  refine brD.intro (fun h => ?_) (fun h => ?_) <;> simp (maxSteps := 1000000) (disch := omega) only [S, S1, S2, S3, S4, S5, ST, eq_self, reduceIte, reduceCtorEq, Nat.reduceEqDiff, Nat.reduceAdd]
  · obtain ⟨N, rfl⟩ : ∃ N : Nat, n = N := ⟨n.toNat, by omega⟩
    refine LoopH.by (fun m s H' => ∃ j o, m + j + 2 = N ∧ s 0 = .int .i64 N ∧ s 5 = .int .i64 ((j + 3 : Nat) : Int) ∧ s 4 = .slice (some ⟨o, 0, none⟩) (j + 3) (j + 3) ∧ H <+: H' ∧ H.length ≤ o ∧ H'[o]? = some (.cells (ints (cat j)) 3 false)) (N - 2) ?_ ?_
    · refine ⟨0, H.length, by omega, ?_⟩
      simp [S, S1, S2, S3, S4, S5, ST, eq_self, reduceIte, reduceCtorEq, Nat.reduceEqDiff, Nat.reduceAdd, ints, cat]
    · rintro m s H' ⟨j, o, hm, h0, h5, h4, hp, ho, hc⟩
      have hl := cat_len j
      simp (maxSteps := 1000000) (disch := omega) only [h0, h4, h5, S, S1, S2, S3, S4, S5, ST, eq_self, reduceIte, reduceCtorEq, Nat.reduceEqDiff, Nat.reduceAdd]
      refine brD.intro (fun g => ?_) (fun g => ?_) <;> simp (maxSteps := 1000000) (disch := omega) only [h0, h4, h5, cell_ints hc, S, S1, S2, S3, S4, S5, ST, eq_self, reduceIte, reduceCtorEq, Nat.reduceEqDiff, Nat.reduceAdd]
      · refine LoopH.by (fun m' s' H'' => ∃ i, m' + i = j + 1 ∧ s' 0 = .int .i64 N ∧ s' 5 = .int .i64 ((j + 3 : Nat) : Int) ∧ s' 4 = .slice (some ⟨o, 0, none⟩) (j + 3) (j + 3) ∧ s' 7 = .int .i64 ((i + 1 : Nat) : Int) ∧ s' 6 = .int .i64 (catSum (cat j) (j + 3) i) ∧ H'' = H') (j + 1) ?_ ?_
        · refine ⟨0, by omega, ?_⟩
          simp [S, S1, S2, S3, S4, S5, ST, eq_self, reduceIte, reduceCtorEq, Nat.reduceEqDiff, Nat.reduceAdd, catSum, h0, h4, h5]
        · rintro m' s' H'' ⟨i, hm', g0, g5, g4, g7, g6, rfl⟩
          have b1 := cat_small j (by omega) (i + 2) (by omega)
          have b2 := cat_small j (by omega) (j + 3 - (i + 1)) (by omega)
          have b3 := catSum_small j (by omega) i (by omega)
          have b4 := catSum_small j (by omega) (i + 1) (by omega)
          have e1 : (((i + 1 : Nat) : Int) + 1).toNat = i + 2 := by omega
          have e2 : (((j + 3 : Nat) : Int) - ((i + 1 : Nat) : Int)).toNat = j + 3 - (i + 1) := by omega
          have b5 : 0 ≤ (cat j).getD (i + 2) 0 * (cat j).getD (j + 3 - (i + 1)) 0 := Int.mul_nonneg b1.1 b2.1
          rw [catSum] at b4
          simp (maxSteps := 1000000) (disch := omega) only [g0, g4, g5, g6, g7, wrap64, S, S1, S2, S3, S4, S5, ST, eq_self, reduceIte, reduceCtorEq, Nat.reduceEqDiff, Nat.reduceAdd]
          refine brD.intro (fun g => ?_) (fun g => ?_) <;> simp (maxSteps := 1000000) (disch := omega) only [g0, g4, g5, g6, g7, wrap64, cell_ints hc, e1, e2, S, S1, S2, S3, S4, S5, ST, eq_self, reduceIte, reduceCtorEq, Nat.reduceEqDiff, Nat.reduceAdd]
          · refine ⟨m' - 1, by omega, i + 1, by omega, ?_⟩
            simp [S, S1, S2, S3, S4, S5, ST, eq_self, reduceIte, reduceCtorEq, Nat.reduceEqDiff, Nat.reduceAdd, g0, g4, g5, catSum]
          · have ei : i = j + 1 := by omega
            subst ei
            simp (maxSteps := 1000000) (disch := omega) only [appi34 hc, g0, g4, g5, g6, g7, wrap64, S, S1, S2, S3, S4, S5, ST, eq_self, reduceIte, reduceCtorEq, Nat.reduceEqDiff, Nat.reduceAdd]
            refine ⟨m - 1, by omega, j + 1, H''.length + 1, by omega, ?_⟩
            have hlt := at_lt hc
            simp only [S, S1, S2, S3, S4, S5, ST, eq_self, reduceIte, reduceCtorEq, Nat.reduceEqDiff, Nat.reduceAdd, g0, cat]
            (repeat' apply And.intro) <;> first | rfl | trivial | assumption | omega | (simp only [Value.int.injEq, true_and]; omega) | (simp; done) | (simp; omega) | exact pre_app (pre_set hp ho _) _ | exact at_new1 ..
      · refine hQ _ _ _ ?_
        have hN : N = j + 2 := by omega
        subst hN
        simp (maxSteps := 1000000) (disch := omega) only [h0, h, S, S1, S2, S3, S4, S5, ST, eq_self, reduceIte, reduceCtorEq, Nat.reduceEqDiff, Nat.reduceAdd]
        refine ⟨?_, hp⟩
        simp only [Int.toNat_natCast, and_self, if_true, Nat.add_sub_cancel]
  · refine hQ _ _ _ ?_
    simp [S, S1, S2, S3, S4, S5, ST, eq_self, reduceIte, reduceCtorEq, Nat.reduceEqDiff, Nat.reduceAdd, h]
theorem build9 : buildA Tryz.prog 81 [(2, .int .i64 1)] = some (.agg (ints [0, 0, 1, 0, 0, 0, 0, 0, 0]).toArray) := by kernel_rfl
theorem alloc9 (H : AH) : allocA Tryz.prog 81 H = some (.pointer (some ⟨H.length, 0, none⟩), H ++ [.cells (ints [0, 0, 0, 0, 0, 0, 0, 0, 0]) 81 false]) := by kernel_rfl
theorem store9 (H : AH) : storeA Tryz.prog 81 (.pointer (some ⟨H.length, 0, none⟩)) (.agg (ints [0, 0, 1, 0, 0, 0, 0, 0, 0]).toArray) (H ++ [.cells (ints [0, 0, 0, 0, 0, 0, 0, 0, 0]) 81 false]) = some (H ++ [.cells (ints [0, 0, 1, 0, 0, 0, 0, 0, 0]) 81 false]) :=
  st_new rfl (by rw [cs81]; rfl) (by rw [cs81]; decide) (by rw [cs81]; rfl)
theorem ix9 (p : Addr) (k : IntKind) {i : Int} (h0 : 0 ≤ i) (h1 : i < 9) : indexAddrA Tryz.prog 81 (.pointer (some p)) (.int k i) = some (.pointer (some ⟨p.block, p.off + i.toNat, none⟩)) := ix_arr Tryz.underlying81 cs3 p k h0 h1
/-- the row as far as it goes, then zeros -/
def cat9 (j : Nat) : List Int := cat j ++ List.replicate (6 - j) 0
theorem cat9_zero : ∀ j, j < 6 → cat9 j = (cat9 j).set (j + 3) (catSum (cat j) (j + 3) 0) := by decide
theorem cat9_next : ∀ j, j < 6 → cat9 (j + 1) = (cat9 j).set (j + 3) (catSum (cat j) (j + 3) (j + 1)) := by decide
theorem cat9_at : ∀ j, j < 7 → 0 < j → (cat9 j).getD (j + 2) 0 = (cat j).getD (j + 2) 0 := by decide
theorem cat9_len {j : Nat} (h : j ≤ 6) : (cat9 j).length = 9 := by simp [cat9, cat_len]; omega
theorem countI_c (n : Int) (H : AH) : ACalls Tryz.prog 11 [.int .i64 n] H fun r H' => r = (if 3 ≤ n ∧ n ≤ 8 then .tuple #[.int .i64 ((cat (n.toNat - 2)).getD n.toNat 0), .bool true] else .tuple #[.int .i64 0, .bool false]) ∧ H <+: H' := by
  refine in11 rfl ?_
  intro Q hQ
  simp (maxSteps := 1000000) (disch := omega) only [cd11, S, S1, S2, S3, S4, S5, ST, eq_self, reduceIte, reduceCtorEq, Nat.reduceEqDiff, Nat.reduceAdd]
  refine CallH.by (isPolygon_c ..) ?_
  rintro _ _ ⟨rfl, rfl⟩
  simp (maxSteps := 1000000) (disch := omega) only [S, S1, S2, S3, S4, S5, ST, eq_self, reduceIte, reduceCtorEq, Nat.reduceEqDiff, Nat.reduceAdd]
  refine brD.intro (fun h => ?_) (fun h => ?_) <;> simp (maxSteps := 1000000) (disch := omega) only [build9, alloc9, store9, S, S1, S2, S3, S4, S5, ST, eq_self, reduceIte, reduceCtorEq, Nat.reduceEqDiff, Nat.reduceAdd]
  · obtain ⟨N, rfl⟩ : ∃ N : Nat, n = N := ⟨n.toNat, by omega⟩
    refine LoopH.by (fun m s H' => ∃ j, m + j + 2 = N ∧ s 0 = .int .i64 N ∧ s 5 = .int .i64 ((j + 3 : Nat) : Int) ∧ s 4 = .pointer (some ⟨H.length, 0, none⟩) ∧ H' = H ++ [.cells (ints (cat9 j)) 81 false]) (N - 2) ?_ ?_
    · refine ⟨0, by omega, ?_⟩
      simp [S, S1, S2, S3, S4, S5, ST, eq_self, reduceIte, reduceCtorEq, Nat.reduceEqDiff, Nat.reduceAdd, cat9, cat]
    · rintro m s H' ⟨j, hm, h0, h5, h4, rfl⟩
      have hl := cat_len j
      simp (maxSteps := 1000000) (disch := omega) only [h0, h4, h5, S, S1, S2, S3, S4, S5, ST, eq_self, reduceIte, reduceCtorEq, Nat.reduceEqDiff, Nat.reduceAdd]
      refine brD.intro (fun g => ?_) (fun g => ?_) <;> simp (maxSteps := 1000000) (disch := omega) only [h0, h4, h5, ix9, S, S1, S2, S3, S4, S5, ST, eq_self, reduceIte, reduceCtorEq, Nat.reduceEqDiff, Nat.reduceAdd]
      · refine LoopH.by (fun m' s' H'' => ∃ i, m' + i = j + 1 ∧ s' 0 = .int .i64 N ∧ s' 5 = .int .i64 ((j + 3 : Nat) : Int) ∧ s' 4 = .pointer (some ⟨H.length, 0, none⟩) ∧ s' 6 = .int .i64 ((i + 1 : Nat) : Int) ∧ H'' = H ++ [.cells (ints ((cat9 j).set (j + 3) (catSum (cat j) (j + 3) i))) 81 false]) (j + 1) ?_ ?_
        · refine ⟨0, by omega, ?_⟩
          rw [← cat9_zero j (by omega)]
          simp [S, S1, S2, S3, S4, S5, ST, eq_self, reduceIte, reduceCtorEq, Nat.reduceEqDiff, Nat.reduceAdd, h0, h4, h5]
        · rintro m' s' H'' ⟨i, hm', g0, g5, g4, g6, rfl⟩
          have b1 := cat_small j (by omega) (i + 2) (by omega)
          have b2 := cat_small j (by omega) (j + 3 - (i + 1)) (by omega)
          have b3 := catSum_small j (by omega) i (by omega)
          have b4 := catSum_small j (by omega) (i + 1) (by omega)
          have e1 : (((i + 1 : Nat) : Int) + 1).toNat = i + 2 := by omega
          have e2 : (((j + 3 : Nat) : Int) - ((i + 1 : Nat) : Int)).toNat = j + 3 - (i + 1) := by omega
          have e3 : ((j + 3 : Nat) : Int).toNat = j + 3 := rfl
          have b5 : 0 ≤ (cat j).getD (i + 2) 0 * (cat j).getD (j + 3 - (i + 1)) 0 := Int.mul_nonneg b1.1 b2.1
          rw [catSum] at b4
          have hc9 := cat9_len (j := j) (by omega)
          have hs9 : ((cat9 j).set (j + 3) (catSum (cat j) (j + 3) i)).length = 9 := by simp [hc9]
          have hc := at_new H (.cells (ints ((cat9 j).set (j + 3) (catSum (cat j) (j + 3) i))) 81 false)
          have low : ∀ k, k < j + 3 → ((cat9 j).set (j + 3) (catSum (cat j) (j + 3) i)).getD k 0 = (cat j).getD k 0 := by
            intro k hk
            simp only [List.getD_eq_getElem?_getD]
            rw [List.getElem?_set_ne (by omega), cat9, List.getElem?_append_left (by omega)]
          have top : ((cat9 j).set (j + 3) (catSum (cat j) (j + 3) i)).getD (j + 3) 0 = catSum (cat j) (j + 3) i := by
            simp only [List.getD_eq_getElem?_getD]
            rw [List.getElem?_set_self (by omega)]; rfl
          simp (maxSteps := 1000000) (disch := omega) only [g0, g4, g5, g6, wrap64, S, S1, S2, S3, S4, S5, ST, eq_self, reduceIte, reduceCtorEq, Nat.reduceEqDiff, Nat.reduceAdd]
          refine brD.intro (fun g => ?_) (fun g => ?_) <;> simp (maxSteps := 1000000) (disch := omega) only [g0, g4, g5, g6, ix9, wrap64, cell_ints hc, e1, e2, e3, low, top, S, S1, S2, S3, S4, S5, ST, eq_self, reduceIte, reduceCtorEq, Nat.reduceEqDiff, Nat.reduceAdd]
          · simp (maxSteps := 1000000) (disch := omega) only [st_ints cs3 hc, set_new, g6, wrap64, S, S1, S2, S3, S4, S5, ST, eq_self, reduceIte, reduceCtorEq, Nat.reduceEqDiff, Nat.reduceAdd]
            refine ⟨m' - 1, by omega, i + 1, by omega, ?_⟩
            simp only [S, S1, S2, S3, S4, S5, ST, eq_self, reduceIte, reduceCtorEq, Nat.reduceEqDiff, Nat.reduceAdd, g0, g4, g5, catSum, List.set_set]
            (repeat' apply And.intro) <;> first | rfl | trivial | assumption | omega | (simp only [Value.int.injEq, true_and]; omega) | (simp; done) | (simp; omega)
          · have ei : i = j + 1 := by omega
            subst ei
            refine ⟨m - 1, by omega, j + 1, by omega, ?_⟩
            rw [cat9_next j (by omega)]
            (repeat' apply And.intro) <;> first | rfl | trivial | assumption | omega | (simp only [Value.int.injEq, true_and]; omega) | (simp; done) | (simp; omega)
      · have hN : N = j + 2 := by omega
        subst hN
        have hc := at_new H (.cells (ints (cat9 j)) 81 false)
        have hc9 := cat9_len (j := j) (by omega)
        simp (maxSteps := 1000000) (disch := omega) only [cell_ints hc, S, S1, S2, S3, S4, S5, ST, eq_self, reduceIte, reduceCtorEq, Nat.reduceEqDiff, Nat.reduceAdd]
        refine hQ _ _ _ ?_
        simp (maxSteps := 1000000) (disch := omega) only [h0, h, S, S1, S2, S3, S4, S5, ST, eq_self, reduceIte, reduceCtorEq, Nat.reduceEqDiff, Nat.reduceAdd]
        refine ⟨?_, List.prefix_append _ _⟩
        simp only [Int.toNat_natCast, and_self, if_true, Nat.add_sub_cancel]
        rw [cat9_at j (by omega) (by omega)]
  · refine hQ _ _ _ ?_
    simp [S, S1, S2, S3, S4, S5, ST, eq_self, reduceIte, reduceCtorEq, Nat.reduceEqDiff, Nat.reduceAdd, h]
end Go.Proofs.YtdgapefbbdfpbaaGreat.Ai
namespace Go.Proofs.YtdgapefbbdfpbaaGreat.Ai
open Go Go.RowKit
set_option linter.unusedVariables false
theorem tri_enum {n : Int} {xs : List Int} (h : Tri1 n xs) : ∃ N : Nat, n = (N : Int) ∧ 3 ≤ N ∧ N ≤ 8 ∧ xs ∈ ncs (dgs (N : Int) N) ∧ xs.length + 3 = N := by
  have hn := h.1
  obtain ⟨N, rfl⟩ : ∃ N : Nat, n = N := ⟨n.toNat, by omega⟩
  have ts := (triSet_iff _ xs).1 h.2
  have hm := ts.mem
  simp only [Int.toNat_natCast] at hm
  have hl := ts.len
  exact ⟨N, rfl, by omega, by omega, ncs_mem _ xs (sub_of_sorted _ xs (dgs_sorted ⟨N, by omega⟩) ts.up hm) ts.free, by omega⟩
/-- flips are undone -/
def flpB (N : Nat) (l : List Int) : Bool := l.all fun x =>
  let d := flipD N l x
  let r := put (rst l x) d
  triS N r && (decide (d ∈ r) && (decide (flipD N r d = x) && decide (put (rst r d) x = l)))
/-- two ears -/
def earB (N : Nat) (l : List Int) : Bool := decide (2 ≤ (ears l N).length)
/-- a turn keeps the ears -/
def trnB (N : Nat) (l : List Int) : Bool := (List.range N).all fun b => [true, false].all fun m =>
  let r := puts (l.map (trnD N b m))
  triS N r && decide ((ears r N).length = (ears l N).length)
def plgB (N : Nat) : Bool := (ncs (dgs (N : Int) N)).all fun l => !decide (l.length + 3 = N) || (flpB N l && (earB N l && trnB N l))
set_option maxRecDepth 20000 in
theorem plg3 : plgB 3 = true := by decide +kernel
set_option maxRecDepth 20000 in
theorem plg4 : plgB 4 = true := by decide +kernel
set_option maxRecDepth 20000 in
theorem plg5 : plgB 5 = true := by decide +kernel
set_option maxRecDepth 20000 in
theorem plg6 : plgB 6 = true := by decide +kernel
set_option maxRecDepth 20000 in
theorem plg7 : plgB 7 = true := by decide +kernel
set_option maxRecDepth 20000 in
theorem plg8 : plgB 8 = true := by decide +kernel
theorem plg_all {N : Nat} (h : 3 ≤ N ∧ N ≤ 8) {l : List Int} (hl : l ∈ ncs (dgs (N : Int) N)) (hn : l.length + 3 = N) : flpB N l = true ∧ earB N l = true ∧ trnB N l = true := by
  have : plgB N = true := by
    have : N = 3 ∨ N = 4 ∨ N = 5 ∨ N = 6 ∨ N = 7 ∨ N = 8 := by omega
    rcases this with rfl | rfl | rfl | rfl | rfl | rfl
    · exact plg3
    · exact plg4
    · exact plg5
    · exact plg6
    · exact plg7
    · exact plg8
  unfold plgB at this
  rw [List.all_eq_true] at this
  have := this l hl
  rw [decide_eq_true hn] at this
  simpa using this
theorem flip_back {n x : Int} {xs : List Int} (h : flipC n xs x) : flipC n (flipR n xs x) (flipN n xs x) ∧ flipR n (flipR n xs x) (flipN n xs x) = xs ∧ flipN n (flipR n xs x) (flipN n xs x) = x := by
  obtain ⟨N, rfl, h3, h8, hm, hl⟩ := tri_enum h.1
  have hf := (plg_all ⟨h3, h8⟩ hm hl).1
  unfold flpB at hf
  rw [List.all_eq_true] at hf
  have hx := hf x h.2
  simp only [Bool.and_eq_true, decide_eq_true_eq] at hx
  obtain ⟨a1, a2, a3, a4⟩ := hx
  have e1 : flipR N xs x = put (rst xs x) (flipD N xs x) := if_pos h
  have e2 : flipN N xs x = flipD N xs x := if_pos h
  rw [e1, e2]
  have hc : flipC N (put (rst xs x) (flipD N xs x)) (flipD N xs x) := ⟨⟨by omega, a1⟩, a2⟩
  refine ⟨hc, ?_, ?_⟩
  · rw [flipR, if_pos hc, a3, a4]
  · rw [flipN, if_pos hc, a3]
theorem ears_two {n : Int} {xs : List Int} (h : Tri1 n xs) : 2 ≤ (earsR n xs).length := by
  obtain ⟨N, rfl, h3, h8, hm, hl⟩ := tri_enum h
  have hf := (plg_all ⟨h3, h8⟩ hm hl).2.1
  unfold earB at hf
  rw [earsR, if_pos h]
  simpa using hf
theorem turn_keeps {n b : Int} {xs : List Int} {mir : Bool} (h : turnOk n xs b) : Tri1 n (turnR n xs b mir) ∧ (earsR n (turnR n xs b mir)).length = (earsR n xs).length := by
  obtain ⟨N, rfl, h3, h8, hm, hl⟩ := tri_enum h.1
  have hf := (plg_all ⟨h3, h8⟩ hm hl).2.2
  have hb := h.2
  obtain ⟨B, rfl⟩ : ∃ B : Nat, b = B := ⟨b.toNat, by omega⟩
  unfold trnB at hf
  rw [List.all_eq_true] at hf
  have hx := hf B (List.mem_range.2 (by omega))
  rw [List.all_eq_true] at hx
  have hx := hx mir (by cases mir <;> simp)
  simp only [Bool.and_eq_true, decide_eq_true_eq] at hx
  have e : turnR N xs B mir = puts (xs.map (trnD N B mir)) := if_pos h
  rw [e]
  have t : Tri1 N (puts (xs.map (trnD N B mir))) := ⟨by omega, hx.1⟩
  refine ⟨t, ?_⟩
  rw [earsR, earsR, if_pos t, if_pos h.1]
  simpa using hx.2
def cntB (N : Nat) : Bool := decide (((triA N).length : Int) = (cat (N - 2)).getD N 0) && decide (2 * ((steps exP (triA N)).length : Int) = (cat (N - 2)).getD N 0 * ((N : Int) - 3))
set_option maxRecDepth 20000 in
theorem cnt3 : cntB 3 = true := by decide +kernel
set_option maxRecDepth 20000 in
theorem cnt4 : cntB 4 = true := by decide +kernel
set_option maxRecDepth 20000 in
theorem cnt5 : cntB 5 = true := by decide +kernel
set_option maxRecDepth 20000 in
theorem cnt6 : cntB 6 = true := by decide +kernel
set_option maxRecDepth 20000 in
theorem cnt7 : cntB 7 = true := by decide +kernel
set_option maxRecDepth 20000 in
theorem cnt8 : cntB 8 = true := by decide +kernel
theorem cnt_all {n : Int} (h : 3 ≤ n ∧ n ≤ 8) : ((triA n).length : Int) = (cat (n.toNat - 2)).getD n.toNat 0 ∧ 2 * ((steps exP (triA n)).length : Int) = (cat (n.toNat - 2)).getD n.toNat 0 * (n - 3) := by
  obtain ⟨N, rfl⟩ : ∃ N : Nat, n = N := ⟨n.toNat, by omega⟩
  have : cntB N = true := by
    have : N = 3 ∨ N = 4 ∨ N = 5 ∨ N = 6 ∨ N = 7 ∨ N = 8 := by omega
    rcases this with rfl | rfl | rfl | rfl | rfl | rfl
    · exact cnt3
    · exact cnt4
    · exact cnt5
    · exact cnt6
    · exact cnt7
    · exact cnt8
  unfold cntB at this
  simp only [Bool.and_eq_true, decide_eq_true_eq] at this
  simpa using this
end Go.Proofs.YtdgapefbbdfpbaaGreat.Ai
namespace Go.Proofs.YtdgapefbbdfpbaaGreat.Ai
open Go
def ords18 : List (Nat × List (Nat × Bool)) := []
def cd18 : Cd := (.seq (.reg [⟨⟨some 4, Op.assign (Operand.const (Value.bool false)), none⟩, []⟩,
  ⟨⟨some 5, Op.assign (Operand.const (Value.bool false)), none⟩, []⟩]) (.seq (.seq (.reg [⟨⟨some 6, Op.move (Operand.tmp 0), none⟩, []⟩,
  ⟨⟨some 7, Op.call { callee := (Callee.value (Operand.func 62)), args := #[(Operand.tmp 6)], argTypes := #[3] }, none⟩, []⟩,
  ⟨⟨some 8, Op.unOp UnOp.not 4 (Operand.tmp 7), none⟩, []⟩]) (.cond (Operand.tmp 8) (.seq (.reg [⟨⟨some 4, Op.assign (Operand.const (Value.bool false)), none⟩, []⟩,
  ⟨⟨some 5, Op.assign (Operand.const (Value.bool false)), none⟩, []⟩]) .ret) .skip)) (.seq (.reg [⟨⟨some 9, Op.move (Operand.tmp 0), none⟩, []⟩,
  ⟨⟨some 10, Op.move (Operand.tmp 1), none⟩, []⟩,
  ⟨⟨some 11, Op.call { callee := (Callee.value (Operand.func 84)), args := #[(Operand.tmp 9), (Operand.tmp 10)], argTypes := #[3, 34] }, none⟩, []⟩,
  ⟨⟨some 4, Op.assign (Operand.tmp 11), none⟩, []⟩,
  ⟨⟨some 5, Op.assign (Operand.const (Value.bool true)), none⟩, []⟩]) .ret)))
theorem sl18 : slim Tryz.f18.ntmps ords18 (Tryz.f18.body.getD .skip) = some cd18 := by kernel_rfl
theorem in18 {args : List Value} {H : AH} {R : Value → AH → Prop} (hl : args.length = 2) (h : ∀ (Q : Exit → Sl → AH → Prop), (∀ e s H, endA Tryz.prog [ResultVar.tmp 4, ResultVar.tmp 5] R e s H → Q e s H) → wpC Tryz.prog cd18 Q (enterA args) H) : ACalls Tryz.prog 18 args H R :=
  ACalls.intro (by kernel_rfl) Tryz.func18 rfl (by kernel_rfl) sl18 hl (of_decide_eq_true (by kernel_rfl)) (by kernel_rfl) h
def ords17 : List (Nat × List (Nat × Bool)) := []
def cd17 : Cd := (.seq (.reg [⟨⟨some 4, Op.assign (Operand.const (Value.bool false)), none⟩, []⟩,
  ⟨⟨some 5, Op.assign (Operand.const (Value.bool false)), none⟩, []⟩]) (.seq (.seq (.reg [⟨⟨some 6, Op.move (Operand.tmp 0), none⟩, []⟩,
  ⟨⟨some 7, Op.call { callee := (Callee.value (Operand.func 58)), args := #[(Operand.tmp 6)], argTypes := #[3] }, none⟩, []⟩,
  ⟨⟨some 8, Op.unOp UnOp.not 4 (Operand.tmp 7), none⟩, []⟩]) (.cond (Operand.tmp 8) (.seq (.reg [⟨⟨some 4, Op.assign (Operand.const (Value.bool false)), none⟩, []⟩,
  ⟨⟨some 5, Op.assign (Operand.const (Value.bool false)), none⟩, []⟩]) .ret) .skip)) (.seq (.reg [⟨⟨some 9, Op.move (Operand.tmp 0), none⟩, []⟩,
  ⟨⟨some 10, Op.move (Operand.tmp 1), none⟩, []⟩,
  ⟨⟨some 11, Op.call { callee := (Callee.value (Operand.func 77)), args := #[(Operand.tmp 9), (Operand.tmp 10)], argTypes := #[3, 34] }, none⟩, []⟩,
  ⟨⟨some 4, Op.assign (Operand.tmp 11), none⟩, []⟩,
  ⟨⟨some 5, Op.assign (Operand.const (Value.bool true)), none⟩, []⟩]) .ret)))
theorem sl17 : slim Tryz.f17.ntmps ords17 (Tryz.f17.body.getD .skip) = some cd17 := by kernel_rfl
theorem in17 {args : List Value} {H : AH} {R : Value → AH → Prop} (hl : args.length = 2) (h : ∀ (Q : Exit → Sl → AH → Prop), (∀ e s H, endA Tryz.prog [ResultVar.tmp 4, ResultVar.tmp 5] R e s H → Q e s H) → wpC Tryz.prog cd17 Q (enterA args) H) : ACalls Tryz.prog 17 args H R :=
  ACalls.intro (by kernel_rfl) Tryz.func17 rfl (by kernel_rfl) sl17 hl (of_decide_eq_true (by kernel_rfl)) (by kernel_rfl) h
end Go.Proofs.YtdgapefbbdfpbaaGreat.Ai
namespace Go.Proofs.YtdgapefbbdfpbaaGreat.Ai
open Go Go.RowKit
set_option linter.unusedVariables false
set_option linter.unusedSimpArgs false
theorem isTriS_c (n : Int) (v : Value) (xs : List Int) (H : AH) (hr : Row 3 H v xs) (hlen : xs.length ≤ 1099511627776) (hxs : ∀ y ∈ xs, I64 y) :
    ACalls Tryz.prog 18 [.int .i64 n, v] H fun r H' => r = .tuple (List.toArray [.bool (decide (3 ≤ n ∧ n ≤ 8) && triS n xs), .bool (decide (3 ≤ n ∧ n ≤ 8))]) ∧ H <+: H' := by
  refine in18 rfl ?_
  intro Q hQ
  simp (maxSteps := 1000000) (disch := omega) only [cd18, S, S1, S2, S3, S4, S5, ST, eq_self, reduceIte, reduceCtorEq, Nat.reduceEqDiff, Nat.reduceAdd]
  refine CallH.by (l8Corners_c ..) ?_
  rintro _ _ ⟨rfl, rfl⟩
  simp (maxSteps := 1000000) (disch := omega) only [S, S1, S2, S3, S4, S5, ST, eq_self, reduceIte, reduceCtorEq, Nat.reduceEqDiff, Nat.reduceAdd]
  refine brD.intro (fun h => ?_) (fun h => ?_) <;> simp (maxSteps := 1000000) (disch := omega) only [S, S1, S2, S3, S4, S5, ST, eq_self, reduceIte, reduceCtorEq, Nat.reduceEqDiff, Nat.reduceAdd]
  · refine CallH.by (l8Triangulates_c n v xs H (by omega) hr hlen hxs) ?_
    rintro _ H1 ⟨rfl, hp⟩
    simp (maxSteps := 1000000) (disch := omega) only [S, S1, S2, S3, S4, S5, ST, eq_self, reduceIte, reduceCtorEq, Nat.reduceEqDiff, Nat.reduceAdd]
    refine hQ _ _ _ ?_
    simp (maxSteps := 1000000) (disch := omega) only [h, Bool.true_and, S, S1, S2, S3, S4, S5, ST, eq_self, reduceIte, reduceCtorEq, Nat.reduceEqDiff, Nat.reduceAdd]
    exact hp
  · refine hQ _ _ _ ?_
    simp (maxSteps := 1000000) (disch := omega) only [h, Bool.false_and, S, S1, S2, S3, S4, S5, ST, eq_self, reduceIte, reduceCtorEq, Nat.reduceEqDiff, Nat.reduceAdd]
    exact List.prefix_refl _
theorem isTriI_c (n : Int) (v : Value) (xs : List Int) (H : AH) (hr : Row 3 H v xs) (hlen : xs.length ≤ 1099511627776) (hxs : ∀ y ∈ xs, I64 y) :
    ACalls Tryz.prog 17 [.int .i64 n, v] H fun r H' => r = .tuple (List.toArray [.bool (decide (3 ≤ n ∧ n ≤ 8) && triI n xs), .bool (decide (3 ≤ n ∧ n ≤ 8))]) ∧ H <+: H' := by
  refine in17 rfl ?_
  intro Q hQ
  simp (maxSteps := 1000000) (disch := omega) only [cd17, S, S1, S2, S3, S4, S5, ST, eq_self, reduceIte, reduceCtorEq, Nat.reduceEqDiff, Nat.reduceAdd]
  refine CallH.by (isPolygon_c ..) ?_
  rintro _ _ ⟨rfl, rfl⟩
  simp (maxSteps := 1000000) (disch := omega) only [S, S1, S2, S3, S4, S5, ST, eq_self, reduceIte, reduceCtorEq, Nat.reduceEqDiff, Nat.reduceAdd]
  refine brD.intro (fun h => ?_) (fun h => ?_) <;> simp (maxSteps := 1000000) (disch := omega) only [S, S1, S2, S3, S4, S5, ST, eq_self, reduceIte, reduceCtorEq, Nat.reduceEqDiff, Nat.reduceAdd]
  · refine CallH.by (isTriangulation_c n v xs H (by omega) hr hlen hxs) ?_
    rintro _ H1 ⟨rfl, hp⟩
    simp (maxSteps := 1000000) (disch := omega) only [S, S1, S2, S3, S4, S5, ST, eq_self, reduceIte, reduceCtorEq, Nat.reduceEqDiff, Nat.reduceAdd]
    refine hQ _ _ _ ?_
    simp (maxSteps := 1000000) (disch := omega) only [h, Bool.true_and, S, S1, S2, S3, S4, S5, ST, eq_self, reduceIte, reduceCtorEq, Nat.reduceEqDiff, Nat.reduceAdd]
    exact hp
  · refine hQ _ _ _ ?_
    simp (maxSteps := 1000000) (disch := omega) only [h, Bool.false_and, S, S1, S2, S3, S4, S5, ST, eq_self, reduceIte, reduceCtorEq, Nat.reduceEqDiff, Nat.reduceAdd]
    exact List.prefix_refl _
end Go.Proofs.YtdgapefbbdfpbaaGreat.Ai
namespace Go.Proofs.YtdgapefbbdfpbaaGreat.Ai
open Go
def ords92 : List (Nat × List (Nat × Bool)) := []
def cd92 : Cd := (.seq (.reg [⟨⟨some 4, Op.assign (Operand.const (Value.int IntKind.i64 0)), none⟩, []⟩]) (.seq (.seq (.reg [⟨⟨some 5, Op.move (Operand.tmp 0), none⟩, []⟩,
  ⟨⟨some 6, Op.move (Operand.tmp 1), none⟩, []⟩,
  ⟨⟨some 7, Op.binOp BinOp.lss 3 (Operand.tmp 5) (Operand.tmp 6) 3, none⟩, []⟩]) (.cond (Operand.tmp 7) (.seq (.reg [⟨⟨some 8, Op.move (Operand.tmp 0), none⟩, []⟩,
  ⟨⟨some 4, Op.assign (Operand.tmp 8), none⟩, []⟩]) .ret) .skip)) (.seq (.reg [⟨⟨some 9, Op.move (Operand.tmp 1), none⟩, []⟩,
  ⟨⟨some 4, Op.assign (Operand.tmp 9), none⟩, []⟩]) .ret)))
theorem sl92 : slim Tryz.f92.ntmps ords92 (Tryz.f92.body.getD .skip) = some cd92 := by kernel_rfl
theorem in92 {args : List Value} {H : AH} {R : Value → AH → Prop} (hl : args.length = 2) (h : ∀ (Q : Exit → Sl → AH → Prop), (∀ e s H, endA Tryz.prog [ResultVar.tmp 4] R e s H → Q e s H) → wpC Tryz.prog cd92 Q (enterA args) H) : ACalls Tryz.prog 92 args H R :=
  ACalls.intro (by kernel_rfl) Tryz.func92 rfl (by kernel_rfl) sl92 hl (of_decide_eq_true (by kernel_rfl)) (by kernel_rfl) h
end Go.Proofs.YtdgapefbbdfpbaaGreat.Ai
namespace Go.Proofs.YtdgapefbbdfpbaaGreat.Ai
open Go Go.RowKit
set_option linter.unusedVariables false
set_option linter.unusedSimpArgs false
theorem l1Least_c (a b : Int) (H : AH) : ACalls Tryz.prog 92 [.int .i64 a, .int .i64 b] H fun r H' => r = .int .i64 (if a < b then a else b) ∧ H = H' := by
  refine in92 rfl ?_
  intro Q hQ
  simp (maxSteps := 1000000) (disch := omega) only [cd92, S, S1, S2, S3, S4, S5, ST, eq_self, reduceIte, reduceCtorEq, Nat.reduceEqDiff, Nat.reduceAdd]
  refine brD.intro (fun h => ?_) (fun h => ?_) <;> simp (maxSteps := 1000000) (disch := omega) only [h, S, S1, S2, S3, S4, S5, ST, eq_self, reduceIte, reduceCtorEq, Nat.reduceEqDiff, Nat.reduceAdd] <;> refine hQ _ _ _ ?_ <;> simp (maxSteps := 1000000) (disch := omega) only [h, S, S1, S2, S3, S4, S5, ST, eq_self, reduceIte, reduceCtorEq, Nat.reduceEqDiff, Nat.reduceAdd]
end Go.Proofs.YtdgapefbbdfpbaaGreat.Ai
namespace Go.Proofs.YtdgapefbbdfpbaaGreat.Ai
open Go
def ords89 : List (Nat × List (Nat × Bool)) := []
def cd89 : Cd := (.seq (.reg [⟨⟨some 4, Op.alloc 96, none⟩, []⟩]) (.seq (.reg [⟨⟨some 5, Op.move (Operand.tmp 0), none⟩, []⟩,
  ⟨⟨some 6, Op.move (Operand.tmp 1), none⟩, []⟩,
  ⟨⟨some 7, Op.call { callee := (Callee.builtin Builtin.min), args := #[(Operand.tmp 5), (Operand.tmp 6)], argTypes := #[3, 3] }, none⟩, []⟩,
  ⟨⟨some 8, Op.move (Operand.tmp 0), none⟩, []⟩,
  ⟨⟨some 9, Op.move (Operand.tmp 1), none⟩, []⟩,
  ⟨⟨some 10, Op.call { callee := (Callee.builtin Builtin.max), args := #[(Operand.tmp 8), (Operand.tmp 9)], argTypes := #[3, 3] }, none⟩, []⟩,
  ⟨⟨some 11, Op.build 96 #[(0, (Operand.tmp 7)), (1, (Operand.tmp 10))], none⟩, []⟩,
  ⟨⟨none, Op.store 96 (Operand.tmp 4) (Operand.tmp 11), none⟩, []⟩]) .ret))
theorem sl89 : slim Tryz.f89.ntmps ords89 (Tryz.f89.body.getD .skip) = some cd89 := by kernel_rfl
set_option maxRecDepth 20000 in
theorem in89 {args : List Value} {H : AH} {R : Value → AH → Prop} (hl : args.length = 2) (h : ∀ (Q : Exit → Sl → AH → Prop), (∀ e s H, endA Tryz.prog [ResultVar.cell 4 96] R e s H → Q e s H) → wpC Tryz.prog cd89 Q (enterA args) H) : ACalls Tryz.prog 89 args H R :=
  ACalls.intro (by kernel_rfl) Tryz.func89 rfl (by kernel_rfl) sl89 hl (of_decide_eq_true (by kernel_rfl)) (by kernel_rfl) h
end Go.Proofs.YtdgapefbbdfpbaaGreat.Ai
namespace Go.Proofs.YtdgapefbbdfpbaaGreat.Ai
open Go Go.RowKit
set_option linter.unusedVariables false
set_option linter.unusedSimpArgs false
theorem pair_c (a b : Int) (H : AH) : ACalls Tryz.prog 89 [.int .i64 a, .int .i64 b] H fun r H' => r = .agg (List.toArray [.int .i64 (minI a b), .int .i64 (maxI a b)]) ∧ H <+: H' := by
  refine in89 rfl ?_
  intro Q hQ
  have st := store_a2 H [.int .i64 0, .int .i64 0] rfl
  simp (maxSteps := 1000000) (disch := omega) only [cd89, alloc_a2, build_a2, st, S, S1, S2, S3, S4, S5, ST, eq_self, reduceIte, reduceCtorEq, Nat.reduceEqDiff, Nat.reduceAdd]
  refine hQ _ _ _ (end_cell _ _ _ _ _ _ (.agg (List.toArray [.int .i64 (minI a b), .int .i64 (maxI a b)])) ?_ rfl ⟨rfl, List.prefix_append _ _⟩)
  simp only [S, S1, S2, S3, S4, S5, ST, eq_self, reduceIte, reduceCtorEq, Nat.reduceEqDiff, Nat.reduceAdd]
  exact load_a2 ..
end Go.Proofs.YtdgapefbbdfpbaaGreat.Ai
namespace Go.Proofs.YtdgapefbbdfpbaaGreat.Ai
open Go
def ords93 : List (Nat × List (Nat × Bool)) := []
def cd93 : Cd := (.seq (.reg [⟨⟨some 4, Op.assign (Operand.const (Value.int IntKind.i64 0)), none⟩, []⟩]) (.seq (.seq (.reg [⟨⟨some 5, Op.move (Operand.tmp 0), none⟩, []⟩,
  ⟨⟨some 6, Op.move (Operand.tmp 1), none⟩, []⟩,
  ⟨⟨some 7, Op.binOp BinOp.gtr 3 (Operand.tmp 5) (Operand.tmp 6) 3, none⟩, []⟩]) (.cond (Operand.tmp 7) (.seq (.reg [⟨⟨some 8, Op.move (Operand.tmp 0), none⟩, []⟩,
  ⟨⟨some 4, Op.assign (Operand.tmp 8), none⟩, []⟩]) .ret) .skip)) (.seq (.reg [⟨⟨some 9, Op.move (Operand.tmp 1), none⟩, []⟩,
  ⟨⟨some 4, Op.assign (Operand.tmp 9), none⟩, []⟩]) .ret)))
theorem sl93 : slim Tryz.f93.ntmps ords93 (Tryz.f93.body.getD .skip) = some cd93 := by kernel_rfl
theorem in93 {args : List Value} {H : AH} {R : Value → AH → Prop} (hl : args.length = 2) (h : ∀ (Q : Exit → Sl → AH → Prop), (∀ e s H, endA Tryz.prog [ResultVar.tmp 4] R e s H → Q e s H) → wpC Tryz.prog cd93 Q (enterA args) H) : ACalls Tryz.prog 93 args H R :=
  ACalls.intro (by kernel_rfl) Tryz.func93 rfl (by kernel_rfl) sl93 hl (of_decide_eq_true (by kernel_rfl)) (by kernel_rfl) h
def ords23 : List (Nat × List (Nat × Bool)) := [(7, [(0, false), (1, false), (2, false), (3, false), (4, false), (5, false), (6, false), (7, false), (8, false), (9, false), (10, false), (11, false)])]
def cd23 : Cd := (.seq (.reg [⟨⟨some 8, Op.assign (Operand.const (Value.slice none 0 0)), none⟩, []⟩,
  ⟨⟨some 9, Op.assign (Operand.const (Value.bool false)), none⟩, []⟩]) (.seq (.reg [⟨⟨some 14, Op.buildSlice 34 0 #[], none⟩, []⟩,
  ⟨⟨some 10, Op.assign (Operand.tmp 14), none⟩, []⟩]) (.seq (.seq (.reg [⟨⟨some 15, Op.move (Operand.tmp 0), none⟩, []⟩,
  ⟨⟨some 16, Op.move (Operand.tmp 1), none⟩, []⟩,
  ⟨⟨some 17, Op.call { callee := (Callee.value (Operand.func 78)), args := #[(Operand.tmp 15), (Operand.tmp 16)], argTypes := #[3, 34] }, none⟩, []⟩,
  ⟨⟨some 18, Op.unOp UnOp.not 4 (Operand.tmp 17), none⟩, []⟩,
  ⟨⟨some 19, Op.move (Operand.tmp 18), none⟩, []⟩,
  ⟨⟨some 20, Op.move (Operand.tmp 2), some (19, false)⟩, []⟩,
  ⟨⟨some 21, Op.move (Operand.tmp 0), some (19, false)⟩, []⟩,
  ⟨⟨some 22, Op.binOp BinOp.sub 3 (Operand.tmp 21) (Operand.const (Value.int IntKind.i64 1)) 3, some (19, false)⟩, []⟩,
  ⟨⟨some 23, Op.call { callee := (Callee.value (Operand.func 91)), args := #[(Operand.tmp 20), (Operand.const (Value.int IntKind.i64 0)), (Operand.tmp 22)], argTypes := #[3, 3, 3] }, some (19, false)⟩, []⟩,
  ⟨⟨some 24, Op.unOp UnOp.not 4 (Operand.tmp 23), some (19, false)⟩, []⟩,
  ⟨⟨some 25, Op.pick (Operand.tmp 19) (Operand.const (Value.bool true)) (Operand.tmp 24), none⟩, []⟩]) (.cond (Operand.tmp 25) (.seq (.reg [⟨⟨some 26, Op.move (Operand.tmp 10), none⟩, []⟩,
  ⟨⟨some 8, Op.assign (Operand.tmp 26), none⟩, []⟩,
  ⟨⟨some 9, Op.assign (Operand.const (Value.bool false)), none⟩, []⟩]) .ret) .skip)) (.seq (.seq (.reg [⟨⟨some 11, Op.assign (Operand.const (Value.int IntKind.i64 0)), none⟩, []⟩]) (.block 0 (.loop (.seq (.seq (.reg [⟨⟨some 27, Op.move (Operand.tmp 11), none⟩, []⟩,
  ⟨⟨some 28, Op.move (Operand.tmp 1), none⟩, []⟩,
  ⟨⟨some 29, Op.call { callee := (Callee.builtin Builtin.len), args := #[(Operand.tmp 28)], argTypes := #[34] }, none⟩, []⟩,
  ⟨⟨some 30, Op.binOp BinOp.lss 3 (Operand.tmp 27) (Operand.tmp 29) 3, none⟩, []⟩]) (.cond (Operand.tmp 30) .skip (.exit 0))) (.seq (.block 1 (.seq (.reg [⟨⟨some 33, Op.move (Operand.tmp 1), none⟩, []⟩,
  ⟨⟨some 34, Op.move (Operand.tmp 11), none⟩, []⟩,
  ⟨⟨some 35, Op.indexAddr 34 (Operand.tmp 33) (Operand.tmp 34), none⟩, []⟩,
  ⟨⟨some 36, Op.load 3 (Operand.tmp 35), none⟩, []⟩,
  ⟨⟨some 37, Op.binOp BinOp.quo 3 (Operand.tmp 36) (Operand.const (Value.int IntKind.i64 10)) 3, none⟩, []⟩,
  ⟨⟨some 38, Op.move (Operand.tmp 1), none⟩, []⟩,
  ⟨⟨some 39, Op.move (Operand.tmp 11), none⟩, []⟩,
  ⟨⟨some 40, Op.indexAddr 34 (Operand.tmp 38) (Operand.tmp 39), none⟩, []⟩,
  ⟨⟨some 41, Op.load 3 (Operand.tmp 40), none⟩, []⟩,
  ⟨⟨some 42, Op.binOp BinOp.rem 3 (Operand.tmp 41) (Operand.const (Value.int IntKind.i64 10)) 3, none⟩, []⟩,
  ⟨⟨some 12, Op.assign (Operand.tmp 37), none⟩, []⟩,
  ⟨⟨some 13, Op.assign (Operand.tmp 42), none⟩, []⟩]) (.seq (.seq (.reg [⟨⟨some 43, Op.move (Operand.tmp 3), none⟩, []⟩]) (.cond (Operand.tmp 43) (.seq (.reg [⟨⟨some 44, Op.move (Operand.tmp 0), none⟩, []⟩,
  ⟨⟨some 45, Op.binOp BinOp.sub 3 (Operand.tmp 44) (Operand.const (Value.int IntKind.i64 1)) 3, none⟩, []⟩,
  ⟨⟨some 46, Op.move (Operand.tmp 12), none⟩, []⟩,
  ⟨⟨some 47, Op.binOp BinOp.sub 3 (Operand.tmp 45) (Operand.tmp 46) 3, none⟩, []⟩,
  ⟨⟨some 12, Op.assign (Operand.tmp 47), none⟩, []⟩]) (.reg [⟨⟨some 48, Op.move (Operand.tmp 0), none⟩, []⟩,
  ⟨⟨some 49, Op.binOp BinOp.sub 3 (Operand.tmp 48) (Operand.const (Value.int IntKind.i64 1)) 3, none⟩, []⟩,
  ⟨⟨some 50, Op.move (Operand.tmp 13), none⟩, []⟩,
  ⟨⟨some 51, Op.binOp BinOp.sub 3 (Operand.tmp 49) (Operand.tmp 50) 3, none⟩, []⟩,
  ⟨⟨some 13, Op.assign (Operand.tmp 51), none⟩, []⟩])) .skip)) (.seq (.reg [⟨⟨some 52, Op.move (Operand.tmp 12), none⟩, []⟩,
  ⟨⟨some 53, Op.move (Operand.tmp 2), none⟩, []⟩,
  ⟨⟨some 54, Op.binOp BinOp.add 3 (Operand.tmp 52) (Operand.tmp 53) 3, none⟩, []⟩,
  ⟨⟨some 55, Op.move (Operand.tmp 0), none⟩, []⟩,
  ⟨⟨some 56, Op.binOp BinOp.rem 3 (Operand.tmp 54) (Operand.tmp 55) 3, none⟩, []⟩,
  ⟨⟨some 12, Op.assign (Operand.tmp 56), none⟩, []⟩]) (.seq (.reg [⟨⟨some 57, Op.move (Operand.tmp 13), none⟩, []⟩,
  ⟨⟨some 58, Op.move (Operand.tmp 2), none⟩, []⟩,
  ⟨⟨some 59, Op.binOp BinOp.add 3 (Operand.tmp 57) (Operand.tmp 58) 3, none⟩, []⟩,
  ⟨⟨some 60, Op.move (Operand.tmp 0), none⟩, []⟩,
  ⟨⟨some 61, Op.binOp BinOp.rem 3 (Operand.tmp 59) (Operand.tmp 60) 3, none⟩, []⟩,
  ⟨⟨some 13, Op.assign (Operand.tmp 61), none⟩, []⟩]) (.reg [⟨⟨some 62, Op.move (Operand.tmp 10), none⟩, []⟩,
  ⟨⟨some 63, Op.move (Operand.tmp 12), none⟩, []⟩,
  ⟨⟨some 64, Op.move (Operand.tmp 13), none⟩, []⟩,
  ⟨⟨some 65, Op.call { callee := (Callee.value (Operand.func 92)), args := #[(Operand.tmp 63), (Operand.tmp 64)], argTypes := #[3, 3] }, none⟩, []⟩,
  ⟨⟨some 66, Op.binOp BinOp.mul 3 (Operand.const (Value.int IntKind.i64 10)) (Operand.tmp 65) 3, none⟩, []⟩,
  ⟨⟨some 67, Op.move (Operand.tmp 12), none⟩, []⟩,
  ⟨⟨some 68, Op.move (Operand.tmp 13), none⟩, []⟩,
  ⟨⟨some 69, Op.call { callee := (Callee.value (Operand.func 93)), args := #[(Operand.tmp 67), (Operand.tmp 68)], argTypes := #[3, 3] }, none⟩, []⟩,
  ⟨⟨some 70, Op.binOp BinOp.add 3 (Operand.tmp 66) (Operand.tmp 69) 3, none⟩, []⟩,
  ⟨⟨some 71, Op.call { callee := (Callee.value (Operand.func 83)), args := #[(Operand.tmp 62), (Operand.tmp 70)], argTypes := #[34, 3] }, none⟩, []⟩,
  ⟨⟨some 10, Op.assign (Operand.tmp 71), none⟩, []⟩])))))) (.reg [⟨⟨some 31, Op.move (Operand.tmp 11), none⟩, []⟩,
  ⟨⟨some 32, Op.binOp BinOp.add 3 (Operand.tmp 31) (Operand.const (Value.int IntKind.i64 1)) 3, none⟩, []⟩,
  ⟨⟨some 11, Op.assign (Operand.tmp 32), none⟩, []⟩])))))) (.seq (.reg [⟨⟨some 72, Op.move (Operand.tmp 10), none⟩, []⟩,
  ⟨⟨some 8, Op.assign (Operand.tmp 72), none⟩, []⟩,
  ⟨⟨some 9, Op.assign (Operand.const (Value.bool true)), none⟩, []⟩]) .ret)))))
theorem sl23 : slim Tryz.f23.ntmps ords23 (Tryz.f23.body.getD .skip) = some cd23 := by kernel_rfl
theorem in23 {args : List Value} {H : AH} {R : Value → AH → Prop} (hl : args.length = 4) (h : ∀ (Q : Exit → Sl → AH → Prop), (∀ e s H, endA Tryz.prog [ResultVar.tmp 8, ResultVar.tmp 9] R e s H → Q e s H) → wpC Tryz.prog cd23 Q (enterA args) H) : ACalls Tryz.prog 23 args H R :=
  ACalls.intro (by kernel_rfl) Tryz.func23 rfl (by kernel_rfl) sl23 hl (of_decide_eq_true (by kernel_rfl)) (by kernel_rfl) h
def ords88 : List (Nat × List (Nat × Bool)) := []
def cd88 : Cd := (.seq (.reg [⟨⟨some 5, Op.assign (Operand.const (Value.int IntKind.i64 0)), none⟩, []⟩]) (.seq (.seq (.reg [⟨⟨some 6, Op.load 4 (Operand.tmp 1), none⟩, []⟩]) (.cond (Operand.tmp 6) (.reg [⟨⟨some 7, Op.load 3 (Operand.tmp 2), none⟩, []⟩,
  ⟨⟨some 8, Op.binOp BinOp.sub 3 (Operand.tmp 7) (Operand.const (Value.int IntKind.i64 1)) 3, none⟩, []⟩,
  ⟨⟨some 9, Op.move (Operand.tmp 0), none⟩, []⟩,
  ⟨⟨some 10, Op.binOp BinOp.sub 3 (Operand.tmp 8) (Operand.tmp 9) 3, none⟩, []⟩,
  ⟨⟨some 0, Op.assign (Operand.tmp 10), none⟩, []⟩]) .skip)) (.seq (.reg [⟨⟨some 11, Op.move (Operand.tmp 0), none⟩, []⟩,
  ⟨⟨some 12, Op.load 3 (Operand.tmp 3), none⟩, []⟩,
  ⟨⟨some 13, Op.binOp BinOp.add 3 (Operand.tmp 11) (Operand.tmp 12) 3, none⟩, []⟩,
  ⟨⟨some 14, Op.load 3 (Operand.tmp 2), none⟩, []⟩,
  ⟨⟨some 15, Op.binOp BinOp.rem 3 (Operand.tmp 13) (Operand.tmp 14) 3, none⟩, []⟩,
  ⟨⟨some 5, Op.assign (Operand.tmp 15), none⟩, []⟩]) .ret)))
theorem sl88 : slim Tryz.f88.ntmps ords88 (Tryz.f88.body.getD .skip) = some cd88 := by kernel_rfl
theorem in88 {args : List Value} {H : AH} {R : Value → AH → Prop} (hl : args.length = 4) (h : ∀ (Q : Exit → Sl → AH → Prop), (∀ e s H, endA Tryz.prog [ResultVar.tmp 5] R e s H → Q e s H) → wpC Tryz.prog cd88 Q (enterA args) H) : ACalls Tryz.prog 88 args H R :=
  ACalls.intro (by kernel_rfl) Tryz.func88 rfl (by kernel_rfl) sl88 hl (of_decide_eq_true (by kernel_rfl)) (by kernel_rfl) h
def ords22 : List (Nat × List (Nat × Bool)) := []
def cd22 : Cd := (.seq (.reg [⟨⟨some 4, Op.box 3 (Operand.tmp 0), none⟩, []⟩,
  ⟨⟨some 6, Op.box 3 (Operand.tmp 2), none⟩, []⟩,
  ⟨⟨some 7, Op.box 4 (Operand.tmp 3), none⟩, []⟩,
  ⟨⟨some 8, Op.assign (Operand.const (Value.slice none 0 0)), none⟩, []⟩,
  ⟨⟨some 9, Op.assign (Operand.const (Value.bool false)), none⟩, []⟩]) (.seq (.seq (.reg [⟨⟨some 15, Op.load 3 (Operand.tmp 4), none⟩, []⟩,
  ⟨⟨some 16, Op.move (Operand.tmp 1), none⟩, []⟩,
  ⟨⟨some 17, Op.buildSlice 25 1 #[(0, (Operand.tmp 16))], none⟩, []⟩,
  ⟨⟨some 18, Op.call { callee := (Callee.value (Operand.func 70)), args := #[(Operand.tmp 15), (Operand.tmp 17)], argTypes := #[3, 25] }, none⟩, []⟩,
  ⟨⟨some 19, Op.unOp UnOp.not 4 (Operand.tmp 18), none⟩, []⟩,
  ⟨⟨some 20, Op.move (Operand.tmp 19), none⟩, []⟩,
  ⟨⟨some 21, Op.load 3 (Operand.tmp 6), some (20, false)⟩, []⟩,
  ⟨⟨some 22, Op.load 3 (Operand.tmp 4), some (20, false)⟩, []⟩,
  ⟨⟨some 23, Op.binOp BinOp.sub 3 (Operand.tmp 22) (Operand.const (Value.int IntKind.i64 1)) 3, some (20, false)⟩, []⟩,
  ⟨⟨some 24, Op.call { callee := (Callee.value (Operand.func 87)), args := #[(Operand.tmp 21), (Operand.const (Value.int IntKind.i64 0)), (Operand.tmp 23)], argTypes := #[3, 3, 3] }, some (20, false)⟩, []⟩,
  ⟨⟨some 25, Op.unOp UnOp.not 4 (Operand.tmp 24), some (20, false)⟩, []⟩,
  ⟨⟨some 26, Op.pick (Operand.tmp 20) (Operand.const (Value.bool true)) (Operand.tmp 25), none⟩, []⟩]) (.cond (Operand.tmp 26) (.seq (.reg [⟨⟨some 8, Op.assign (Operand.const (Value.slice none 0 0)), none⟩, []⟩,
  ⟨⟨some 9, Op.assign (Operand.const (Value.bool false)), none⟩, []⟩]) .ret) .skip)) (.seq (.reg [⟨⟨some 27, Op.makeFunc (Fn.func 88) #[] #[(Operand.tmp 7), (Operand.tmp 4), (Operand.tmp 6)], none⟩, []⟩,
  ⟨⟨some 10, Op.assign (Operand.tmp 27), none⟩, []⟩]) (.seq (.reg [⟨⟨some 28, Op.buildSlice 34 0 #[], none⟩, []⟩,
  ⟨⟨some 11, Op.assign (Operand.tmp 28), none⟩, []⟩]) (.seq (.seq (.reg [⟨⟨some 29, Op.move (Operand.tmp 1), none⟩, []⟩,
  ⟨⟨some 30, Op.call { callee := (Callee.builtin Builtin.len), args := #[(Operand.tmp 29)], argTypes := #[34] }, none⟩, []⟩,
  ⟨⟨some 31, Op.move (Operand.const (Value.int IntKind.i64 0)), none⟩, []⟩]) (.block 0 (.loop (.seq (.reg [⟨⟨some 32, Op.binOp BinOp.lss 3 (Operand.tmp 31) (Operand.tmp 30) 3, none⟩, []⟩]) (.seq (.cond (Operand.tmp 32) .skip (.exit 0)) (.seq (.block 1 (.seq (.reg [⟨⟨some 33, Op.indexAddr 34 (Operand.tmp 29) (Operand.tmp 31), none⟩, []⟩,
  ⟨⟨some 34, Op.load 3 (Operand.tmp 33), none⟩, []⟩,
  ⟨⟨some 13, Op.assign (Operand.tmp 34), none⟩, []⟩]) (.seq (.reg [⟨⟨some 35, Op.move (Operand.tmp 10), none⟩, []⟩,
  ⟨⟨some 36, Op.move (Operand.tmp 13), none⟩, []⟩,
  ⟨⟨some 37, Op.binOp BinOp.quo 3 (Operand.tmp 36) (Operand.const (Value.int IntKind.i64 10)) 3, none⟩, []⟩,
  ⟨⟨some 38, Op.call { callee := (Callee.value (Operand.tmp 35)), args := #[(Operand.tmp 37)], argTypes := #[3] }, none⟩, []⟩,
  ⟨⟨some 39, Op.move (Operand.tmp 10), none⟩, []⟩,
  ⟨⟨some 40, Op.move (Operand.tmp 13), none⟩, []⟩,
  ⟨⟨some 41, Op.binOp BinOp.rem 3 (Operand.tmp 40) (Operand.const (Value.int IntKind.i64 10)) 3, none⟩, []⟩,
  ⟨⟨some 42, Op.call { callee := (Callee.value (Operand.tmp 39)), args := #[(Operand.tmp 41)], argTypes := #[3] }, none⟩, []⟩,
  ⟨⟨some 43, Op.call { callee := (Callee.value (Operand.func 89)), args := #[(Operand.tmp 38), (Operand.tmp 42)], argTypes := #[3, 3] }, none⟩, []⟩,
  ⟨⟨some 14, Op.alloc 96, none⟩, []⟩,
  ⟨⟨none, Op.store 96 (Operand.tmp 14) (Operand.tmp 43), none⟩, []⟩]) (.reg [⟨⟨some 44, Op.move (Operand.tmp 11), none⟩, []⟩,
  ⟨⟨some 45, Op.indexAddr 96 (Operand.tmp 14) (Operand.const (Value.int IntKind.i64 0)), none⟩, []⟩,
  ⟨⟨some 46, Op.load 3 (Operand.tmp 45), none⟩, []⟩,
  ⟨⟨some 47, Op.binOp BinOp.mul 3 (Operand.const (Value.int IntKind.i64 10)) (Operand.tmp 46) 3, none⟩, []⟩,
  ⟨⟨some 48, Op.indexAddr 96 (Operand.tmp 14) (Operand.const (Value.int IntKind.i64 1)), none⟩, []⟩,
  ⟨⟨some 49, Op.load 3 (Operand.tmp 48), none⟩, []⟩,
  ⟨⟨some 50, Op.binOp BinOp.add 3 (Operand.tmp 47) (Operand.tmp 49) 3, none⟩, []⟩,
  ⟨⟨some 51, Op.buildSlice 34 1 #[(0, (Operand.tmp 50))], none⟩, []⟩,
  ⟨⟨some 52, Op.call { callee := (Callee.builtin Builtin.append), args := #[(Operand.tmp 44), (Operand.tmp 51)], argTypes := #[34, 34] }, none⟩, []⟩,
  ⟨⟨some 11, Op.assign (Operand.tmp 52), none⟩, []⟩])))) (.reg [⟨⟨some 53, Op.binOp BinOp.add 3 (Operand.tmp 31) (Operand.const (Value.int IntKind.i64 1)) 3, none⟩, []⟩,
  ⟨⟨some 31, Op.move (Operand.tmp 53), none⟩, []⟩]))))))) (.seq (.reg [⟨⟨some 54, Op.move (Operand.tmp 11), none⟩, []⟩,
  ⟨⟨some 55, Op.call { callee := (Callee.value (Operand.func 90)), args := #[(Operand.tmp 54)], argTypes := #[34] }, none⟩, []⟩]) (.seq (.reg [⟨⟨some 56, Op.move (Operand.tmp 11), none⟩, []⟩,
  ⟨⟨some 8, Op.assign (Operand.tmp 56), none⟩, []⟩,
  ⟨⟨some 9, Op.assign (Operand.const (Value.bool true)), none⟩, []⟩]) .ret)))))))
theorem sl22 : slim Tryz.f22.ntmps ords22 (Tryz.f22.body.getD .skip) = some cd22 := by kernel_rfl
theorem in22 {args : List Value} {H : AH} {R : Value → AH → Prop} (hl : args.length = 4) (h : ∀ (Q : Exit → Sl → AH → Prop), (∀ e s H, endA Tryz.prog [ResultVar.tmp 8, ResultVar.tmp 9] R e s H → Q e s H) → wpC Tryz.prog cd22 Q (enterA args) H) : ACalls Tryz.prog 22 args H R :=
  ACalls.intro (by kernel_rfl) Tryz.func22 rfl (by kernel_rfl) sl22 hl (of_decide_eq_true (by kernel_rfl)) (by kernel_rfl) h
end Go.Proofs.YtdgapefbbdfpbaaGreat.Ai
namespace Go.Proofs.YtdgapefbbdfpbaaGreat.Ai
open Go Go.RowKit
set_option linter.unusedVariables false
set_option linter.unusedSimpArgs false
theorem l1Most_c (a b : Int) (H : AH) : ACalls Tryz.prog 93 [.int .i64 a, .int .i64 b] H fun r H' => r = .int .i64 (if b < a then a else b) ∧ H = H' := by
  refine in93 rfl ?_
  intro Q hQ
  simp (maxSteps := 1000000) (disch := omega) only [cd93, S, S1, S2, S3, S4, S5, ST, eq_self, reduceIte, reduceCtorEq, Nat.reduceEqDiff, Nat.reduceAdd]
  refine brD.intro (fun h => ?_) (fun h => ?_) <;> simp (maxSteps := 1000000) (disch := omega) only [h, S, S1, S2, S3, S4, S5, ST, eq_self, reduceIte, reduceCtorEq, Nat.reduceEqDiff, Nat.reduceAdd] <;> refine hQ _ _ _ ?_ <;> simp (maxSteps := 1000000) (disch := omega) only [h, S, S1, S2, S3, S4, S5, ST, eq_self, reduceIte, reduceCtorEq, Nat.reduceEqDiff, Nat.reduceAdd]
theorem map_take_succ (f : Int → Int) (xs : List Int) (i : Nat) (hi : i < xs.length) : (xs.take (i + 1)).map f = (xs.take i).map f ++ [f (xs.getD i 0)] := by
  rw [List.take_add_one, List.getElem?_eq_getElem hi, List.map_append]
  simp [hi]
set_option maxHeartbeats 4000000 in
theorem TurnS_c (n b : Int) (mir : Bool) (v : Value) (xs : List Int) (H : AH) (hr : Row 3 H v xs) (hlen : xs.length ≤ 1099511627776) (hxs : ∀ y ∈ xs, I64 y) :
    ACalls Tryz.prog 23 [.int .i64 n, v, .int .i64 b, .bool mir] H fun r H' => ∃ g, r = .tuple (List.toArray [g, .bool (decide (turnOk n xs b))]) ∧ Mine 3 H H' g (turnR n xs b mir) ∧ H <+: H' := by
  refine in23 rfl ?_
  intro Q hQ
  have hp0 := List.prefix_append H [AObj.cells [] 3 false]
  have hown0 : Own 3 H (H ++ [AObj.cells [] 3 false]) (.slice (some ⟨H.length, 0, none⟩) 0 0) [] := .inr ⟨H.length, rfl, Nat.le_refl _, at_new ..⟩
  have no : ¬ turnOk n xs b → turnR n xs b mir = [] := fun h => if_neg h
  simp (maxSteps := 1000000) (disch := omega) only [cd23, S, S1, S2, S3, S4, S5, ST, eq_self, reduceIte, reduceCtorEq, Nat.reduceEqDiff, Nat.reduceAdd]
  refine CallH.by (valid_c n v xs _ (hr.pre hp0) hlen hxs) ?_
  rintro _ H1 ⟨rfl, hp1⟩
  have hp := hp0.trans hp1
  simp (maxSteps := 1000000) (disch := omega) only [S, S1, S2, S3, S4, S5, ST, eq_self, reduceIte, reduceCtorEq, Nat.reduceEqDiff, Nat.reduceAdd]
  refine brD.intro (fun ha => ?_) (fun ha => ?_) <;> simp (maxSteps := 1000000) (disch := omega) only [ha, S, S1, S2, S3, S4, S5, ST, eq_self, reduceIte, reduceCtorEq, Nat.reduceEqDiff, Nat.reduceAdd]
  · have hn := ha.1
    have hln := ha.len
    simp (maxSteps := 1000000) (disch := omega) only [wrap64, S, S1, S2, S3, S4, S5, ST, eq_self, reduceIte, reduceCtorEq, Nat.reduceEqDiff, Nat.reduceAdd]
    refine CallH.by (l1In_c ..) ?_
    rintro _ _ ⟨rfl, rfl⟩
    simp (maxSteps := 1000000) (disch := omega) only [ha, S, S1, S2, S3, S4, S5, ST, eq_self, reduceIte, reduceCtorEq, Nat.reduceEqDiff, Nat.reduceAdd]
    refine brD.intro (fun hb => ?_) (fun hb => ?_) <;> simp (maxSteps := 1000000) (disch := omega) only [ha, hb, S, S1, S2, S3, S4, S5, ST, eq_self, reduceIte, reduceCtorEq, Nat.reduceEqDiff, Nat.reduceAdd]
    · have hok : turnOk n xs b := ⟨ha, hb⟩
      have hnd := trn_list (mir := mir) ha hb
      have hre : turnR n xs b mir = puts (xs.map (trnD n b mir)) := if_pos hok
      refine LoopH.by (fun m s H' => ∃ i, m + i = xs.length ∧ s 0 = .int .i64 n ∧ s 1 = v ∧ s 2 = .int .i64 b ∧ s 3 = .bool mir ∧ s 11 = .int .i64 ((i : Nat) : Int) ∧ Own 3 H H' (s 10) (puts ((xs.take i).map (trnD n b mir))) ∧ H <+: H') xs.length ?_ ?_
      · refine ⟨0, by simp, rfl, rfl, rfl, rfl, rfl, ?_, hp⟩
        simp (maxSteps := 1000000) (disch := omega) only [S, S1, S2, S3, S4, S5, ST, eq_self, reduceIte, reduceCtorEq, Nat.reduceEqDiff, Nat.reduceAdd]; exact hown0.pre hp1
      · rintro m s H' ⟨i, hm, h0, h1, h2, h3, h11, hown, hpp⟩
        have hr' := hr.pre hpp
        have we : xs.length ≤ i → puts (xs.map (trnD n b mir)) = puts ((xs.take i).map (trnD n b mir)) := fun h => by rw [List.take_of_length_le h]
        have step : ∀ hi : i < xs.length, puts ((xs.take (i + 1)).map (trnD n b mir)) = put (puts ((xs.take i).map (trnD n b mir))) (trnD n b mir (xs.getD i 0)) ∧ trnD n b mir (xs.getD i 0) ∉ puts ((xs.take i).map (trnD n b mir)) ∧ (puts ((xs.take i).map (trnD n b mir))).length = i := by
          intro hi
          have e := map_take_succ (trnD n b mir) xs i hi
          have nd1 : ((xs.take (i + 1)).map (trnD n b mir)).Nodup := by
            have : (xs.take (i + 1)).map (trnD n b mir) = (xs.map (trnD n b mir)).take (i + 1) := by rw [List.map_take]
            rw [this]; exact hnd.sublist (List.take_sublist _ _)
          rw [e] at nd1
          have nd2 := List.nodup_append.1 nd1
          have pp := (puts_perm _ _ rfl nd2.1).1
          refine ⟨by rw [e, puts_step], fun hm => nd2.2.2 _ (pp.mem_iff.1 hm) _ (by simp) rfl, by rw [pp.length_eq]; simp; omega⟩
        generalize hL : puts ((xs.take i).map (trnD n b mir)) = L at *
        generalize hw : s 10 = w at *
        simp (maxSteps := 1000000) (disch := omega) only [h0, h1, h2, h3, h11, hw, hr'.len Tryz.underlying34, S, S1, S2, S3, S4, S5, ST, eq_self, reduceIte, reduceCtorEq, Nat.reduceEqDiff, Nat.reduceAdd]
        refine brD.intro (fun g => ?_) (fun g => ?_)
        · have hi : i < xs.length := by omega
          obtain ⟨st1, st2, st3⟩ := step hi
          have hx : xs.getD i 0 = xs[i] := by simp [hi]
          have hmem : xs.getD i 0 ∈ xs := by rw [hx]; exact List.getElem_mem hi
          have hd := hxs _ hmem
          obtain ⟨c1, c2⟩ := corner_bd ha hmem
          have t1 := trnC_bd (mir := mir) hn hb c1
          have t2 := trnC_bd (mir := mir) hn hb c2
          have tD := trnD_bd (mir := mir) ha hmem hb
          have key : trnD n b mir (xs.getD i 0) = 10 * (if trnC n b mir ((xs.getD i 0).tdiv 10) < trnC n b mir ((xs.getD i 0).tmod 10) then trnC n b mir ((xs.getD i 0).tdiv 10) else trnC n b mir ((xs.getD i 0).tmod 10)) + (if trnC n b mir ((xs.getD i 0).tmod 10) < trnC n b mir ((xs.getD i 0).tdiv 10) then trnC n b mir ((xs.getD i 0).tdiv 10) else trnC n b mir ((xs.getD i 0).tmod 10)) := rfl
          simp (maxSteps := 1000000) (disch := omega) only [h0, h1, h2, h3, h11, hw, hr'.ix Tryz.underlying34 cs3, hr'.cell, Int.toNat_natCast, hd.tdiv, wrap64, S, S1, S2, S3, S4, S5, ST, eq_self, reduceIte, reduceCtorEq, Nat.reduceEqDiff, Nat.reduceAdd]
          generalize hA : (xs.getD i 0).tdiv 10 = A at *
          generalize hB : (xs.getD i 0).tmod 10 = B at *
          have hX : ∃ X, (if trnC n b mir A < trnC n b mir B then trnC n b mir A else trnC n b mir B) = X ∧ 0 ≤ X ∧ X ≤ 8 := ⟨_, rfl, by split <;> omega, by split <;> omega⟩
          have hY : ∃ Y, (if trnC n b mir B < trnC n b mir A then trnC n b mir A else trnC n b mir B) = Y ∧ 0 ≤ Y ∧ Y ≤ 8 := ⟨_, rfl, by split <;> omega, by split <;> omega⟩
          obtain ⟨X, hX, bX0, bX1⟩ := hX
          obtain ⟨Y, hY, bY0, bY1⟩ := hY
          rw [hX, hY] at key
          refine brH.intro (fun y => ?_) (fun y => ?_)
          · have e1 : (n - 1 - A + b).tmod n = trnC n b mir A := by unfold trnC; rw [if_pos y]
            have e2 : (n - 1 - B + b).tmod n = trnC n b mir B := by unfold trnC; rw [if_pos y]
            simp (maxSteps := 1000000) (disch := omega) only [h0, h1, h2, h3, h11, hw, wrap64, e1, e2, S, S1, S2, S3, S4, S5, ST, eq_self, reduceIte, reduceCtorEq, Nat.reduceEqDiff, Nat.reduceAdd]
            refine CallH.by (l1Least_c ..) ?_
            rintro _ _ ⟨rfl, rfl⟩
            simp (maxSteps := 1000000) (disch := omega) only [hX, wrap64, S, S1, S2, S3, S4, S5, ST, eq_self, reduceIte, reduceCtorEq, Nat.reduceEqDiff, Nat.reduceAdd]
            refine CallH.by (l1Most_c ..) ?_
            rintro _ _ ⟨rfl, rfl⟩
            simp (maxSteps := 1000000) (disch := omega) only [hX, hY, wrap64, h0, h1, h2, h3, h11, hw, S, S1, S2, S3, S4, S5, ST, eq_self, reduceIte, reduceCtorEq, Nat.reduceEqDiff, Nat.reduceAdd]
            rw [← key]
            refine CallH.by (l1Put_c w L _ H' hown.row (by omega) st2) ?_
            rintro w' H2 ⟨hown2, hp2⟩
            have hown3 := hown2.base hpp
            have hp3 := hpp.trans hp2
            simp (maxSteps := 1000000) (disch := omega) only [h0, h1, h2, h3, h11, wrap64, S, S1, S2, S3, S4, S5, ST, eq_self, reduceIte, reduceCtorEq, Nat.reduceEqDiff, Nat.reduceAdd]
            refine ⟨m - 1, by omega, i + 1, ?_⟩
            rw [st1]
            (repeat' apply And.intro) <;> first | exact hown3 | exact hp3 | (simp only [Value.int.injEq, true_and]; omega) | omega | rfl | assumption | (simp; done) | (simp; omega)
          · have e1 : (A + b).tmod n = trnC n b mir A := by unfold trnC; rw [if_neg (by rw [y]; decide)]
            have e2 : (B + b).tmod n = trnC n b mir B := by unfold trnC; rw [if_neg (by rw [y]; decide)]
            simp (maxSteps := 1000000) (disch := omega) only [h0, h1, h2, h3, h11, hw, wrap64, e1, e2, S, S1, S2, S3, S4, S5, ST, eq_self, reduceIte, reduceCtorEq, Nat.reduceEqDiff, Nat.reduceAdd]
            refine CallH.by (l1Least_c ..) ?_
            rintro _ _ ⟨rfl, rfl⟩
            simp (maxSteps := 1000000) (disch := omega) only [hX, wrap64, S, S1, S2, S3, S4, S5, ST, eq_self, reduceIte, reduceCtorEq, Nat.reduceEqDiff, Nat.reduceAdd]
            refine CallH.by (l1Most_c ..) ?_
            rintro _ _ ⟨rfl, rfl⟩
            simp (maxSteps := 1000000) (disch := omega) only [hX, hY, wrap64, h0, h1, h2, h3, h11, hw, S, S1, S2, S3, S4, S5, ST, eq_self, reduceIte, reduceCtorEq, Nat.reduceEqDiff, Nat.reduceAdd]
            rw [← key]
            refine CallH.by (l1Put_c w L _ H' hown.row (by omega) st2) ?_
            rintro w' H2 ⟨hown2, hp2⟩
            have hown3 := hown2.base hpp
            have hp3 := hpp.trans hp2
            simp (maxSteps := 1000000) (disch := omega) only [h0, h1, h2, h3, h11, wrap64, S, S1, S2, S3, S4, S5, ST, eq_self, reduceIte, reduceCtorEq, Nat.reduceEqDiff, Nat.reduceAdd]
            refine ⟨m - 1, by omega, i + 1, ?_⟩
            rw [st1]
            (repeat' apply And.intro) <;> first | exact hown3 | exact hp3 | (simp only [Value.int.injEq, true_and]; omega) | omega | rfl | assumption | (simp; done) | (simp; omega)
        · simp (maxSteps := 1000000) (disch := omega) only [h0, h1, h2, h3, h11, hw, S, S1, S2, S3, S4, S5, ST, eq_self, reduceIte, reduceCtorEq, Nat.reduceEqDiff, Nat.reduceAdd]
          refine hQ _ _ _ ?_
          simp (maxSteps := 1000000) (disch := omega) only [hw, hown.row.tup, S, S1, S2, S3, S4, S5, ST, eq_self, reduceIte, reduceCtorEq, Nat.reduceEqDiff, Nat.reduceAdd]
          rw [hre, we (by omega)]
          exact ⟨w, by simp [hok], hown.mine, hpp⟩
    · refine hQ _ _ _ ?_
      simp (maxSteps := 1000000) (disch := omega) only [S, S1, S2, S3, S4, S5, ST, eq_self, reduceIte, reduceCtorEq, Nat.reduceEqDiff, Nat.reduceAdd]
      have hh : ¬ turnOk n xs b := fun h => hb h.2
      rw [no hh]
      exact ⟨_, by simp [hh], (hown0.pre hp1).mine, hp⟩
  · refine hQ _ _ _ ?_
    simp (maxSteps := 1000000) (disch := omega) only [S, S1, S2, S3, S4, S5, ST, eq_self, reduceIte, reduceCtorEq, Nat.reduceEqDiff, Nat.reduceAdd]
    have hh : ¬ turnOk n xs b := fun h => ha h.1
    rw [no hh]
    exact ⟨_, by simp [hh], (hown0.pre hp1).mine, hp⟩
theorem mkf_3 (f : FuncId) (p q r : Addr) : makeFuncA (.func f) [] [.pointer (some p), .pointer (some q), .pointer (some r)] = some (.func (.func f) #[] (List.toArray [.pointer (some p), .pointer (some q), .pointer (some r)])) := rfl
theorem box_bool (H : AH) (x : Bool) : boxA Tryz.prog 4 (.bool x) H = some (.pointer (some ⟨H.length, 0, none⟩), H ++ [.cells [.bool x] 4 false]) := by kernel_rfl
theorem min_max (x y : Int) : 10 * (if x < y then x else y) + (if y < x then x else y) = 10 * minI x y + maxI x y := by
  unfold minI maxI
  by_cases h1 : x < y
  · have h2 : ¬ y < x := by omega
    have h3 : y > x := h1
    rw [if_pos h1, if_neg h2, if_neg h2, if_pos h3]
  · by_cases h2 : y < x
    · have h3 : ¬ y > x := h1
      rw [if_neg h1, if_pos h2, if_pos h2, if_neg h3]
    · have h3 : ¬ y > x := h1
      rw [if_neg h1, if_neg h2, if_neg h2, if_neg h3]; omega
theorem turnClos_c (n b x : Int) (mir : Bool) (p q r : Nat) (H : AH) (hn : 3 ≤ n ∧ n ≤ 8) (hb : 0 ≤ b ∧ b ≤ n - 1) (hx : 0 ≤ x ∧ x ≤ n - 1) (hp : cellA H p 0 = some (.bool mir)) (hq : cellA H q 0 = some (.int .i64 n)) (hr : cellA H r 0 = some (.int .i64 b)) :
    ACalls Tryz.prog 88 [.int .i64 x, .pointer (some ⟨p, 0, none⟩), .pointer (some ⟨q, 0, none⟩), .pointer (some ⟨r, 0, none⟩)] H fun v H' => v = .int .i64 (trnC n b mir x) ∧ H = H' := by
  refine in88 rfl ?_
  intro Q hQ
  simp (maxSteps := 1000000) (disch := omega) only [cd88, hp, hq, hr, S, S1, S2, S3, S4, S5, ST, eq_self, reduceIte, reduceCtorEq, Nat.reduceEqDiff, Nat.reduceAdd]
  refine brH.intro (fun y => ?_) (fun y => ?_)
  · have e1 : (n - 1 - x + b).tmod n = trnC n b mir x := by unfold trnC; rw [if_pos y]
    simp (maxSteps := 1000000) (disch := omega) only [hp, hq, hr, wrap64, e1, S, S1, S2, S3, S4, S5, ST, eq_self, reduceIte, reduceCtorEq, Nat.reduceEqDiff, Nat.reduceAdd]
    refine hQ _ _ _ ?_
    simp (maxSteps := 1000000) (disch := omega) only [S, S1, S2, S3, S4, S5, ST, eq_self, reduceIte, reduceCtorEq, Nat.reduceEqDiff, Nat.reduceAdd]
  · have e1 : (x + b).tmod n = trnC n b mir x := by unfold trnC; rw [if_neg (by rw [y]; decide)]
    simp (maxSteps := 1000000) (disch := omega) only [hp, hq, hr, wrap64, e1, S, S1, S2, S3, S4, S5, ST, eq_self, reduceIte, reduceCtorEq, Nat.reduceEqDiff, Nat.reduceAdd]
    refine hQ _ _ _ ?_
    simp (maxSteps := 1000000) (disch := omega) only [S, S1, S2, S3, S4, S5, ST, eq_self, reduceIte, reduceCtorEq, Nat.reduceEqDiff, Nat.reduceAdd]
set_option maxRecDepth 20000 in
set_option maxHeartbeats 4000000 in
theorem TurnI_c (n b : Int) (mir : Bool) (v : Value) (xs : List Int) (H : AH) (hr : Row 3 H v xs) (hlen : xs.length ≤ 1099511627776) (hxs : ∀ y ∈ xs, I64 y) :
    ACalls Tryz.prog 22 [.int .i64 n, v, .int .i64 b, .bool mir] H fun r H' => ∃ g, r = .tuple (List.toArray [g, .bool (decide (turnOk n xs b))]) ∧ Mine 3 H H' g (turnR n xs b mir) ∧ H <+: H' := by
  refine in22 rfl ?_
  intro Q hQ
  have no : ¬ turnOk n xs b → turnR n xs b mir = [] := fun h => if_neg h
  obtain ⟨pv, ev⟩ := hr.shape
  subst ev
  have q4 : (H ++ [AObj.cells [.int .i64 n] 3 false] ++ [AObj.cells [.int .i64 b] 3 false] ++ [AObj.cells [.bool mir] 4 false])[H.length]? = some (.cells [.int .i64 n] 3 false) := at_app (at_app (at_new ..) _) _
  have q6 : (H ++ [AObj.cells [.int .i64 n] 3 false] ++ [AObj.cells [.int .i64 b] 3 false] ++ [AObj.cells [.bool mir] 4 false])[(H ++ [AObj.cells [.int .i64 n] 3 false]).length]? = some (.cells [.int .i64 b] 3 false) := at_app (at_new ..) _
  have q7 : (H ++ [AObj.cells [.int .i64 n] 3 false] ++ [AObj.cells [.int .i64 b] 3 false] ++ [AObj.cells [.bool mir] 4 false])[(H ++ [AObj.cells [.int .i64 n] 3 false] ++ [AObj.cells [.int .i64 b] 3 false]).length]? = some (.cells [.bool mir] 4 false) := at_new ..
  have hp3 : H <+: H ++ [AObj.cells [.int .i64 n] 3 false] ++ [AObj.cells [.int .i64 b] 3 false] ++ [AObj.cells [.bool mir] 4 false] := pre_app (pre_app (List.prefix_append _ _) _) _
  have cellp : ∀ {H1 H' : AH} {o : Nat} {x : Value} {t : TypeId}, H1 <+: H' → H1[o]? = some (.cells [x] t false) → cellA H' o 0 = some x := by
    intro H1 H' o x t hp h
    rw [cell_of (pre_at hp h)]; rfl
  have c4 := cellp (List.prefix_refl _) q4
  simp (maxSteps := 1000000) (disch := omega) only [cd22, box_int, box_bool, c4, S, S1, S2, S3, S4, S5, ST, eq_self, reduceIte, reduceCtorEq, Nat.reduceEqDiff, Nat.reduceAdd]
  generalize hv : Value.slice pv xs.length xs.length = v at *
  generalize (H ++ [AObj.cells [.int .i64 n] 3 false]).length = o6 at *
  generalize (H ++ [AObj.cells [.int .i64 n] 3 false] ++ [AObj.cells [.int .i64 b] 3 false]).length = o7 at *
  generalize H ++ [AObj.cells [.int .i64 n] 3 false] ++ [AObj.cells [.int .i64 b] 3 false] ++ [AObj.cells [.bool mir] 4 false] = H3 at *
  refine CallH.by (are1_c n v xs _ _ H3 rfl rfl (hr.pre hp3) hlen hxs) ?_
  rintro _ H4 ⟨rfl, hp4⟩
  have hp34 : H3 <+: H4 := (List.prefix_append _ _).trans hp4
  simp (maxSteps := 1000000) (disch := omega) only [S, S1, S2, S3, S4, S5, ST, eq_self, reduceIte, reduceCtorEq, Nat.reduceEqDiff, Nat.reduceAdd]
  refine brD.intro (fun ha => ?_) (fun ha => ?_) <;> simp (maxSteps := 1000000) (disch := omega) only [ha, cellp hp34 q4, cellp hp34 q6, S, S1, S2, S3, S4, S5, ST, eq_self, reduceIte, reduceCtorEq, Nat.reduceEqDiff, Nat.reduceAdd]
  · have hn := ha.1
    have hln := ha.len
    simp (maxSteps := 1000000) (disch := omega) only [wrap64, S, S1, S2, S3, S4, S5, ST, eq_self, reduceIte, reduceCtorEq, Nat.reduceEqDiff, Nat.reduceAdd]
    refine CallH.by (between_c ..) ?_
    rintro _ _ ⟨rfl, rfl⟩
    simp (maxSteps := 1000000) (disch := omega) only [ha, S, S1, S2, S3, S4, S5, ST, eq_self, reduceIte, reduceCtorEq, Nat.reduceEqDiff, Nat.reduceAdd]
    refine brD.intro (fun hb => ?_) (fun hb => ?_) <;> simp (maxSteps := 1000000) (disch := omega) only [ha, hb, mkf_3, S, S1, S2, S3, S4, S5, ST, eq_self, reduceIte, reduceCtorEq, Nat.reduceEqDiff, Nat.reduceAdd]
    · have hok : turnOk n xs b := ⟨ha, hb⟩
      have hnd := trn_list (mir := mir) ha hb
      have hre : turnR n xs b mir = puts (xs.map (trnD n b mir)) := if_pos hok
      have hr4 := hr.pre (hp3.trans hp34)
      have hr5 := hr4.pre (List.prefix_append H4 [AObj.cells [] 3 false])
      simp (maxSteps := 1000000) (disch := omega) only [hr5.len Tryz.underlying34, S, S1, S2, S3, S4, S5, ST, eq_self, reduceIte, reduceCtorEq, Nat.reduceEqDiff, Nat.reduceAdd]
      have hown0 : Own 3 H3 (H4 ++ [AObj.cells [] 3 false]) (.slice (some ⟨H4.length, 0, none⟩) 0 0) [] := .inr ⟨H4.length, rfl, hp34.length_le, at_new ..⟩
      refine LoopH.by (fun m s H' => ∃ i, m + i = xs.length ∧ s 29 = v ∧ s 30 = .int .i64 (xs.length : Int) ∧ s 31 = .int .i64 ((i : Nat) : Int) ∧ s 10 = .func (.func 88) #[] (List.toArray [.pointer (some ⟨o7, 0, none⟩), .pointer (some ⟨H.length, 0, none⟩), .pointer (some ⟨o6, 0, none⟩)]) ∧ Own 3 H3 H' (s 11) ((xs.take i).map (trnD n b mir)) ∧ H3 <+: H') xs.length ?_ ?_
      · refine ⟨0, by simp, rfl, rfl, rfl, rfl, ?_, pre_app hp34 _⟩
        simp (maxSteps := 1000000) (disch := omega) only [S, S1, S2, S3, S4, S5, ST, eq_self, reduceIte, reduceCtorEq, Nat.reduceEqDiff, Nat.reduceAdd]; exact hown0
      · rintro m s H' ⟨i, hm, h29, h30, h31, h27, hown, hpp⟩
        have hr' := hr.pre (hp3.trans hpp)
        have e := fun hi => map_take_succ (trnD n b mir) xs i hi
        have we : xs.length ≤ i → xs.map (trnD n b mir) = (xs.take i).map (trnD n b mir) := fun h => by rw [List.take_of_length_le h]
        have hll : ((xs.take i).map (trnD n b mir)).length ≤ i := by simp; omega
        generalize hL : (xs.take i).map (trnD n b mir) = L at *
        generalize hw : s 11 = w at *
        simp (maxSteps := 1000000) (disch := omega) only [h29, h30, h31, h27, hw, S, S1, S2, S3, S4, S5, ST, eq_self, reduceIte, reduceCtorEq, Nat.reduceEqDiff, Nat.reduceAdd]
        refine brD.intro (fun g => ?_) (fun g => ?_)
        · have hi : i < xs.length := by omega
          have st := e hi
          have hx : xs.getD i 0 = xs[i] := by simp [hi]
          have hmem : xs.getD i 0 ∈ xs := by rw [hx]; exact List.getElem_mem hi
          have hd := hxs _ hmem
          obtain ⟨c1, c2⟩ := corner_bd ha hmem
          have t1 := trnC_bd (mir := mir) hn hb c1
          have t2 := trnC_bd (mir := mir) hn hb c2
          simp (maxSteps := 1000000) (disch := omega) only [h29, h30, h31, h27, hw, hr'.ix Tryz.underlying34 cs3, hr'.cell, Int.toNat_natCast, hd.tdiv, wrap64, S, S1, S2, S3, S4, S5, ST, eq_self, reduceIte, reduceCtorEq, Nat.reduceEqDiff, Nat.reduceAdd]
          have key : trnD n b mir (xs.getD i 0) = 10 * minI (trnC n b mir ((xs.getD i 0).tdiv 10)) (trnC n b mir ((xs.getD i 0).tmod 10)) + maxI (trnC n b mir ((xs.getD i 0).tdiv 10)) (trnC n b mir ((xs.getD i 0).tmod 10)) := by
            exact min_max _ _
          generalize hA : (xs.getD i 0).tdiv 10 = A at *
          generalize hB : (xs.getD i 0).tmod 10 = B at *
          refine CallH.by (turnClos_c n b A mir o7 H.length o6 H' hn hb c1 (cellp hpp q7) (cellp hpp q4) (cellp hpp q6)) ?_
          rintro _ _ ⟨rfl, rfl⟩
          simp (maxSteps := 1000000) (disch := omega) only [h29, h30, h31, h27, hw, hB, S, S1, S2, S3, S4, S5, ST, eq_self, reduceIte, reduceCtorEq, Nat.reduceEqDiff, Nat.reduceAdd]
          refine CallH.by (turnClos_c n b B mir o7 H.length o6 H' hn hb c2 (cellp hpp q7) (cellp hpp q4) (cellp hpp q6)) ?_
          rintro _ _ ⟨rfl, rfl⟩
          simp (maxSteps := 1000000) (disch := omega) only [S, S1, S2, S3, S4, S5, ST, eq_self, reduceIte, reduceCtorEq, Nat.reduceEqDiff, Nat.reduceAdd]
          refine CallH.by (pair_c ..) ?_
          rintro _ H6 ⟨rfl, hp6⟩
          have bX : ∃ X, minI (trnC n b mir A) (trnC n b mir B) = X ∧ 0 ≤ X ∧ X ≤ 8 := ⟨_, rfl, by unfold minI; split <;> omega, by unfold minI; split <;> omega⟩
          have bY : ∃ Y, maxI (trnC n b mir A) (trnC n b mir B) = Y ∧ 0 ≤ Y ∧ Y ≤ 8 := ⟨_, rfl, by unfold maxI; split <;> omega, by unfold maxI; split <;> omega⟩
          obtain ⟨X, hX, bX0, bX1⟩ := bX
          obtain ⟨Y, hY, bY0, bY1⟩ := bY
          rw [hX, hY] at key
          have ix0 : ∀ o, indexAddrA Tryz.prog 96 (.pointer (some ⟨o, 0, none⟩)) (.int .i64 0) = some (.pointer (some ⟨o, 0, none⟩)) := fun o => ix_arr Tryz.underlying96 cs3 _ _ (by decide) (by decide)
          have ix1 : ∀ o, indexAddrA Tryz.prog 96 (.pointer (some ⟨o, 0, none⟩)) (.int .i64 1) = some (.pointer (some ⟨o, 1, none⟩)) := fun o => ix_arr Tryz.underlying96 cs3 _ _ (by decide) (by decide)
          have hp7 := hp6.trans (List.prefix_append H6 [AObj.cells [.int .i64 X, .int .i64 Y] 96 false])
          obtain ⟨w', H8, k1, k2, k3, k4, k5, k6⟩ := own1_34 (hown.pre hp7) (hpp.trans hp7) (by omega) (10 * X + Y)
          rw [← key, ← st] at k2
          have st7 := fun a b => store_a2 H6 [.int .i64 0, .int .i64 0] rfl (.int .i64 a) (.int .i64 b)
          simp (maxSteps := 1000000) (disch := omega) only [hX, hY, alloc_a2, st7, ix0, ix1, cell_new, wrap64, h29, h30, h31, h27, hw, k1, S, S1, S2, S3, S4, S5, ST, eq_self, reduceIte, reduceCtorEq, Nat.reduceEqDiff, Nat.reduceAdd]
          refine ⟨m - 1, by omega, i + 1, ?_⟩
          (repeat' apply And.intro) <;> first | exact k2 | exact k3 | (simp only [Value.int.injEq, true_and]; omega) | omega | rfl | assumption | (simp; done) | (simp; omega)
        · simp (maxSteps := 1000000) (disch := omega) only [h29, h30, h31, h27, hw, S, S1, S2, S3, S4, S5, ST, eq_self, reduceIte, reduceCtorEq, Nat.reduceEqDiff, Nat.reduceAdd]
          have hLl : L.length ≤ 12 := by
            rw [← we (by omega)]; simp; omega
          refine CallH.by (Sort_c w L H3 H' hown hLl) ?_
          rintro _ H9 ⟨ys, hown9, hperm, hasc, hels⟩
          simp (maxSteps := 1000000) (disch := omega) only [hw, hown9.row.tup, S, S1, S2, S3, S4, S5, ST, eq_self, reduceIte, reduceCtorEq, Nat.reduceEqDiff, Nat.reduceAdd]
          refine hQ _ _ _ ?_
          simp (maxSteps := 1000000) (disch := omega) only [hw, hown9.row.tup, S, S1, S2, S3, S4, S5, ST, eq_self, reduceIte, reduceCtorEq, Nat.reduceEqDiff, Nat.reduceAdd]
          rw [← we (by omega)] at hperm
          have hys := puts_sorted hnd hperm hasc
          rw [hre, ← hys]
          exact ⟨w, by simp [hok], (hown9.base hp3).mine, hp3.trans (hown.else_pre hpp hels)⟩
    · refine hQ _ _ _ ?_
      simp (maxSteps := 1000000) (disch := omega) only [S, S1, S2, S3, S4, S5, ST, eq_self, reduceIte, reduceCtorEq, Nat.reduceEqDiff, Nat.reduceAdd]
      have hh : ¬ turnOk n xs b := fun h => hb h.2
      rw [no hh]
      exact ⟨_, by simp [hh], .inl ⟨rfl, rfl⟩, hp3.trans hp34⟩
  · refine hQ _ _ _ ?_
    simp (maxSteps := 1000000) (disch := omega) only [S, S1, S2, S3, S4, S5, ST, eq_self, reduceIte, reduceCtorEq, Nat.reduceEqDiff, Nat.reduceAdd]
    have hh : ¬ turnOk n xs b := fun h => ha h.1
    rw [no hh]
    exact ⟨_, by simp [hh], .inl ⟨rfl, rfl⟩, hp3.trans hp34⟩
end Go.Proofs.YtdgapefbbdfpbaaGreat.Ai
namespace Go.Proofs.YtdgapefbbdfpbaaGreat.Ai
open Go
def ords3 : List (Nat × List (Nat × Bool)) := []
def cd3 : Cd := (.seq (.reg [⟨⟨some 2, Op.assign (Operand.const (Value.bool false)), none⟩, []⟩]) (.seq (.seq (.reg [⟨⟨some 46, Op.move (Operand.tmp 0), none⟩, []⟩,
  ⟨⟨some 47, Op.call { callee := (Callee.value (Operand.func 6)), args := #[(Operand.tmp 46)], argTypes := #[22] }, none⟩, []⟩]) (.cond (Operand.tmp 47) (.seq (.reg [⟨⟨some 2, Op.assign (Operand.const (Value.bool true)), none⟩, []⟩]) .ret) .skip)) (.seq (.reg [⟨⟨some 48, Op.move (Operand.tmp 0), none⟩, []⟩,
  ⟨⟨some 49, Op.call { callee := (Callee.value (Operand.func 7)), args := #[(Operand.tmp 48)], argTypes := #[22] }, none⟩, []⟩,
  ⟨⟨some 3, Op.assign (Operand.tmp 49), none⟩, []⟩]) (.seq (.reg [⟨⟨some 51, Op.move (Operand.tmp 3), none⟩, []⟩,
  ⟨⟨some 52, Op.call { callee := (Callee.value (Operand.func 8)), args := #[(Operand.tmp 51)], argTypes := #[3] }, none⟩, []⟩,
  ⟨⟨some 50, Op.move (Operand.tmp 52), none⟩, []⟩,
  ⟨⟨some 53, Op.extract (Operand.tmp 50) 0, none⟩, []⟩,
  ⟨⟨some 54, Op.extract (Operand.tmp 50) 1, none⟩, []⟩,
  ⟨⟨some 4, Op.alloc 28, none⟩, []⟩,
  ⟨⟨none, Op.store 28 (Operand.tmp 4) (Operand.tmp 53), none⟩, []⟩,
  ⟨⟨some 5, Op.assign (Operand.tmp 54), none⟩, []⟩]) (.seq (.seq (.reg [⟨⟨some 56, Op.move (Operand.tmp 3), none⟩, []⟩,
  ⟨⟨some 57, Op.call { callee := (Callee.value (Operand.func 9)), args := #[(Operand.tmp 56)], argTypes := #[3] }, none⟩, []⟩,
  ⟨⟨some 55, Op.move (Operand.tmp 57), none⟩, []⟩,
  ⟨⟨some 58, Op.extract (Operand.tmp 55) 0, none⟩, []⟩,
  ⟨⟨some 59, Op.extract (Operand.tmp 55) 1, none⟩, []⟩,
  ⟨⟨some 6, Op.alloc 28, none⟩, []⟩,
  ⟨⟨none, Op.store 28 (Operand.tmp 6) (Operand.tmp 58), none⟩, []⟩,
  ⟨⟨some 7, Op.assign (Operand.tmp 59), none⟩, []⟩]) (.seq (.reg [⟨⟨some 60, Op.move (Operand.tmp 5), none⟩, []⟩,
  ⟨⟨some 61, Op.move (Operand.tmp 7), none⟩, []⟩,
  ⟨⟨some 62, Op.binOp BinOp.neq 4 (Operand.tmp 60) (Operand.tmp 61) 4, none⟩, []⟩,
  ⟨⟨some 63, Op.move (Operand.tmp 62), none⟩, []⟩,
  ⟨⟨some 64, Op.load 28 (Operand.tmp 4), some (63, false)⟩, []⟩,
  ⟨⟨some 65, Op.load 28 (Operand.tmp 6), some (63, false)⟩, []⟩,
  ⟨⟨some 66, Op.call { callee := (Callee.value (Operand.func 10)), args := #[(Operand.tmp 64), (Operand.tmp 65)], argTypes := #[28, 28] }, some (63, false)⟩, []⟩,
  ⟨⟨some 67, Op.unOp UnOp.not 4 (Operand.tmp 66), some (63, false)⟩, []⟩,
  ⟨⟨some 68, Op.pick (Operand.tmp 63) (Operand.const (Value.bool true)) (Operand.tmp 67), none⟩, []⟩]) (.cond (Operand.tmp 68) (.seq (.reg [⟨⟨some 2, Op.assign (Operand.const (Value.bool false)), none⟩, []⟩]) .ret) .skip))) (.seq (.reg [⟨⟨some 70, Op.move (Operand.tmp 3), none⟩, []⟩,
  ⟨⟨some 71, Op.call { callee := (Callee.value (Operand.func 11)), args := #[(Operand.tmp 70)], argTypes := #[3] }, none⟩, []⟩,
  ⟨⟨some 69, Op.move (Operand.tmp 71), none⟩, []⟩,
  ⟨⟨some 72, Op.extract (Operand.tmp 69) 0, none⟩, []⟩,
  ⟨⟨some 73, Op.extract (Operand.tmp 69) 1, none⟩, []⟩,
  ⟨⟨some 8, Op.assign (Operand.tmp 72), none⟩, []⟩,
  ⟨⟨some 9, Op.assign (Operand.tmp 73), none⟩, []⟩]) (.seq (.seq (.reg [⟨⟨some 75, Op.move (Operand.tmp 3), none⟩, []⟩,
  ⟨⟨some 76, Op.call { callee := (Callee.value (Operand.func 12)), args := #[(Operand.tmp 75)], argTypes := #[3] }, none⟩, []⟩,
  ⟨⟨some 74, Op.move (Operand.tmp 76), none⟩, []⟩,
  ⟨⟨some 77, Op.extract (Operand.tmp 74) 0, none⟩, []⟩,
  ⟨⟨some 78, Op.extract (Operand.tmp 74) 1, none⟩, []⟩,
  ⟨⟨some 10, Op.assign (Operand.tmp 77), none⟩, []⟩,
  ⟨⟨some 11, Op.assign (Operand.tmp 78), none⟩, []⟩]) (.seq (.reg [⟨⟨some 79, Op.move (Operand.tmp 8), none⟩, []⟩,
  ⟨⟨some 80, Op.move (Operand.tmp 10), none⟩, []⟩,
  ⟨⟨some 81, Op.binOp BinOp.neq 3 (Operand.tmp 79) (Operand.tmp 80) 3, none⟩, []⟩,
  ⟨⟨some 82, Op.move (Operand.tmp 81), none⟩, []⟩,
  ⟨⟨some 83, Op.move (Operand.tmp 9), some (82, false)⟩, []⟩,
  ⟨⟨some 84, Op.move (Operand.tmp 11), some (82, false)⟩, []⟩,
  ⟨⟨some 85, Op.binOp BinOp.neq 4 (Operand.tmp 83) (Operand.tmp 84) 4, some (82, false)⟩, []⟩,
  ⟨⟨some 86, Op.pick (Operand.tmp 82) (Operand.const (Value.bool true)) (Operand.tmp 85), none⟩, []⟩,
  ⟨⟨some 87, Op.move (Operand.tmp 86), none⟩, []⟩,
  ⟨⟨some 88, Op.move (Operand.tmp 9), some (87, false)⟩, []⟩,
  ⟨⟨some 89, Op.move (Operand.tmp 5), some (87, false)⟩, []⟩,
  ⟨⟨some 90, Op.binOp BinOp.neq 4 (Operand.tmp 88) (Operand.tmp 89) 4, some (87, false)⟩, []⟩,
  ⟨⟨some 91, Op.pick (Operand.tmp 87) (Operand.const (Value.bool true)) (Operand.tmp 90), none⟩, []⟩]) (.cond (Operand.tmp 91) (.seq (.reg [⟨⟨some 2, Op.assign (Operand.const (Value.bool false)), none⟩, []⟩]) .ret) .skip))) (.seq (.seq (.reg [⟨⟨some 92, Op.move (Operand.tmp 5), none⟩, []⟩,
  ⟨⟨some 93, Op.move (Operand.tmp 92), none⟩, []⟩,
  ⟨⟨some 94, Op.fieldAddr 28 (Operand.tmp 4) 0, some (93, true)⟩, []⟩,
  ⟨⟨some 95, Op.load 25 (Operand.tmp 94), some (93, true)⟩, []⟩,
  ⟨⟨some 96, Op.call { callee := (Callee.builtin Builtin.len), args := #[(Operand.tmp 95)], argTypes := #[25] }, some (93, true)⟩, []⟩,
  ⟨⟨some 97, Op.move (Operand.tmp 8), some (93, true)⟩, []⟩,
  ⟨⟨some 98, Op.binOp BinOp.neq 3 (Operand.tmp 96) (Operand.tmp 97) 3, some (93, true)⟩, []⟩,
  ⟨⟨some 99, Op.move (Operand.tmp 98), some (93, true)⟩, []⟩,
  ⟨⟨some 100, Op.fieldAddr 28 (Operand.tmp 4) 1, some (99, false)⟩, []⟩,
  ⟨⟨some 101, Op.load 26 (Operand.tmp 100), some (99, false)⟩, []⟩,
  ⟨⟨some 102, Op.call { callee := (Callee.builtin Builtin.len), args := #[(Operand.tmp 101)], argTypes := #[26] }, some (99, false)⟩, []⟩,
  ⟨⟨some 103, Op.binOp BinOp.mul 3 (Operand.const (Value.int IntKind.i64 2)) (Operand.tmp 102) 3, some (99, false)⟩, []⟩,
  ⟨⟨some 104, Op.move (Operand.tmp 8), some (99, false)⟩, []⟩,
  ⟨⟨some 105, Op.move (Operand.tmp 3), some (99, false)⟩, []⟩,
  ⟨⟨some 106, Op.binOp BinOp.sub 3 (Operand.tmp 105) (Operand.const (Value.int IntKind.i64 3)) 3, some (99, false)⟩, []⟩,
  ⟨⟨some 107, Op.binOp BinOp.mul 3 (Operand.tmp 104) (Operand.tmp 106) 3, some (99, false)⟩, []⟩,
  ⟨⟨some 108, Op.binOp BinOp.neq 3 (Operand.tmp 103) (Operand.tmp 107) 3, some (99, false)⟩, []⟩,
  ⟨⟨some 109, Op.pick (Operand.tmp 99) (Operand.const (Value.bool true)) (Operand.tmp 108), some (93, true)⟩, []⟩,
  ⟨⟨some 110, Op.pick (Operand.tmp 93) (Operand.tmp 109) (Operand.const (Value.bool false)), none⟩, []⟩]) (.cond (Operand.tmp 110) (.seq (.reg [⟨⟨some 2, Op.assign (Operand.const (Value.bool false)), none⟩, []⟩]) .ret) .skip)) (.seq (.reg [⟨⟨some 112, Op.move (Operand.tmp 0), none⟩, []⟩,
  ⟨⟨some 113, Op.call { callee := (Callee.value (Operand.func 13)), args := #[(Operand.tmp 112)], argTypes := #[22] }, none⟩, []⟩,
  ⟨⟨some 111, Op.move (Operand.tmp 113), none⟩, []⟩,
  ⟨⟨some 114, Op.extract (Operand.tmp 111) 0, none⟩, []⟩,
  ⟨⟨some 115, Op.extract (Operand.tmp 111) 1, none⟩, []⟩,
  ⟨⟨some 116, Op.extract (Operand.tmp 111) 2, none⟩, []⟩,
  ⟨⟨some 12, Op.assign (Operand.tmp 114), none⟩, []⟩,
  ⟨⟨some 13, Op.assign (Operand.tmp 115), none⟩, []⟩,
  ⟨⟨some 14, Op.assign (Operand.tmp 116), none⟩, []⟩]) (.seq (.reg [⟨⟨some 118, Op.move (Operand.tmp 12), none⟩, []⟩,
  ⟨⟨some 119, Op.move (Operand.tmp 13), none⟩, []⟩,
  ⟨⟨some 120, Op.move (Operand.tmp 14), none⟩, []⟩,
  ⟨⟨some 121, Op.call { callee := (Callee.value (Operand.func 14)), args := #[(Operand.tmp 118), (Operand.tmp 119), (Operand.tmp 120)], argTypes := #[3, 34, 3] }, none⟩, []⟩,
  ⟨⟨some 117, Op.move (Operand.tmp 121), none⟩, []⟩,
  ⟨⟨some 122, Op.extract (Operand.tmp 117) 0, none⟩, []⟩,
  ⟨⟨some 123, Op.extract (Operand.tmp 117) 1, none⟩, []⟩,
  ⟨⟨some 124, Op.extract (Operand.tmp 117) 2, none⟩, []⟩,
  ⟨⟨some 15, Op.assign (Operand.tmp 122), none⟩, []⟩,
  ⟨⟨some 16, Op.assign (Operand.tmp 123), none⟩, []⟩,
  ⟨⟨some 17, Op.assign (Operand.tmp 124), none⟩, []⟩]) (.seq (.seq (.reg [⟨⟨some 126, Op.move (Operand.tmp 12), none⟩, []⟩,
  ⟨⟨some 127, Op.move (Operand.tmp 13), none⟩, []⟩,
  ⟨⟨some 128, Op.move (Operand.tmp 14), none⟩, []⟩,
  ⟨⟨some 129, Op.call { callee := (Callee.value (Operand.func 15)), args := #[(Operand.tmp 126), (Operand.tmp 127), (Operand.tmp 128)], argTypes := #[3, 34, 3] }, none⟩, []⟩,
  ⟨⟨some 125, Op.move (Operand.tmp 129), none⟩, []⟩,
  ⟨⟨some 130, Op.extract (Operand.tmp 125) 0, none⟩, []⟩,
  ⟨⟨some 131, Op.extract (Operand.tmp 125) 1, none⟩, []⟩,
  ⟨⟨some 132, Op.extract (Operand.tmp 125) 2, none⟩, []⟩,
  ⟨⟨some 18, Op.assign (Operand.tmp 130), none⟩, []⟩,
  ⟨⟨some 19, Op.assign (Operand.tmp 131), none⟩, []⟩,
  ⟨⟨some 20, Op.assign (Operand.tmp 132), none⟩, []⟩]) (.seq (.reg [⟨⟨some 133, Op.move (Operand.tmp 17), none⟩, []⟩,
  ⟨⟨some 134, Op.move (Operand.tmp 20), none⟩, []⟩,
  ⟨⟨some 135, Op.binOp BinOp.neq 4 (Operand.tmp 133) (Operand.tmp 134) 4, none⟩, []⟩,
  ⟨⟨some 136, Op.move (Operand.tmp 135), none⟩, []⟩,
  ⟨⟨some 137, Op.move (Operand.tmp 16), some (136, false)⟩, []⟩,
  ⟨⟨some 138, Op.move (Operand.tmp 19), some (136, false)⟩, []⟩,
  ⟨⟨some 139, Op.binOp BinOp.neq 3 (Operand.tmp 137) (Operand.tmp 138) 3, some (136, false)⟩, []⟩,
  ⟨⟨some 140, Op.pick (Operand.tmp 136) (Operand.const (Value.bool true)) (Operand.tmp 139), none⟩, []⟩,
  ⟨⟨some 141, Op.move (Operand.tmp 140), none⟩, []⟩,
  ⟨⟨some 142, Op.move (Operand.tmp 15), some (141, false)⟩, []⟩,
  ⟨⟨some 143, Op.move (Operand.tmp 18), some (141, false)⟩, []⟩,
  ⟨⟨some 144, Op.call { callee := (Callee.value (Operand.func 16)), args := #[(Operand.tmp 142), (Operand.tmp 143)], argTypes := #[34, 34] }, some (141, false)⟩, []⟩,
  ⟨⟨some 145, Op.unOp UnOp.not 4 (Operand.tmp 144), some (141, false)⟩, []⟩,
  ⟨⟨some 146, Op.pick (Operand.tmp 141) (Operand.const (Value.bool true)) (Operand.tmp 145), none⟩, []⟩]) (.cond (Operand.tmp 146) (.seq (.reg [⟨⟨some 2, Op.assign (Operand.const (Value.bool false)), none⟩, []⟩]) .ret) .skip))) (.seq (.seq (.reg [⟨⟨some 147, Op.move (Operand.tmp 17), none⟩, []⟩]) (.cond (Operand.tmp 147) (.seq (.reg [⟨⟨some 149, Op.move (Operand.tmp 12), none⟩, []⟩,
  ⟨⟨some 150, Op.move (Operand.tmp 15), none⟩, []⟩,
  ⟨⟨some 151, Op.move (Operand.tmp 16), none⟩, []⟩,
  ⟨⟨some 152, Op.call { callee := (Callee.value (Operand.func 14)), args := #[(Operand.tmp 149), (Operand.tmp 150), (Operand.tmp 151)], argTypes := #[3, 34, 3] }, none⟩, []⟩,
  ⟨⟨some 148, Op.move (Operand.tmp 152), none⟩, []⟩,
  ⟨⟨some 153, Op.extract (Operand.tmp 148) 0, none⟩, []⟩,
  ⟨⟨some 154, Op.extract (Operand.tmp 148) 1, none⟩, []⟩,
  ⟨⟨some 155, Op.extract (Operand.tmp 148) 2, none⟩, []⟩,
  ⟨⟨some 21, Op.assign (Operand.tmp 153), none⟩, []⟩,
  ⟨⟨some 22, Op.assign (Operand.tmp 154), none⟩, []⟩,
  ⟨⟨some 23, Op.assign (Operand.tmp 155), none⟩, []⟩]) (.seq (.reg [⟨⟨some 156, Op.move (Operand.tmp 23), none⟩, []⟩,
  ⟨⟨some 157, Op.unOp UnOp.not 4 (Operand.tmp 156), none⟩, []⟩,
  ⟨⟨some 158, Op.move (Operand.tmp 157), none⟩, []⟩,
  ⟨⟨some 159, Op.move (Operand.tmp 22), some (158, false)⟩, []⟩,
  ⟨⟨some 160, Op.move (Operand.tmp 14), some (158, false)⟩, []⟩,
  ⟨⟨some 161, Op.binOp BinOp.neq 3 (Operand.tmp 159) (Operand.tmp 160) 3, some (158, false)⟩, []⟩,
  ⟨⟨some 162, Op.pick (Operand.tmp 158) (Operand.const (Value.bool true)) (Operand.tmp 161), none⟩, []⟩,
  ⟨⟨some 163, Op.move (Operand.tmp 162), none⟩, []⟩,
  ⟨⟨some 164, Op.move (Operand.tmp 21), some (163, false)⟩, []⟩,
  ⟨⟨some 165, Op.move (Operand.tmp 13), some (163, false)⟩, []⟩,
  ⟨⟨some 166, Op.call { callee := (Callee.value (Operand.func 16)), args := #[(Operand.tmp 164), (Operand.tmp 165)], argTypes := #[34, 34] }, some (163, false)⟩, []⟩,
  ⟨⟨some 167, Op.unOp UnOp.not 4 (Operand.tmp 166), some (163, false)⟩, []⟩,
  ⟨⟨some 168, Op.pick (Operand.tmp 163) (Operand.const (Value.bool true)) (Operand.tmp 167), none⟩, []⟩]) (.cond (Operand.tmp 168) (.seq (.reg [⟨⟨some 2, Op.assign (Operand.const (Value.bool false)), none⟩, []⟩]) .ret) .skip))) .skip)) (.seq (.reg [⟨⟨some 170, Op.move (Operand.tmp 12), none⟩, []⟩,
  ⟨⟨some 171, Op.move (Operand.tmp 13), none⟩, []⟩,
  ⟨⟨some 172, Op.call { callee := (Callee.value (Operand.func 17)), args := #[(Operand.tmp 170), (Operand.tmp 171)], argTypes := #[3, 34] }, none⟩, []⟩,
  ⟨⟨some 169, Op.move (Operand.tmp 172), none⟩, []⟩,
  ⟨⟨some 173, Op.extract (Operand.tmp 169) 0, none⟩, []⟩,
  ⟨⟨some 174, Op.extract (Operand.tmp 169) 1, none⟩, []⟩,
  ⟨⟨some 24, Op.assign (Operand.tmp 173), none⟩, []⟩,
  ⟨⟨some 25, Op.assign (Operand.tmp 174), none⟩, []⟩]) (.seq (.seq (.reg [⟨⟨some 176, Op.move (Operand.tmp 12), none⟩, []⟩,
  ⟨⟨some 177, Op.move (Operand.tmp 13), none⟩, []⟩,
  ⟨⟨some 178, Op.call { callee := (Callee.value (Operand.func 18)), args := #[(Operand.tmp 176), (Operand.tmp 177)], argTypes := #[3, 34] }, none⟩, []⟩,
  ⟨⟨some 175, Op.move (Operand.tmp 178), none⟩, []⟩,
  ⟨⟨some 179, Op.extract (Operand.tmp 175) 0, none⟩, []⟩,
  ⟨⟨some 180, Op.extract (Operand.tmp 175) 1, none⟩, []⟩,
  ⟨⟨some 26, Op.assign (Operand.tmp 179), none⟩, []⟩,
  ⟨⟨some 27, Op.assign (Operand.tmp 180), none⟩, []⟩]) (.seq (.reg [⟨⟨some 181, Op.move (Operand.tmp 24), none⟩, []⟩,
  ⟨⟨some 182, Op.move (Operand.tmp 26), none⟩, []⟩,
  ⟨⟨some 183, Op.binOp BinOp.neq 4 (Operand.tmp 181) (Operand.tmp 182) 4, none⟩, []⟩,
  ⟨⟨some 184, Op.move (Operand.tmp 183), none⟩, []⟩,
  ⟨⟨some 185, Op.move (Operand.tmp 25), some (184, false)⟩, []⟩,
  ⟨⟨some 186, Op.move (Operand.tmp 27), some (184, false)⟩, []⟩,
  ⟨⟨some 187, Op.binOp BinOp.neq 4 (Operand.tmp 185) (Operand.tmp 186) 4, some (184, false)⟩, []⟩,
  ⟨⟨some 188, Op.pick (Operand.tmp 184) (Operand.const (Value.bool true)) (Operand.tmp 187), none⟩, []⟩,
  ⟨⟨some 189, Op.move (Operand.tmp 188), none⟩, []⟩,
  ⟨⟨some 190, Op.move (Operand.tmp 17), some (189, false)⟩, []⟩,
  ⟨⟨some 191, Op.move (Operand.tmp 190), some (189, false)⟩, []⟩,
  ⟨⟨some 192, Op.move (Operand.tmp 24), some (191, true)⟩, []⟩,
  ⟨⟨some 193, Op.unOp UnOp.not 4 (Operand.tmp 192), some (191, true)⟩, []⟩,
  ⟨⟨some 194, Op.pick (Operand.tmp 191) (Operand.tmp 193) (Operand.const (Value.bool false)), some (189, false)⟩, []⟩,
  ⟨⟨some 195, Op.pick (Operand.tmp 189) (Operand.const (Value.bool true)) (Operand.tmp 194), none⟩, []⟩]) (.cond (Operand.tmp 195) (.seq (.reg [⟨⟨some 2, Op.assign (Operand.const (Value.bool false)), none⟩, []⟩]) .ret) .skip))) (.seq (.reg [⟨⟨some 197, Op.move (Operand.tmp 12), none⟩, []⟩,
  ⟨⟨some 198, Op.move (Operand.tmp 13), none⟩, []⟩,
  ⟨⟨some 199, Op.call { callee := (Callee.value (Operand.func 19)), args := #[(Operand.tmp 197), (Operand.tmp 198)], argTypes := #[3, 34] }, none⟩, []⟩,
  ⟨⟨some 196, Op.move (Operand.tmp 199), none⟩, []⟩,
  ⟨⟨some 200, Op.extract (Operand.tmp 196) 0, none⟩, []⟩,
  ⟨⟨some 201, Op.extract (Operand.tmp 196) 1, none⟩, []⟩,
  ⟨⟨some 28, Op.assign (Operand.tmp 200), none⟩, []⟩,
  ⟨⟨some 29, Op.assign (Operand.tmp 201), none⟩, []⟩]) (.seq (.seq (.reg [⟨⟨some 203, Op.move (Operand.tmp 12), none⟩, []⟩,
  ⟨⟨some 204, Op.move (Operand.tmp 13), none⟩, []⟩,
  ⟨⟨some 205, Op.call { callee := (Callee.value (Operand.func 20)), args := #[(Operand.tmp 203), (Operand.tmp 204)], argTypes := #[3, 34] }, none⟩, []⟩,
  ⟨⟨some 202, Op.move (Operand.tmp 205), none⟩, []⟩,
  ⟨⟨some 206, Op.extract (Operand.tmp 202) 0, none⟩, []⟩,
  ⟨⟨some 207, Op.extract (Operand.tmp 202) 1, none⟩, []⟩,
  ⟨⟨some 30, Op.assign (Operand.tmp 206), none⟩, []⟩,
  ⟨⟨some 31, Op.assign (Operand.tmp 207), none⟩, []⟩]) (.seq (.reg [⟨⟨some 208, Op.move (Operand.tmp 29), none⟩, []⟩,
  ⟨⟨some 209, Op.move (Operand.tmp 31), none⟩, []⟩,
  ⟨⟨some 210, Op.binOp BinOp.neq 4 (Operand.tmp 208) (Operand.tmp 209) 4, none⟩, []⟩,
  ⟨⟨some 211, Op.move (Operand.tmp 210), none⟩, []⟩,
  ⟨⟨some 212, Op.move (Operand.tmp 29), some (211, false)⟩, []⟩,
  ⟨⟨some 213, Op.move (Operand.tmp 25), some (211, false)⟩, []⟩,
  ⟨⟨some 214, Op.move (Operand.tmp 213), some (211, false)⟩, []⟩,
  ⟨⟨some 215, Op.move (Operand.tmp 24), some (214, true)⟩, []⟩,
  ⟨⟨some 216, Op.pick (Operand.tmp 214) (Operand.tmp 215) (Operand.const (Value.bool false)), some (211, false)⟩, []⟩,
  ⟨⟨some 217, Op.binOp BinOp.neq 4 (Operand.tmp 212) (Operand.tmp 216) 4, some (211, false)⟩, []⟩,
  ⟨⟨some 218, Op.pick (Operand.tmp 211) (Operand.const (Value.bool true)) (Operand.tmp 217), none⟩, []⟩,
  ⟨⟨some 219, Op.move (Operand.tmp 218), none⟩, []⟩,
  ⟨⟨some 220, Op.move (Operand.tmp 28), some (219, false)⟩, []⟩,
  ⟨⟨some 221, Op.move (Operand.tmp 30), some (219, false)⟩, []⟩,
  ⟨⟨some 222, Op.call { callee := (Callee.value (Operand.func 16)), args := #[(Operand.tmp 220), (Operand.tmp 221)], argTypes := #[34, 34] }, some (219, false)⟩, []⟩,
  ⟨⟨some 223, Op.unOp UnOp.not 4 (Operand.tmp 222), some (219, false)⟩, []⟩,
  ⟨⟨some 224, Op.pick (Operand.tmp 219) (Operand.const (Value.bool true)) (Operand.tmp 223), none⟩, []⟩]) (.cond (Operand.tmp 224) (.seq (.reg [⟨⟨some 2, Op.assign (Operand.const (Value.bool false)), none⟩, []⟩]) .ret) .skip))) (.seq (.seq (.reg [⟨⟨some 225, Op.move (Operand.tmp 29), none⟩, []⟩,
  ⟨⟨some 226, Op.move (Operand.tmp 225), none⟩, []⟩,
  ⟨⟨some 227, Op.move (Operand.tmp 28), some (226, true)⟩, []⟩,
  ⟨⟨some 228, Op.call { callee := (Callee.builtin Builtin.len), args := #[(Operand.tmp 227)], argTypes := #[34] }, some (226, true)⟩, []⟩,
  ⟨⟨some 229, Op.binOp BinOp.lss 3 (Operand.tmp 228) (Operand.const (Value.int IntKind.i64 2)) 3, some (226, true)⟩, []⟩,
  ⟨⟨some 230, Op.pick (Operand.tmp 226) (Operand.tmp 229) (Operand.const (Value.bool false)), none⟩, []⟩]) (.cond (Operand.tmp 230) (.seq (.reg [⟨⟨some 2, Op.assign (Operand.const (Value.bool false)), none⟩, []⟩]) .ret) .skip)) (.seq (.reg [⟨⟨some 232, Op.move (Operand.tmp 0), none⟩, []⟩,
  ⟨⟨some 233, Op.call { callee := (Callee.value (Operand.func 21)), args := #[(Operand.tmp 232)], argTypes := #[22] }, none⟩, []⟩,
  ⟨⟨some 231, Op.move (Operand.tmp 233), none⟩, []⟩,
  ⟨⟨some 234, Op.extract (Operand.tmp 231) 0, none⟩, []⟩,
  ⟨⟨some 235, Op.extract (Operand.tmp 231) 1, none⟩, []⟩,
  ⟨⟨some 236, Op.extract (Operand.tmp 231) 2, none⟩, []⟩,
  ⟨⟨some 237, Op.extract (Operand.tmp 231) 3, none⟩, []⟩,
  ⟨⟨some 32, Op.assign (Operand.tmp 234), none⟩, []⟩,
  ⟨⟨some 33, Op.assign (Operand.tmp 235), none⟩, []⟩,
  ⟨⟨some 34, Op.assign (Operand.tmp 236), none⟩, []⟩,
  ⟨⟨some 35, Op.assign (Operand.tmp 237), none⟩, []⟩]) (.seq (.reg [⟨⟨some 239, Op.move (Operand.tmp 32), none⟩, []⟩,
  ⟨⟨some 240, Op.move (Operand.tmp 33), none⟩, []⟩,
  ⟨⟨some 241, Op.move (Operand.tmp 34), none⟩, []⟩,
  ⟨⟨some 242, Op.move (Operand.tmp 35), none⟩, []⟩,
  ⟨⟨some 243, Op.call { callee := (Callee.value (Operand.func 22)), args := #[(Operand.tmp 239), (Operand.tmp 240), (Operand.tmp 241), (Operand.tmp 242)], argTypes := #[3, 34, 3, 4] }, none⟩, []⟩,
  ⟨⟨some 238, Op.move (Operand.tmp 243), none⟩, []⟩,
  ⟨⟨some 244, Op.extract (Operand.tmp 238) 0, none⟩, []⟩,
  ⟨⟨some 245, Op.extract (Operand.tmp 238) 1, none⟩, []⟩,
  ⟨⟨some 36, Op.assign (Operand.tmp 244), none⟩, []⟩,
  ⟨⟨some 37, Op.assign (Operand.tmp 245), none⟩, []⟩]) (.seq (.seq (.reg [⟨⟨some 247, Op.move (Operand.tmp 32), none⟩, []⟩,
  ⟨⟨some 248, Op.move (Operand.tmp 33), none⟩, []⟩,
  ⟨⟨some 249, Op.move (Operand.tmp 34), none⟩, []⟩,
  ⟨⟨some 250, Op.move (Operand.tmp 35), none⟩, []⟩,
  ⟨⟨some 251, Op.call { callee := (Callee.value (Operand.func 23)), args := #[(Operand.tmp 247), (Operand.tmp 248), (Operand.tmp 249), (Operand.tmp 250)], argTypes := #[3, 34, 3, 4] }, none⟩, []⟩,
  ⟨⟨some 246, Op.move (Operand.tmp 251), none⟩, []⟩,
  ⟨⟨some 252, Op.extract (Operand.tmp 246) 0, none⟩, []⟩,
  ⟨⟨some 253, Op.extract (Operand.tmp 246) 1, none⟩, []⟩,
  ⟨⟨some 38, Op.assign (Operand.tmp 252), none⟩, []⟩,
  ⟨⟨some 39, Op.assign (Operand.tmp 253), none⟩, []⟩]) (.seq (.reg [⟨⟨some 254, Op.move (Operand.tmp 37), none⟩, []⟩,
  ⟨⟨some 255, Op.move (Operand.tmp 39), none⟩, []⟩,
  ⟨⟨some 256, Op.binOp BinOp.neq 4 (Operand.tmp 254) (Operand.tmp 255) 4, none⟩, []⟩,
  ⟨⟨some 257, Op.move (Operand.tmp 256), none⟩, []⟩,
  ⟨⟨some 258, Op.move (Operand.tmp 36), some (257, false)⟩, []⟩,
  ⟨⟨some 259, Op.move (Operand.tmp 38), some (257, false)⟩, []⟩,
  ⟨⟨some 260, Op.call { callee := (Callee.value (Operand.func 16)), args := #[(Operand.tmp 258), (Operand.tmp 259)], argTypes := #[34, 34] }, some (257, false)⟩, []⟩,
  ⟨⟨some 261, Op.unOp UnOp.not 4 (Operand.tmp 260), some (257, false)⟩, []⟩,
  ⟨⟨some 262, Op.pick (Operand.tmp 257) (Operand.const (Value.bool true)) (Operand.tmp 261), none⟩, []⟩]) (.cond (Operand.tmp 262) (.seq (.reg [⟨⟨some 2, Op.assign (Operand.const (Value.bool false)), none⟩, []⟩]) .ret) .skip))) (.seq (.seq (.reg [⟨⟨some 263, Op.move (Operand.tmp 37), none⟩, []⟩]) (.cond (Operand.tmp 263) (.seq (.reg [⟨⟨some 265, Op.move (Operand.tmp 32), none⟩, []⟩,
  ⟨⟨some 266, Op.move (Operand.tmp 36), none⟩, []⟩,
  ⟨⟨some 267, Op.call { callee := (Callee.value (Operand.func 17)), args := #[(Operand.tmp 265), (Operand.tmp 266)], argTypes := #[3, 34] }, none⟩, []⟩,
  ⟨⟨some 264, Op.move (Operand.tmp 267), none⟩, []⟩,
  ⟨⟨some 268, Op.extract (Operand.tmp 264) 0, none⟩, []⟩,
  ⟨⟨some 269, Op.extract (Operand.tmp 264) 1, none⟩, []⟩,
  ⟨⟨some 40, Op.assign (Operand.tmp 268), none⟩, []⟩,
  ⟨⟨some 41, Op.assign (Operand.tmp 269), none⟩, []⟩]) (.seq (.reg [⟨⟨some 271, Op.move (Operand.tmp 32), none⟩, []⟩,
  ⟨⟨some 272, Op.move (Operand.tmp 33), none⟩, []⟩,
  ⟨⟨some 273, Op.call { callee := (Callee.value (Operand.func 19)), args := #[(Operand.tmp 271), (Operand.tmp 272)], argTypes := #[3, 34] }, none⟩, []⟩,
  ⟨⟨some 270, Op.move (Operand.tmp 273), none⟩, []⟩,
  ⟨⟨some 274, Op.extract (Operand.tmp 270) 0, none⟩, []⟩,
  ⟨⟨some 275, Op.extract (Operand.tmp 270) 1, none⟩, []⟩,
  ⟨⟨some 42, Op.assign (Operand.tmp 274), none⟩, []⟩,
  ⟨⟨some 43, Op.assign (Operand.tmp 275), none⟩, []⟩]) (.seq (.reg [⟨⟨some 277, Op.move (Operand.tmp 32), none⟩, []⟩,
  ⟨⟨some 278, Op.move (Operand.tmp 36), none⟩, []⟩,
  ⟨⟨some 279, Op.call { callee := (Callee.value (Operand.func 19)), args := #[(Operand.tmp 277), (Operand.tmp 278)], argTypes := #[3, 34] }, none⟩, []⟩,
  ⟨⟨some 276, Op.move (Operand.tmp 279), none⟩, []⟩,
  ⟨⟨some 280, Op.extract (Operand.tmp 276) 0, none⟩, []⟩,
  ⟨⟨some 281, Op.extract (Operand.tmp 276) 1, none⟩, []⟩,
  ⟨⟨some 44, Op.assign (Operand.tmp 280), none⟩, []⟩,
  ⟨⟨some 45, Op.assign (Operand.tmp 281), none⟩, []⟩]) (.seq (.reg [⟨⟨some 282, Op.move (Operand.tmp 41), none⟩, []⟩,
  ⟨⟨some 283, Op.unOp UnOp.not 4 (Operand.tmp 282), none⟩, []⟩,
  ⟨⟨some 284, Op.move (Operand.tmp 283), none⟩, []⟩,
  ⟨⟨some 285, Op.move (Operand.tmp 43), some (284, false)⟩, []⟩,
  ⟨⟨some 286, Op.unOp UnOp.not 4 (Operand.tmp 285), some (284, false)⟩, []⟩,
  ⟨⟨some 287, Op.pick (Operand.tmp 284) (Operand.const (Value.bool true)) (Operand.tmp 286), none⟩, []⟩,
  ⟨⟨some 288, Op.move (Operand.tmp 287), none⟩, []⟩,
  ⟨⟨some 289, Op.move (Operand.tmp 45), some (288, false)⟩, []⟩,
  ⟨⟨some 290, Op.unOp UnOp.not 4 (Operand.tmp 289), some (288, false)⟩, []⟩,
  ⟨⟨some 291, Op.pick (Operand.tmp 288) (Operand.const (Value.bool true)) (Operand.tmp 290), none⟩, []⟩,
  ⟨⟨some 292, Op.move (Operand.tmp 291), none⟩, []⟩,
  ⟨⟨some 293, Op.move (Operand.tmp 40), some (292, false)⟩, []⟩,
  ⟨⟨some 294, Op.unOp UnOp.not 4 (Operand.tmp 293), some (292, false)⟩, []⟩,
  ⟨⟨some 295, Op.pick (Operand.tmp 292) (Operand.const (Value.bool true)) (Operand.tmp 294), none⟩, []⟩,
  ⟨⟨some 296, Op.move (Operand.tmp 295), none⟩, []⟩,
  ⟨⟨some 297, Op.move (Operand.tmp 42), some (296, false)⟩, []⟩,
  ⟨⟨some 298, Op.call { callee := (Callee.builtin Builtin.len), args := #[(Operand.tmp 297)], argTypes := #[34] }, some (296, false)⟩, []⟩,
  ⟨⟨some 299, Op.move (Operand.tmp 44), some (296, false)⟩, []⟩,
  ⟨⟨some 300, Op.call { callee := (Callee.builtin Builtin.len), args := #[(Operand.tmp 299)], argTypes := #[34] }, some (296, false)⟩, []⟩,
  ⟨⟨some 301, Op.binOp BinOp.neq 3 (Operand.tmp 298) (Operand.tmp 300) 3, some (296, false)⟩, []⟩,
  ⟨⟨some 302, Op.pick (Operand.tmp 296) (Operand.const (Value.bool true)) (Operand.tmp 301), none⟩, []⟩]) (.cond (Operand.tmp 302) (.seq (.reg [⟨⟨some 2, Op.assign (Operand.const (Value.bool false)), none⟩, []⟩]) .ret) .skip))))) .skip)) (.seq (.reg [⟨⟨some 2, Op.assign (Operand.const (Value.bool true)), none⟩, []⟩]) .ret))))))))))))))))))))))
theorem sl3 : slim Tryz.f3.ntmps ords3 (Tryz.f3.body.getD .skip) = some cd3 := by kernel_rfl
theorem in3 {args : List Value} {H : AH} {R : Value → AH → Prop} (hl : args.length = 1) (h : ∀ (Q : Exit → Sl → AH → Prop), (∀ e s H, endA Tryz.prog [ResultVar.tmp 2] R e s H → Q e s H) → wpC Tryz.prog cd3 Q (enterA args) H) : ACalls Tryz.prog 3 args H R :=
  ACalls.intro (by kernel_rfl) Tryz.func3 rfl (by kernel_rfl) sl3 hl (of_decide_eq_true (by kernel_rfl)) (by kernel_rfl) h
end Go.Proofs.YtdgapefbbdfpbaaGreat.Ai
namespace Go.Proofs.YtdgapefbbdfpbaaGreat.Ai
open Go Go.RowKit
set_option linter.unusedVariables false
set_option linter.unusedSimpArgs false
/-- a text in two parts: the first one ends in what the second one begins with -/
theorem wpC_cut {P : Program} {a b : Cd} {Q : Exit → Sl → AH → Prop} {s : Sl} {H : AH} (R : Sl → AH → Prop) (h1 : ∀ c, (∀ s H, R s H → wpC P c Q s H) → wpC P a (thenA (wpC P c Q) Q) s H) (h2 : ∀ s H, R s H → wpC P b Q s H) : wpC P (.seq a b) Q s H := h1 b h2
def cntR (n : Int) : Int := if 3 ≤ n ∧ n ≤ 8 then (cat (n.toNat - 2)).getD n.toNat 0 else 0
theorem cntI2_c (n : Int) (H : AH) : ACalls Tryz.prog 11 [.int .i64 n] H fun r H' => r = .tuple (List.toArray [.int .i64 (cntR n), .bool (decide (3 ≤ n ∧ n ≤ 8))]) ∧ H <+: H' := by
  refine (countI_c n H).mono fun r H' h => ⟨?_, h.2⟩
  rw [h.1]
  by_cases g : 3 ≤ n ∧ n ≤ 8
  · rw [if_pos g, cntR, if_pos g, decide_eq_true g]
  · rw [if_neg g, cntR, if_neg g, decide_eq_false g]
theorem cntS2_c (n : Int) (H : AH) : ACalls Tryz.prog 12 [.int .i64 n] H fun r H' => r = .tuple (List.toArray [.int .i64 (cntR n), .bool (decide (3 ≤ n ∧ n ≤ 8))]) ∧ H <+: H' := by
  refine (countS_c n H).mono fun r H' h => ⟨?_, h.2⟩
  rw [h.1]
  by_cases g : 3 ≤ n ∧ n ≤ 8
  · rw [if_pos g, cntR, if_pos g, decide_eq_true g]
  · rw [if_neg g, cntR, if_neg g, decide_eq_false g]
theorem triIS (n : Int) (xs : List Int) : (decide (3 ≤ n ∧ n ≤ 8) && triI n xs) = decide (Tri1 n xs) := by
  by_cases h : 3 ≤ n ∧ n ≤ 8
  · rw [tri_same n xs h]; exact tri1_S n xs
  · rw [← tri1_S]; simp [h]
theorem poly_sm (n : Int) : (polyL n).length ≤ 1000000 ∧ (∀ l ∈ polyL n, l.length ≤ 1000000) ∧ (polyP n).length ≤ 1000000 := by
  unfold polyL polyP
  split
  · rename_i hn
    obtain ⟨_, h2, h3, _⟩ := triA_ok hn
    have h4 := stpO_len exP (triA n) (triA n).length
    have h5 : (triA n).length * (triA n).length ≤ 132 * 132 := Nat.mul_le_mul h2.2 h2.2
    refine ⟨by omega, fun l hl => by have := h3 l hl; omega, by unfold steps; omega⟩
  · simp
theorem tri_64 {n : Int} {xs : List Int} (h : Tri1 n xs) : ∀ y ∈ xs, I64 y := fun y hy => by
  have ts := (triSet_iff n xs).1 h.2
  have hn := h.1
  obtain ⟨N, rfl⟩ : ∃ N : Nat, n = N := ⟨n.toNat, by omega⟩
  have hm := ts.mem y hy
  simp only [Int.toNat_natCast] at hm
  have := dgs_range ⟨N, by omega⟩ _ hm
  exact ⟨by omega, by omega⟩
set_option maxRecDepth 20000 in
set_option maxHeartbeats 8000000 in
theorem plgLaw_c (va : Value) (us : List Value) (H : AH) (hr : RowV 5 H va us) (hb : ∀ i, i < us.length → ∃ b : Nat, us.getD i undef = .int .u8 (b : Int) ∧ b < 256) (hl : (us.length : Int) ≤ 9223372036854775807) :
    ACalls Tryz.prog 3 [va] H fun r H' => r = .bool true := by
  refine in3 rfl ?_
  intro Q hQ
  rw [cd3]
  refine wpC_cut (fun s H' => s 0 = va ∧ H' = H) (fun c hc => ?_) ?_
  · simp (maxSteps := 1000000) (disch := omega) only [S, S1, S2, S3, S4, S5, ST, eq_self, reduceIte, reduceCtorEq, Nat.reduceEqDiff, Nat.reduceAdd]
    exact hc _ _ ⟨rfl, rfl⟩
  rintro s _ ⟨h0, rfl⟩
  refine wpC_cut (fun s H' => s 0 = va ∧ Byt H' va us) (fun c hc => ?_) ?_
  · simp (maxSteps := 1000000) (disch := omega) only [h0, S, S1, S2, S3, S4, S5, ST, eq_self, reduceIte, reduceCtorEq, Nat.reduceEqDiff, Nat.reduceAdd]
    refine CallH.by (rBig_c hr hl) ?_
    rintro _ _ ⟨rfl, rfl⟩
    simp (maxSteps := 1000000) (disch := omega) only [S, S1, S2, S3, S4, S5, ST, eq_self, reduceIte, reduceCtorEq, Nat.reduceEqDiff, Nat.reduceAdd]
    refine brD.intro (fun g => ?_) (fun g => ?_)
    · simp (maxSteps := 1000000) (disch := omega) only [S, S1, S2, S3, S4, S5, ST, eq_self, reduceIte, reduceCtorEq, Nat.reduceEqDiff, Nat.reduceAdd]
      refine hQ _ _ _ ?_
      simp (maxSteps := 1000000) (disch := omega) only [S, S1, S2, S3, S4, S5, ST, eq_self, reduceIte, reduceCtorEq, Nat.reduceEqDiff, Nat.reduceAdd]
    · simp (maxSteps := 1000000) (disch := omega) only [S, S1, S2, S3, S4, S5, ST, eq_self, reduceIte, reduceCtorEq, Nat.reduceEqDiff, Nat.reduceAdd]
      exact hc _ _ ⟨h0, hr, hb, by omega⟩
  clear h0 hr hb hl s
  rintro s H ⟨h0, hby⟩
  refine wpC_cut (fun s H' => s 0 = va ∧ Byt H' va us ∧ ∃ n, (-1 ≤ n ∧ n ≤ 9) ∧ s 3 = .int .i64 n) (fun c hc => ?_) ?_
  · simp (maxSteps := 1000000) (disch := omega) only [h0, S, S1, S2, S3, S4, S5, ST, eq_self, reduceIte, reduceCtorEq, Nat.reduceEqDiff, Nat.reduceAdd]
    refine CallH.by (DrawPoly_c hby) ?_
    rintro _ H1 ⟨⟨n, rfl, hn⟩, p1⟩
    simp (maxSteps := 1000000) (disch := omega) only [S, S1, S2, S3, S4, S5, ST, eq_self, reduceIte, reduceCtorEq, Nat.reduceEqDiff, Nat.reduceAdd]
    exact hc _ _ ⟨h0, hby.pre p1, n, hn, rfl⟩
  clear h0 hby s H
  rintro s H ⟨h0, hby, n, hn, h3⟩
  refine wpC_cut (fun s H' => s 0 = va ∧ Byt H' va us ∧ s 3 = .int .i64 n ∧ s 5 = .bool (decide (3 ≤ n ∧ n ≤ 8)) ∧ ∃ o a b, s 4 = .pointer (some ⟨o, 0, none⟩) ∧ H'[o]? = some (.cells [a, b] 28 false) ∧ SpRow H' a b (polyL n) (polyP n)) (fun c hc => ?_) ?_
  · simp (maxSteps := 1000000) (disch := omega) only [h3, S, S1, S2, S3, S4, S5, ST, eq_self, reduceIte, reduceCtorEq, Nat.reduceEqDiff, Nat.reduceAdd]
    refine CallH.by (PolyI_c n H) ?_
    rintro _ H1 ⟨a, b, rfl, X, p1⟩
    have X := X.row
    have st := X.store (at_new H1 (.cells [.slice none 0 0, .slice none 0 0] 28 false)) rfl
    simp (maxSteps := 1000000) (disch := omega) only [alloc_sp, st, set_new, S, S1, S2, S3, S4, S5, ST, eq_self, reduceIte, reduceCtorEq, Nat.reduceEqDiff, Nat.reduceAdd]
    have p2 : H1 <+: H1 ++ [AObj.cells [a, b] 28 false] := List.prefix_append _ _
    exact hc _ _ ⟨h0, hby.pre (p1.trans p2), h3, rfl, _, a, b, rfl, at_new .., X.pre p2⟩
  clear h0 hby h3 s H
  rintro s H ⟨h0, hby, h3, h5, o, a, b, h4, ho, X⟩
  have psm := poly_sm n
  refine wpC_cut (fun s H' => s 0 = va ∧ Byt H' va us ∧ s 3 = .int .i64 n ∧ s 5 = .bool (decide (3 ≤ n ∧ n ≤ 8)) ∧ s 4 = .pointer (some ⟨o, 0, none⟩) ∧ H'[o]? = some (.cells [a, b] 28 false) ∧ SpRow H' a b (polyL n) (polyP n)) (fun c hc => ?_) ?_
  · simp (maxSteps := 1000000) (disch := omega) only [h3, S, S1, S2, S3, S4, S5, ST, eq_self, reduceIte, reduceCtorEq, Nat.reduceEqDiff, Nat.reduceAdd]
    refine CallH.by (PolyS_c n H) ?_
    rintro _ H1 ⟨a2, b2, rfl, Y, p1⟩
    have Y := Y.row
    have st := Y.store (at_new H1 (.cells [.slice none 0 0, .slice none 0 0] 28 false)) rfl
    have f1 : decide (¬ decide (3 ≤ n ∧ n ≤ 8) = decide (3 ≤ n ∧ n ≤ 8)) = false := by simp
    have f2 : (decide (3 ≤ n ∧ n ≤ 8) != decide (3 ≤ n ∧ n ≤ 8)) = false := by simp
    have f3 : (!decide (decide (3 ≤ n ∧ n ≤ 8) = decide (3 ≤ n ∧ n ≤ 8))) = false := by simp
    simp (maxSteps := 1000000) (disch := omega) only [alloc_sp, st, set_new, S, S1, S2, S3, S4, S5, ST, eq_self, reduceIte, reduceCtorEq, Nat.reduceEqDiff, Nat.reduceAdd]
    generalize hA : H1 ++ [AObj.cells [a2, b2] 28 false] = A
    have pA : H1 <+: A := by rw [← hA]; exact List.prefix_append _ _
    have cA : A[H1.length]? = some (.cells [a2, b2] 28 false) := by rw [← hA]; exact at_new ..
    have pHA := p1.trans pA
    have oA := pre_at pHA ho
    simp (maxSteps := 1000000) (disch := omega) only [h4, h5, f1, f2, f3, ld_agg ag28 cs28 oA, ld_agg ag28 cs28 cA, S, S1, S2, S3, S4, S5, ST, eq_self, reduceIte, reduceCtorEq, Nat.reduceEqDiff, Nat.reduceAdd]
    refine CallH.by (rSpace_c a b a2 b2 _ _ A (X.pre pHA) (Y.pre pA) psm.1 psm.2.1 psm.2.2) ?_
    rintro _ B ⟨rfl, pB⟩
    have pHB := pHA.trans pB
    simp (maxSteps := 1000000) (disch := omega) only [S, S1, S2, S3, S4, S5, ST, eq_self, reduceIte, reduceCtorEq, Nat.reduceEqDiff, Nat.reduceAdd]
    exact hc _ _ ⟨h0, hby.pre pHB, h3, h5, h4, pre_at pHB ho, X.pre pHB⟩
  clear h0 hby h3 h5 h4 ho X s H
  rintro s H ⟨h0, hby, h3, h5, h4, ho, X⟩
  refine wpC_cut (fun s H' => s 0 = va ∧ Byt H' va us ∧ s 3 = .int .i64 n ∧ s 5 = .bool (decide (3 ≤ n ∧ n ≤ 8)) ∧ s 4 = .pointer (some ⟨o, 0, none⟩) ∧ H'[o]? = some (.cells [a, b] 28 false) ∧ SpRow H' a b (polyL n) (polyP n) ∧ s 8 = .int .i64 (cntR n) ∧ s 9 = .bool (decide (3 ≤ n ∧ n ≤ 8))) (fun c hc => ?_) ?_
  · simp (maxSteps := 1000000) (disch := omega) only [h3, S, S1, S2, S3, S4, S5, ST, eq_self, reduceIte, reduceCtorEq, Nat.reduceEqDiff, Nat.reduceAdd]
    refine CallH.by (cntI2_c n H) ?_
    rintro _ H1 ⟨rfl, p1⟩
    simp (maxSteps := 1000000) (disch := omega) only [S, S1, S2, S3, S4, S5, ST, eq_self, reduceIte, reduceCtorEq, Nat.reduceEqDiff, Nat.reduceAdd]
    exact hc _ _ ⟨h0, hby.pre p1, h3, h5, h4, pre_at p1 ho, X.pre p1, rfl, rfl⟩
  clear h0 hby h3 h5 h4 ho X s H
  rintro s H ⟨h0, hby, h3, h5, h4, ho, X, h8, h9⟩
  refine wpC_cut (fun s H' => s 0 = va ∧ Byt H' va us ∧ s 3 = .int .i64 n ∧ s 5 = .bool (decide (3 ≤ n ∧ n ≤ 8)) ∧ s 4 = .pointer (some ⟨o, 0, none⟩) ∧ H'[o]? = some (.cells [a, b] 28 false) ∧ SpRow H' a b (polyL n) (polyP n) ∧ s 8 = .int .i64 (cntR n)) (fun c hc => ?_) ?_
  · simp (maxSteps := 1000000) (disch := omega) only [h3, S, S1, S2, S3, S4, S5, ST, eq_self, reduceIte, reduceCtorEq, Nat.reduceEqDiff, Nat.reduceAdd]
    refine CallH.by (cntS2_c n H) ?_
    rintro _ H1 ⟨rfl, p1⟩
    have f1 : decide (¬ decide (3 ≤ n ∧ n ≤ 8) = decide (3 ≤ n ∧ n ≤ 8)) = false := by simp
    have f2 : (decide (3 ≤ n ∧ n ≤ 8) != decide (3 ≤ n ∧ n ≤ 8)) = false := by simp
    have f3 : (!decide (decide (3 ≤ n ∧ n ≤ 8) = decide (3 ≤ n ∧ n ≤ 8))) = false := by simp
    have f4 : decide (¬ cntR n = cntR n) = false := by simp
    simp (maxSteps := 1000000) (disch := omega) only [h8, h9, h5, f1, f2, f3, f4, S, S1, S2, S3, S4, S5, ST, eq_self, reduceIte, reduceCtorEq, Nat.reduceEqDiff, Nat.reduceAdd]
    exact hc _ _ ⟨h0, hby.pre p1, h3, h5, h4, pre_at p1 ho, X.pre p1, h8⟩
  clear h0 hby h3 h5 h4 ho X s H h8 h9
  rintro s H ⟨h0, hby, h3, h5, h4, ho, X, h8⟩
  refine wpC_cut (fun s H' => s 0 = va ∧ Byt H' va us) (fun c hc => ?_) ?_
  · by_cases gn : 3 ≤ n ∧ n ≤ 8
    · obtain ⟨⟨bd, vs, r1, r2, r3, r4⟩, r5⟩ := X
      have hca := cnt_all gn
      have e1 : (vs.length : Int) = cntR n := by
        rw [r3, polyL, if_pos gn, cntR, if_pos gn]; exact hca.1
      have e2 : 2 * ((polyP n).length : Int) = cntR n * (n - 3) := by
        rw [polyP, if_pos gn, cntR, if_pos gn]; exact hca.2
      have hp6 := psm.2.2
      have e3 : ¬ ¬ (vs.length : Int) = cntR n := fun q => q e1
      have e4 : ¬ ¬ 2 * ((polyP n).length : Int) = cntR n * (n - 3) := fun q => q e2
      rw [decide_eq_true gn] at h5
      simp (maxSteps := 1000000) (disch := omega) only [h3, h4, h5, h8, cell_of ho, r1.len Tryz.underlying25, decide_eq_false e3, r5.len Tryz.underlying26, wrap64, decide_eq_false e4, S, S1, S2, S3, S4, S5, ST, eq_self, reduceIte, reduceCtorEq, Nat.reduceEqDiff, Nat.reduceAdd]
      exact hc _ _ ⟨h0, hby⟩
    · rw [decide_eq_false gn] at h5
      simp (maxSteps := 1000000) (disch := omega) only [h5, S, S1, S2, S3, S4, S5, ST, eq_self, reduceIte, reduceCtorEq, Nat.reduceEqDiff, Nat.reduceAdd]
      exact hc _ _ ⟨h0, hby⟩
  clear h0 hby h3 h5 h4 ho X s H h8 hn psm
  rintro s H ⟨h0, hby⟩
  clear n a b o
  -- flips
  refine wpC_cut (fun s H' => s 0 = va ∧ Byt H' va us ∧ ∃ (n d : Int) (w : Value) (xs : List Int), s 12 = .int .i64 n ∧ s 13 = w ∧ s 14 = .int .i64 d ∧ (-1 ≤ n ∧ n ≤ 9) ∧ Row 3 H' w xs ∧ xs.length ≤ 5 ∧ (∀ y ∈ xs, I64 y) ∧ I64 d) (fun c hc => ?_) ?_
  · simp (maxSteps := 1000000) (disch := omega) only [h0, S, S1, S2, S3, S4, S5, ST, eq_self, reduceIte, reduceCtorEq, Nat.reduceEqDiff, Nat.reduceAdd]
    refine CallH.by (DrawFlip_c hby) ?_
    rintro _ H1 ⟨n, d, w, xs, rfl, hn, hw, hxl, hx, hd, p1⟩
    simp (maxSteps := 1000000) (disch := omega) only [S, S1, S2, S3, S4, S5, ST, eq_self, reduceIte, reduceCtorEq, Nat.reduceEqDiff, Nat.reduceAdd]
    exact hc _ _ ⟨h0, hby.pre p1, n, d, w, xs, rfl, rfl, rfl, hn, hw, hxl, hx, hd⟩
  clear h0 hby s H
  rintro s H ⟨h0, hby, n, d, w, xs, h12, h13, h14, hn, hw, hxl, hx, hd⟩
  have fl := flipR_len n xs d
  refine wpC_cut (fun s H' => s 0 = va ∧ Byt H' va us ∧ s 12 = .int .i64 n ∧ s 13 = w ∧ s 14 = .int .i64 d ∧ Row 3 H' w xs ∧ ∃ g, s 15 = g ∧ s 16 = .int .i64 (flipN n xs d) ∧ s 17 = .bool (decide (flipC n xs d)) ∧ Row 3 H' g (flipR n xs d)) (fun c hc => ?_) ?_
  · simp (maxSteps := 1000000) (disch := omega) only [h12, h13, h14, S, S1, S2, S3, S4, S5, ST, eq_self, reduceIte, reduceCtorEq, Nat.reduceEqDiff, Nat.reduceAdd]
    refine CallH.by (FlipI_c n d w xs H hw (by omega) hx) ?_
    rintro _ H1 ⟨g, rfl, hg, p1⟩
    simp (maxSteps := 1000000) (disch := omega) only [S, S1, S2, S3, S4, S5, ST, eq_self, reduceIte, reduceCtorEq, Nat.reduceEqDiff, Nat.reduceAdd]
    exact hc _ _ ⟨h0, hby.pre p1, h12, h13, h14, hw.pre p1, g, rfl, rfl, rfl, hg.row⟩
  clear h0 hby h12 h13 h14 hw s H
  rintro s H ⟨h0, hby, h12, h13, h14, hw, g, h15, h16, h17, hg⟩
  have fs : (flipR n xs d).length ≤ 1000000 := by
    unfold flipR
    split
    · have h1 := put_len (rst xs d) (flipD n xs d)
      have h2 := rst_le xs d
      omega
    · simp
  refine wpC_cut (fun s H' => s 0 = va ∧ Byt H' va us ∧ s 12 = .int .i64 n ∧ s 13 = w ∧ s 14 = .int .i64 d ∧ Row 3 H' w xs ∧ s 15 = g ∧ s 16 = .int .i64 (flipN n xs d) ∧ s 17 = .bool (decide (flipC n xs d)) ∧ Row 3 H' g (flipR n xs d)) (fun c hc => ?_) ?_
  · simp (maxSteps := 1000000) (disch := omega) only [h12, h13, h14, S, S1, S2, S3, S4, S5, ST, eq_self, reduceIte, reduceCtorEq, Nat.reduceEqDiff, Nat.reduceAdd]
    refine CallH.by (FlipS_c n d w xs H hw (by omega) hx) ?_
    rintro _ H1 ⟨g2, rfl, hg2, p1⟩
    have f1 : decide (¬ decide (flipC n xs d) = decide (flipC n xs d)) = false := by simp
    have f2 : (decide (flipC n xs d) != decide (flipC n xs d)) = false := by simp
    have f3 : (!decide (decide (flipC n xs d) = decide (flipC n xs d))) = false := by simp
    have f4 : decide (¬ flipN n xs d = flipN n xs d) = false := by simp
    simp (maxSteps := 1000000) (disch := omega) only [h15, h16, h17, f1, f2, f3, f4, S, S1, S2, S3, S4, S5, ST, eq_self, reduceIte, reduceCtorEq, Nat.reduceEqDiff, Nat.reduceAdd]
    refine CallH.by (rInts_c g g2 _ H1 (hg.pre p1) hg2.row fs) ?_
    rintro _ _ ⟨rfl, rfl⟩
    simp (maxSteps := 1000000) (disch := omega) only [S, S1, S2, S3, S4, S5, ST, eq_self, reduceIte, reduceCtorEq, Nat.reduceEqDiff, Nat.reduceAdd]
    exact hc _ _ ⟨h0, hby.pre p1, h12, h13, h14, hw.pre p1, h15, h16, h17, hg.pre p1⟩
  clear h0 hby h12 h13 h14 hw s H h15 h16 h17 hg
  rintro s H ⟨h0, hby, h12, h13, h14, hw, h15, h16, h17, hg⟩
  refine wpC_cut (fun s H' => s 0 = va ∧ Byt H' va us ∧ s 12 = .int .i64 n ∧ s 13 = w ∧ Row 3 H' w xs ∧ s 17 = .bool (decide (flipC n xs d))) (fun c hc => ?_) ?_
  · by_cases gf : flipC n xs d
    · have fb := flip_back gf
      have tr1 : Tri1 n (flipR n xs d) := fb.1.1
      rw [decide_eq_true gf] at h17
      simp (maxSteps := 1000000) (disch := omega) only [h17, h12, h15, h16, S, S1, S2, S3, S4, S5, ST, eq_self, reduceIte, reduceCtorEq, Nat.reduceEqDiff, Nat.reduceAdd]
      refine CallH.by (FlipI_c n (flipN n xs d) g (flipR n xs d) H hg (by omega) (tri_64 tr1)) ?_
      rintro _ H1 ⟨g2, rfl, hg2, p1⟩
      rw [decide_eq_true fb.1, fb.2.2]
      rw [fb.2.1] at hg2
      have f4 : decide (¬ d = d) = false := by simp
      simp (maxSteps := 1000000) (disch := omega) only [h13, h14, f4, S, S1, S2, S3, S4, S5, ST, eq_self, reduceIte, reduceCtorEq, Nat.reduceEqDiff, Nat.reduceAdd]
      refine CallH.by (rInts_c g2 w _ H1 hg2.row (hw.pre p1) (by omega)) ?_
      rintro _ _ ⟨rfl, rfl⟩
      simp (maxSteps := 1000000) (disch := omega) only [S, S1, S2, S3, S4, S5, ST, eq_self, reduceIte, reduceCtorEq, Nat.reduceEqDiff, Nat.reduceAdd]
      exact hc _ _ ⟨h0, hby.pre p1, h12, h13, hw.pre p1, by rw [decide_eq_true gf]; exact h17⟩
    · have h17' := h17
      rw [decide_eq_false gf] at h17
      simp (maxSteps := 1000000) (disch := omega) only [h17, S, S1, S2, S3, S4, S5, ST, eq_self, reduceIte, reduceCtorEq, Nat.reduceEqDiff, Nat.reduceAdd]
      exact hc _ _ ⟨h0, hby, h12, h13, hw, h17'⟩
  clear h0 hby h12 h13 h14 hw s H h15 h16 h17 hg
  rintro s H ⟨h0, hby, h12, h13, hw, h17⟩
  refine wpC_cut (fun s H' => s 0 = va ∧ Byt H' va us ∧ s 12 = .int .i64 n ∧ s 13 = w ∧ Row 3 H' w xs ∧ s 17 = .bool (decide (flipC n xs d)) ∧ s 24 = .bool (decide (Tri1 n xs)) ∧ s 25 = .bool (decide (3 ≤ n ∧ n ≤ 8))) (fun c hc => ?_) ?_
  · simp (maxSteps := 1000000) (disch := omega) only [h12, h13, S, S1, S2, S3, S4, S5, ST, eq_self, reduceIte, reduceCtorEq, Nat.reduceEqDiff, Nat.reduceAdd]
    refine CallH.by (isTriI_c n w xs H hw (by omega) hx) ?_
    rintro _ H1 ⟨rfl, p1⟩
    rw [triIS]
    simp (maxSteps := 1000000) (disch := omega) only [S, S1, S2, S3, S4, S5, ST, eq_self, reduceIte, reduceCtorEq, Nat.reduceEqDiff, Nat.reduceAdd]
    exact hc _ _ ⟨h0, hby.pre p1, h12, h13, hw.pre p1, h17, rfl, rfl⟩
  clear h0 hby h12 h13 hw s H h17
  rintro s H ⟨h0, hby, h12, h13, hw, h17, h24, h25⟩
  refine wpC_cut (fun s H' => s 0 = va ∧ Byt H' va us ∧ s 12 = .int .i64 n ∧ s 13 = w ∧ Row 3 H' w xs ∧ s 24 = .bool (decide (Tri1 n xs)) ∧ s 25 = .bool (decide (3 ≤ n ∧ n ≤ 8))) (fun c hc => ?_) ?_
  · simp (maxSteps := 1000000) (disch := omega) only [h12, h13, S, S1, S2, S3, S4, S5, ST, eq_self, reduceIte, reduceCtorEq, Nat.reduceEqDiff, Nat.reduceAdd]
    refine CallH.by (isTriS_c n w xs H hw (by omega) hx) ?_
    rintro _ H1 ⟨rfl, p1⟩
    rw [tri1_S]
    have f1 : ∀ b : Bool, decide (¬ b = b) = false := by simp
    have f2 : ∀ b : Bool, (b != b) = false := by simp
    have f3 : ∀ b : Bool, (!decide (b = b)) = false := by simp
    by_cases gf : flipC n xs d
    · have gt := gf.1
      have gn := gt.1
      rw [decide_eq_true gf] at h17
      have h24' := h24
      have h25' := h25
      rw [decide_eq_true gt] at h24 ⊢
      rw [decide_eq_true gn] at h25 ⊢
      simp (maxSteps := 1000000) (disch := omega) only [h17, h24, h25, f1, f2, f3, S, S1, S2, S3, S4, S5, ST, eq_self, reduceIte, reduceCtorEq, Nat.reduceEqDiff, Nat.reduceAdd]
      exact hc _ _ ⟨h0, hby.pre p1, h12, h13, hw.pre p1, h24', h25'⟩
    · rw [decide_eq_false gf] at h17
      simp (maxSteps := 1000000) (disch := omega) only [h17, h24, h25, f1, f2, f3, S, S1, S2, S3, S4, S5, ST, eq_self, reduceIte, reduceCtorEq, Nat.reduceEqDiff, Nat.reduceAdd]
      exact hc _ _ ⟨h0, hby.pre p1, h12, h13, hw.pre p1, h24, h25⟩
  clear h0 hby h12 h13 hw s H h17 h24 h25
  rintro s H ⟨h0, hby, h12, h13, hw, h24, h25⟩
  have el := ears_len xs n.toNat
  have es : (earsR n xs).length ≤ 1000000 := by
    unfold earsR
    split
    · omega
    · simp
  refine wpC_cut (fun s H' => s 0 = va ∧ Byt H' va us ∧ s 12 = .int .i64 n ∧ s 13 = w ∧ Row 3 H' w xs ∧ s 24 = .bool (decide (Tri1 n xs)) ∧ s 25 = .bool (decide (3 ≤ n ∧ n ≤ 8)) ∧ s 29 = .bool (decide (Tri1 n xs)) ∧ ∃ g, s 28 = g ∧ Row 3 H' g (earsR n xs)) (fun c hc => ?_) ?_
  · simp (maxSteps := 1000000) (disch := omega) only [h12, h13, S, S1, S2, S3, S4, S5, ST, eq_self, reduceIte, reduceCtorEq, Nat.reduceEqDiff, Nat.reduceAdd]
    refine CallH.by (EarsI_c n w xs H hw (by omega) hx) ?_
    rintro _ H1 ⟨g1, rfl, hg1, p1⟩
    simp (maxSteps := 1000000) (disch := omega) only [S, S1, S2, S3, S4, S5, ST, eq_self, reduceIte, reduceCtorEq, Nat.reduceEqDiff, Nat.reduceAdd]
    exact hc _ _ ⟨h0, hby.pre p1, h12, h13, hw.pre p1, h24, h25, rfl, g1, rfl, hg1.row⟩
  clear h0 hby h12 h13 hw s H h24 h25
  rintro s H ⟨h0, hby, h12, h13, hw, h24, h25, h29, g1, h28, hg1⟩
  refine wpC_cut (fun s H' => s 0 = va ∧ Byt H' va us ∧ s 29 = .bool (decide (Tri1 n xs)) ∧ s 28 = g1 ∧ Row 3 H' g1 (earsR n xs)) (fun c hc => ?_) ?_
  · simp (maxSteps := 1000000) (disch := omega) only [h12, h13, S, S1, S2, S3, S4, S5, ST, eq_self, reduceIte, reduceCtorEq, Nat.reduceEqDiff, Nat.reduceAdd]
    refine CallH.by (EarsS_c n w xs H hw (by omega) hx) ?_
    rintro _ H1 ⟨g2, rfl, hg2, p1⟩
    have f1 : ∀ b : Bool, decide (¬ b = b) = false := by simp
    have f2 : ∀ b : Bool, (b != b) = false := by simp
    have f3 : ∀ b : Bool, (!decide (b = b)) = false := by simp
    have h29' := h29
    by_cases gt : Tri1 n xs
    · have gn := gt.1
      rw [decide_eq_true gt] at h24 h29 ⊢
      rw [decide_eq_true gn] at h25
      simp (maxSteps := 1000000) (disch := omega) only [h28, h24, h25, h29, f1, f2, f3, S, S1, S2, S3, S4, S5, ST, eq_self, reduceIte, reduceCtorEq, Nat.reduceEqDiff, Nat.reduceAdd]
      refine CallH.by (rInts_c g1 g2 _ H1 (hg1.pre p1) hg2.row es) ?_
      rintro _ _ ⟨rfl, rfl⟩
      simp (maxSteps := 1000000) (disch := omega) only [S, S1, S2, S3, S4, S5, ST, eq_self, reduceIte, reduceCtorEq, Nat.reduceEqDiff, Nat.reduceAdd]
      exact hc _ _ ⟨h0, hby.pre p1, by rw [decide_eq_true gt]; exact h29, h28, hg1.pre p1⟩
    · rw [decide_eq_false gt] at h24 h29 ⊢
      by_cases gn : 3 ≤ n ∧ n ≤ 8
      · rw [decide_eq_true gn] at h25
        simp (maxSteps := 1000000) (disch := omega) only [h28, h24, h25, h29, f1, f2, f3, S, S1, S2, S3, S4, S5, ST, eq_self, reduceIte, reduceCtorEq, Nat.reduceEqDiff, Nat.reduceAdd]
        refine CallH.by (rInts_c g1 g2 _ H1 (hg1.pre p1) hg2.row es) ?_
        rintro _ _ ⟨rfl, rfl⟩
        simp (maxSteps := 1000000) (disch := omega) only [S, S1, S2, S3, S4, S5, ST, eq_self, reduceIte, reduceCtorEq, Nat.reduceEqDiff, Nat.reduceAdd]
        exact hc _ _ ⟨h0, hby.pre p1, by rw [decide_eq_false gt]; exact h29, h28, hg1.pre p1⟩
      · rw [decide_eq_false gn] at h25
        simp (maxSteps := 1000000) (disch := omega) only [h28, h24, h25, h29, f1, f2, f3, S, S1, S2, S3, S4, S5, ST, eq_self, reduceIte, reduceCtorEq, Nat.reduceEqDiff, Nat.reduceAdd]
        refine CallH.by (rInts_c g1 g2 _ H1 (hg1.pre p1) hg2.row es) ?_
        rintro _ _ ⟨rfl, rfl⟩
        simp (maxSteps := 1000000) (disch := omega) only [S, S1, S2, S3, S4, S5, ST, eq_self, reduceIte, reduceCtorEq, Nat.reduceEqDiff, Nat.reduceAdd]
        exact hc _ _ ⟨h0, hby.pre p1, by rw [decide_eq_false gt]; exact h29, h28, hg1.pre p1⟩
  clear h0 hby h12 h13 hw s H h24 h25 h29 h28 hg1
  rintro s H ⟨h0, hby, h29, h28, hg1⟩
  refine wpC_cut (fun s H' => s 0 = va ∧ Byt H' va us) (fun c hc => ?_) ?_
  · by_cases gt : Tri1 n xs
    · have e2 := ears_two gt
      have e3 : ¬ ((earsR n xs).length : Int) < 2 := by omega
      rw [decide_eq_true gt] at h29
      simp (maxSteps := 1000000) (disch := omega) only [h29, h28, hg1.len Tryz.underlying34, decide_eq_false e3, S, S1, S2, S3, S4, S5, ST, eq_self, reduceIte, reduceCtorEq, Nat.reduceEqDiff, Nat.reduceAdd]
      exact hc _ _ ⟨h0, hby⟩
    · rw [decide_eq_false gt] at h29
      simp (maxSteps := 1000000) (disch := omega) only [h29, S, S1, S2, S3, S4, S5, ST, eq_self, reduceIte, reduceCtorEq, Nat.reduceEqDiff, Nat.reduceAdd]
      exact hc _ _ ⟨h0, hby⟩
  clear h0 hby s H h29 h28 hg1 fl fs el es hx hxl hn hd
  clear g1 g w xs n d
  rintro s H ⟨h0, hby⟩
  -- turns
  refine wpC_cut (fun s H' => ∃ (n b : Int) (m : Bool) (w : Value) (xs : List Int), s 32 = .int .i64 n ∧ s 33 = w ∧ s 34 = .int .i64 b ∧ s 35 = .bool m ∧ Row 3 H' w xs ∧ xs.length ≤ 5 ∧ (∀ y ∈ xs, I64 y) ∧ I64 b) (fun c hc => ?_) ?_
  · simp (maxSteps := 1000000) (disch := omega) only [h0, S, S1, S2, S3, S4, S5, ST, eq_self, reduceIte, reduceCtorEq, Nat.reduceEqDiff, Nat.reduceAdd]
    refine CallH.by (DrawTurn_c hby) ?_
    rintro _ H1 ⟨n, b, m, w, xs, rfl, hn, hw, hxl, hx, hd, p1⟩
    simp (maxSteps := 1000000) (disch := omega) only [S, S1, S2, S3, S4, S5, ST, eq_self, reduceIte, reduceCtorEq, Nat.reduceEqDiff, Nat.reduceAdd]
    exact hc _ _ ⟨n, b, m, w, xs, rfl, rfl, rfl, rfl, hw, hxl, hx, hd⟩
  clear h0 hby s H
  rintro s H ⟨n, b, m, w, xs, h32, h33, h34, h35, hw, hxl, hx, hd⟩
  have ts : (turnR n xs b m).length ≤ 1000000 := by
    unfold turnR
    split
    · rename_i h
      have h1 := (puts_perm _ _ rfl (trn_list (mir := m) h.1 h.2)).1.length_eq
      rw [List.length_map] at h1
      omega
    · simp
  refine wpC_cut (fun s H' => s 32 = .int .i64 n ∧ s 33 = w ∧ s 34 = .int .i64 b ∧ s 35 = .bool m ∧ Row 3 H' w xs ∧ ∃ g, s 36 = g ∧ s 37 = .bool (decide (turnOk n xs b)) ∧ Row 3 H' g (turnR n xs b m)) (fun c hc => ?_) ?_
  · simp (maxSteps := 1000000) (disch := omega) only [h32, h33, h34, h35, S, S1, S2, S3, S4, S5, ST, eq_self, reduceIte, reduceCtorEq, Nat.reduceEqDiff, Nat.reduceAdd]
    refine CallH.by (TurnI_c n b m w xs H hw (by omega) hx) ?_
    rintro _ H1 ⟨g, rfl, hg, p1⟩
    simp (maxSteps := 1000000) (disch := omega) only [S, S1, S2, S3, S4, S5, ST, eq_self, reduceIte, reduceCtorEq, Nat.reduceEqDiff, Nat.reduceAdd]
    exact hc _ _ ⟨h32, h33, h34, h35, hw.pre p1, g, rfl, rfl, hg.row⟩
  clear h32 h33 h34 h35 hw s H
  rintro s H ⟨h32, h33, h34, h35, hw, g, h36, h37, hg⟩
  refine wpC_cut (fun s H' => s 32 = .int .i64 n ∧ s 33 = w ∧ Row 3 H' w xs ∧ s 36 = g ∧ s 37 = .bool (decide (turnOk n xs b)) ∧ Row 3 H' g (turnR n xs b m)) (fun c hc => ?_) ?_
  · simp (maxSteps := 1000000) (disch := omega) only [h32, h33, h34, h35, S, S1, S2, S3, S4, S5, ST, eq_self, reduceIte, reduceCtorEq, Nat.reduceEqDiff, Nat.reduceAdd]
    refine CallH.by (TurnS_c n b m w xs H hw (by omega) hx) ?_
    rintro _ H1 ⟨g2, rfl, hg2, p1⟩
    have f1 : ∀ b : Bool, decide (¬ b = b) = false := by simp
    have f2 : ∀ b : Bool, (b != b) = false := by simp
    have f3 : ∀ b : Bool, (!decide (b = b)) = false := by simp
    simp (maxSteps := 1000000) (disch := omega) only [h36, h37, f1, f2, f3, S, S1, S2, S3, S4, S5, ST, eq_self, reduceIte, reduceCtorEq, Nat.reduceEqDiff, Nat.reduceAdd]
    refine CallH.by (rInts_c g g2 _ H1 (hg.pre p1) hg2.row ts) ?_
    rintro _ _ ⟨rfl, rfl⟩
    simp (maxSteps := 1000000) (disch := omega) only [S, S1, S2, S3, S4, S5, ST, eq_self, reduceIte, reduceCtorEq, Nat.reduceEqDiff, Nat.reduceAdd]
    exact hc _ _ ⟨h32, h33, hw.pre p1, h36, h37, hg.pre p1⟩
  clear h32 h33 h34 h35 hw s H h36 h37 hg
  rintro s H ⟨h32, h33, hw, h36, h37, hg⟩
  refine wpC_cut (fun s H' => True) (fun c hc => ?_) ?_
  · by_cases gt : turnOk n xs b
    · have tk := turn_keeps (mir := m) gt
      rw [decide_eq_true gt] at h37
      simp (maxSteps := 1000000) (disch := omega) only [h37, h32, h36, S, S1, S2, S3, S4, S5, ST, eq_self, reduceIte, reduceCtorEq, Nat.reduceEqDiff, Nat.reduceAdd]
      refine CallH.by (isTriI_c n g _ H hg (by omega) (tri_64 tk.1)) ?_
      rintro _ H1 ⟨rfl, p1⟩
      rw [triIS, decide_eq_true tk.1, decide_eq_true tk.1.1]
      simp (maxSteps := 1000000) (disch := omega) only [h32, h33, S, S1, S2, S3, S4, S5, ST, eq_self, reduceIte, reduceCtorEq, Nat.reduceEqDiff, Nat.reduceAdd]
      refine CallH.by (EarsI_c n w xs H1 (hw.pre p1) (by omega) hx) ?_
      rintro _ H2 ⟨g1, rfl, hg1, p2⟩
      rw [decide_eq_true gt.1]
      simp (maxSteps := 1000000) (disch := omega) only [h32, h36, S, S1, S2, S3, S4, S5, ST, eq_self, reduceIte, reduceCtorEq, Nat.reduceEqDiff, Nat.reduceAdd]
      refine CallH.by (EarsI_c n g _ H2 (hg.pre (p1.trans p2)) (by omega) (tri_64 tk.1)) ?_
      rintro _ H3 ⟨g2, rfl, hg2, p3⟩
      rw [decide_eq_true tk.1]
      have e4 : ¬ ¬ ((earsR n xs).length : Int) = ((earsR n (turnR n xs b m)).length : Int) := fun q => q (by rw [tk.2])
      simp (maxSteps := 1000000) (disch := omega) only [hg1.row.len Tryz.underlying34, hg2.row.len Tryz.underlying34, decide_eq_false e4, S, S1, S2, S3, S4, S5, ST, eq_self, reduceIte, reduceCtorEq, Nat.reduceEqDiff, Nat.reduceAdd]
      exact hc _ _ trivial
    · rw [decide_eq_false gt] at h37
      simp (maxSteps := 1000000) (disch := omega) only [h37, S, S1, S2, S3, S4, S5, ST, eq_self, reduceIte, reduceCtorEq, Nat.reduceEqDiff, Nat.reduceAdd]
      exact hc _ _ trivial
  rintro s H _
  simp (maxSteps := 1000000) (disch := omega) only [S, S1, S2, S3, S4, S5, ST, eq_self, reduceIte, reduceCtorEq, Nat.reduceEqDiff, Nat.reduceAdd]
  refine hQ _ _ _ ?_
  simp (maxSteps := 1000000) (disch := omega) only [S, S1, S2, S3, S4, S5, ST, eq_self, reduceIte, reduceCtorEq, Nat.reduceEqDiff, Nat.reduceAdd]
end Go.Proofs.YtdgapefbbdfpbaaGreat.Ai
namespace Go.Proofs.YtdgapefbbdfpbaaGreat.Ai
open Go Go.RowKit
set_option linter.unusedVariables false
set_option linter.unusedSimpArgs false
def byts (zs : List Int) : List Value := zs.map fun z => .int .u8 z
theorem byts_len (xs : List Int) : (byts xs).length = xs.length := by simp [byts]
theorem byts_at (xs : List Int) {i : Nat} (h : i < xs.length) : (byts xs)[i]? = some (.int .u8 (xs.getD i 0)) := by
  simp [byts, h, List.getElem?_eq_getElem]
theorem Args.addBytes {P : Program} {t e : TypeId} {W : World} {base : Nat} {a : Option Addr} {len cap : Nat} {zs : List Int} {μ : Mu} {H : AH} (h : Args P μ H W) (hc : P.cellsOf e = 1) (hu : P.underlying t = some (.slice e))
    (hok : Value.okWide P W .any base t (.slice a len cap)) (hrow : IsRow .u8 W a len cap zs) :
    ∃ (μ' : Mu) (obj : AObj) (va : Value) (us : List Value), Args P μ' (H ++ [obj]) W ∧ μ.Le μ' ∧ TRel μ' va (.slice a len cap) ∧ RowV e (H ++ [obj]) va us ∧ (∀ i, i < us.length → ∃ b : Nat, us.getD i undef = .int .u8 (b : Int) ∧ b < 256) ∧ (us.length : Int) ≤ 9223372036854775807 := by
  rcases hrow with ⟨rfl, rfl, rfl, rfl⟩ | ⟨x, rfl, hl, hm, hz, hcell, hwf⟩
  · refine ⟨μ, .dead, .slice none 0 0, [], ⟨h.rel.phantom .dead, ?_⟩, Mu.Le.refl _, ⟨rfl, rfl, rfl⟩, .inl ⟨rfl, rfl⟩, fun i hi => absurd hi (by simp), by simp⟩
    intro o y hy
    rw [getElem?_snoc] at hy
    split at hy
    · cases hy; rfl
    · exact h.ro o y hy
  · simp only [Value.okWide, hu, Cell.okWide, Cell.ok] at hok
    obtain ⟨_, _, _, hspot, row, cells, hsh, _⟩ := hok
    have hblk : x.block < W.heap.size := by
      unfold World.shape? at hsh
      cases hb : W.heap[x.block]? with
      | none => rw [hb] at hsh; cases hsh
      | some o => exact (Array.getElem?_eq_some_iff.1 hb).1
    have hx : ∀ i, x.add i = ⟨x.block, x.off + i, none⟩ := by intro i; cases x; simp_all [Addr.add]
    have hfree : μ H.length = none := h.rel.dom _ (Nat.le_refl _)
    have hle := Mu.le_put (L := ⟨x.block, x.off, cap, 1⟩) hfree
    have hro : ∀ (o : Nat) (y : AObj), (H ++ [AObj.cells (byts zs) e true])[o]? = some y → y.wr = false := by
      intro o y hy
      rw [getElem?_snoc] at hy
      split at hy
      · cases hy; rfl
      · exact h.ro o y hy
    refine ⟨μ.put H.length ⟨x.block, x.off, cap, 1⟩, .cells (byts zs) e true, .slice (some ⟨H.length, 0, none⟩) len len, byts (zs.take len), ⟨?_, hro⟩, hle, ?_, ?_, ?_, ?_⟩
    · refine ⟨?_, ?_, ?_, ?_⟩
      · intro o ho
        simp only [List.length_append, List.length_cons, List.length_nil] at ho
        rw [Mu.put_other _ _ _ (by omega)]; exact h.rel.dom o (by omega)
      · intro o vs t' ro L ho hL
        rw [getElem?_snoc] at ho
        split at ho
        · rename_i eo
          subst eo
          simp only [Option.some.injEq, AObj.cells.injEq] at ho
          obtain ⟨rfl, rfl, rfl⟩ := ho
          rw [Mu.put_same] at hL
          cases hL
          refine ⟨hblk, by simp, hc.symm, by rw [byts_len]; show zs.length ≤ cap; omega, ?_, fun h => by cases h⟩
          intro i v hv
          have hi : i < zs.length := by have := (List.getElem?_eq_some_iff.1 hv).1; rwa [byts_len] at this
          rw [byts_at zs hi] at hv
          cases hv
          refine ⟨_, ?_, rfl⟩
          rw [← hx]; exact hcell i hi
        · rename_i eo
          rw [Mu.put_other _ _ _ eo] at hL
          obtain ⟨h2, h3, h4, h5, h6, h7⟩ := h.rel.cells_ o vs t' ro L ho hL
          refine ⟨h2, h3, h4, h5, ?_, h7⟩
          intro i v hv
          obtain ⟨cv, g1, g2⟩ := h6 i v hv
          exact ⟨cv, g1, g2.mono hle⟩
      · intro o es L ho hL
        rw [getElem?_snoc] at ho
        split at ho
        · cases ho
        · have := h.ro o _ ho
          cases this
      · intro o o' y y' L L' hne ho ho' hw
        have := hro o y ho
        rw [this] at hw; cases hw
    · refine ⟨rfl, rfl, x, cap, rfl, hl, .inr ⟨⟨x.block, x.off, cap, 1⟩, Mu.put_same _ _ _, ?_, by simp⟩⟩
      have := hx 0
      cases x
      simp_all
    · refine .inr ⟨H.length, 0, byts zs, true, ?_, at_new .., ?_, ?_⟩
      · have : (byts (zs.take len)).length = len := by rw [byts_len]; simp; omega
        rw [this]
      · rw [byts_len, byts_len]; simp; omega
      · have : (byts (zs.take len)).length = len := by rw [byts_len]; simp; omega
        rw [this, List.drop_zero]
        simp [byts, List.map_take]
    · intro i hi
      rw [byts_len] at hi
      have h1 := byts_at (zs.take len) hi
      have hm2 : (zs.take len).getD i 0 ∈ zs.take len := by
        rw [List.getD_eq_getElem?_getD, List.getElem?_eq_getElem hi]
        exact List.getElem_mem hi
      have := hwf _ (List.mem_of_mem_take hm2)
      simp [Lit.wf, IntKind.min, IntKind.max, IntKind.signed, IntKind.bits] at this
      rw [List.getD_eq_getElem?_getD, h1]
      have h0 : 0 ≤ (zs.take len).getD i 0 ∧ (zs.take len).getD i 0 < 256 := by
        simp only [List.getD_eq_getElem?_getD, List.getElem?_take] at this ⊢
        omega
      exact ⟨((zs.take len).getD i 0).toNat, by rw [Int.toNat_of_nonneg h0.1]; rfl, by omega⟩
    · rw [byts_len, List.length_take]
      unfold maxLen at hm
      omega
end Go.Proofs.YtdgapefbbdfpbaaGreat.Ai
