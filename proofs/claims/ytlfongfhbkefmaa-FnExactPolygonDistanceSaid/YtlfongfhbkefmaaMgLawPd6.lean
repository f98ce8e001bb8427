/- Texts of this claim, joined: Poly, Pd, LPd. -/
import Derived.Test.YtlfongfhbkefmaaProg
import Derived.KernelRfl
import Derived.Test.YtlfongfhbkefmaaMgLawPd5
namespace Go.Proofs.Ytlfongfhbkefmaa.Ai
open Go
def ords197 : List (Nat × List (Nat × Bool)) := []
def cd197 : Cd := (.seq (.reg [⟨⟨some 4, Op.assign (Operand.const (Value.bool false)), none⟩, []⟩]) (.seq (.reg [⟨⟨some 5, Op.move (Operand.tmp 0), none⟩, []⟩,
  ⟨⟨some 6, Op.move (Operand.tmp 1), none⟩, []⟩,
  ⟨⟨some 7, Op.call { callee := (Callee.value (Operand.func 241)), args := #[(Operand.tmp 5), (Operand.tmp 6)], argTypes := #[38, 38] }, none⟩, []⟩,
  ⟨⟨some 8, Op.call { callee := (Callee.builtin Builtin.len), args := #[(Operand.tmp 7)], argTypes := #[38] }, none⟩, []⟩,
  ⟨⟨some 9, Op.binOp BinOp.eql 3 (Operand.tmp 8) (Operand.const (Value.int IntKind.i64 1)) 3, none⟩, []⟩,
  ⟨⟨some 4, Op.assign (Operand.tmp 9), none⟩, []⟩]) .ret))
theorem sl197 : slim Try.f197.ntmps ords197 (Try.f197.body.getD .skip) = some cd197 := by kernel_rfl
theorem in197 {args : List Value} {H : AH} {R : Value → AH → Prop} (hl : args.length = 2) (h : ∀ (Q : Exit → Sl → AH → Prop), (∀ e s H, endA Try.prog [ResultVar.tmp 4] R e s H → Q e s H) → wpC Try.prog cd197 Q (enterA args) H) : ACalls Try.prog 197 args H R :=
  ACalls.intro (by kernel_rfl) Try.func197 rfl (by kernel_rfl) sl197 hl (of_decide_eq_true (by kernel_rfl)) (by kernel_rfl) h
def ords121 : List (Nat × List (Nat × Bool)) := []
def cd121 : Cd := (.seq (.reg [⟨⟨some 2, Op.alloc 28, none⟩, []⟩,
  ⟨⟨some 3, Op.assign (Operand.const (Value.bool false)), none⟩, []⟩]) (.seq (.seq (.reg [⟨⟨some 4, Op.move (Operand.tmp 0), none⟩, []⟩,
  ⟨⟨some 5, Op.call { callee := (Callee.value (Operand.func 192)), args := #[(Operand.tmp 4)], argTypes := #[3] }, none⟩, []⟩,
  ⟨⟨some 6, Op.unOp UnOp.not 4 (Operand.tmp 5), none⟩, []⟩]) (.cond (Operand.tmp 6) (.seq (.reg [⟨⟨some 7, Op.build 28 #[], none⟩, []⟩,
  ⟨⟨none, Op.store 28 (Operand.tmp 2) (Operand.tmp 7), none⟩, []⟩,
  ⟨⟨some 3, Op.assign (Operand.const (Value.bool false)), none⟩, []⟩]) .ret) .skip)) (.seq (.reg [⟨⟨some 8, Op.move (Operand.tmp 0), none⟩, []⟩,
  ⟨⟨some 9, Op.call { callee := (Callee.value (Operand.func 196)), args := #[(Operand.tmp 8)], argTypes := #[3] }, none⟩, []⟩,
  ⟨⟨some 10, Op.call { callee := (Callee.value (Operand.func 75)), args := #[(Operand.tmp 9), (Operand.func 197)], argTypes := #[26, 43] }, none⟩, []⟩,
  ⟨⟨none, Op.store 28 (Operand.tmp 2) (Operand.tmp 10), none⟩, []⟩,
  ⟨⟨some 3, Op.assign (Operand.const (Value.bool true)), none⟩, []⟩]) .ret)))
theorem sl121 : slim Try.f121.ntmps ords121 (Try.f121.body.getD .skip) = some cd121 := by kernel_rfl
set_option maxRecDepth 20000 in
theorem in121 {args : List Value} {H : AH} {R : Value → AH → Prop} (hl : args.length = 1) (h : ∀ (Q : Exit → Sl → AH → Prop), (∀ e s H, endA Try.prog [ResultVar.cell 2 28, ResultVar.tmp 3] R e s H → Q e s H) → wpC Try.prog cd121 Q (enterA args) H) : ACalls Try.prog 121 args H R :=
  ACalls.intro (by kernel_rfl) Try.func121 rfl (by kernel_rfl) sl121 hl (of_decide_eq_true (by kernel_rfl)) (by kernel_rfl) h
def ords117 : List (Nat × List (Nat × Bool)) := [(8, [(0, false), (1, false), (2, false), (3, false), (4, false), (5, false), (6, false), (7, false), (8, false), (9, false), (10, true), (11, false), (12, false)])]
def cd117 : Cd := (.seq (.reg [⟨⟨some 2, Op.alloc 28, none⟩, []⟩]) (.seq (.reg [⟨⟨some 6, Op.move (Operand.tmp 0), none⟩, []⟩,
  ⟨⟨some 7, Op.move (Operand.tmp 0), none⟩, []⟩,
  ⟨⟨some 8, Op.call { callee := (Callee.value (Operand.func 189)), args := #[(Operand.tmp 7)], argTypes := #[3] }, none⟩, []⟩,
  ⟨⟨some 9, Op.buildSlice 38 0 #[], none⟩, []⟩,
  ⟨⟨some 10, Op.call { callee := (Callee.value (Operand.func 188)), args := #[(Operand.tmp 6), (Operand.tmp 8), (Operand.tmp 9)], argTypes := #[3, 38, 38] }, none⟩, []⟩,
  ⟨⟨some 11, Op.buildSlice 22 0 #[], none⟩, []⟩,
  ⟨⟨some 12, Op.build 28 #[(0, (Operand.tmp 10)), (1, (Operand.tmp 11))], none⟩, []⟩,
  ⟨⟨some 3, Op.alloc 28, none⟩, []⟩,
  ⟨⟨none, Op.store 28 (Operand.tmp 3) (Operand.tmp 12), none⟩, []⟩]) (.seq (.seq (.reg [⟨⟨some 4, Op.assign (Operand.const (Value.int IntKind.i64 0)), none⟩, []⟩]) (.block 0 (.loop (.seq (.seq (.reg [⟨⟨some 13, Op.move (Operand.tmp 4), none⟩, []⟩,
  ⟨⟨some 14, Op.fieldAddr 28 (Operand.tmp 3) 0, none⟩, []⟩,
  ⟨⟨some 15, Op.load 26 (Operand.tmp 14), none⟩, []⟩,
  ⟨⟨some 16, Op.call { callee := (Callee.builtin Builtin.len), args := #[(Operand.tmp 15)], argTypes := #[26] }, none⟩, []⟩,
  ⟨⟨some 17, Op.binOp BinOp.lss 3 (Operand.tmp 13) (Operand.tmp 16) 3, none⟩, []⟩]) (.cond (Operand.tmp 17) .skip (.exit 0))) (.seq (.block 1 (.seq (.reg [⟨⟨some 20, Op.move (Operand.tmp 4), none⟩, []⟩,
  ⟨⟨some 21, Op.binOp BinOp.add 3 (Operand.tmp 20) (Operand.const (Value.int IntKind.i64 1)) 3, none⟩, []⟩,
  ⟨⟨some 5, Op.assign (Operand.tmp 21), none⟩, []⟩]) (.block 2 (.loop (.seq (.seq (.reg [⟨⟨some 22, Op.move (Operand.tmp 5), none⟩, []⟩,
  ⟨⟨some 23, Op.fieldAddr 28 (Operand.tmp 3) 0, none⟩, []⟩,
  ⟨⟨some 24, Op.load 26 (Operand.tmp 23), none⟩, []⟩,
  ⟨⟨some 25, Op.call { callee := (Callee.builtin Builtin.len), args := #[(Operand.tmp 24)], argTypes := #[26] }, none⟩, []⟩,
  ⟨⟨some 26, Op.binOp BinOp.lss 3 (Operand.tmp 22) (Operand.tmp 25) 3, none⟩, []⟩]) (.cond (Operand.tmp 26) .skip (.exit 2))) (.seq (.block 3 (.seq (.reg [⟨⟨some 29, Op.fieldAddr 28 (Operand.tmp 3) 0, none⟩, []⟩,
  ⟨⟨some 30, Op.load 26 (Operand.tmp 29), none⟩, []⟩,
  ⟨⟨some 31, Op.move (Operand.tmp 4), none⟩, []⟩,
  ⟨⟨some 32, Op.indexAddr 26 (Operand.tmp 30) (Operand.tmp 31), none⟩, []⟩,
  ⟨⟨some 33, Op.load 38 (Operand.tmp 32), none⟩, []⟩,
  ⟨⟨some 34, Op.fieldAddr 28 (Operand.tmp 3) 0, none⟩, []⟩,
  ⟨⟨some 35, Op.load 26 (Operand.tmp 34), none⟩, []⟩,
  ⟨⟨some 36, Op.move (Operand.tmp 5), none⟩, []⟩,
  ⟨⟨some 37, Op.indexAddr 26 (Operand.tmp 35) (Operand.tmp 36), none⟩, []⟩,
  ⟨⟨some 38, Op.load 38 (Operand.tmp 37), none⟩, []⟩,
  ⟨⟨some 39, Op.call { callee := (Callee.value (Operand.func 69)), args := #[(Operand.tmp 33), (Operand.tmp 38)], argTypes := #[38, 38] }, none⟩, []⟩,
  ⟨⟨some 40, Op.call { callee := (Callee.builtin Builtin.len), args := #[(Operand.tmp 39)], argTypes := #[38] }, none⟩, []⟩,
  ⟨⟨some 41, Op.binOp BinOp.eql 3 (Operand.tmp 40) (Operand.const (Value.int IntKind.i64 1)) 3, none⟩, []⟩]) (.cond (Operand.tmp 41) (.reg [⟨⟨some 42, Op.fieldAddr 28 (Operand.tmp 3) 1, none⟩, []⟩,
  ⟨⟨some 43, Op.load 22 (Operand.tmp 42), none⟩, []⟩,
  ⟨⟨some 44, Op.move (Operand.tmp 4), none⟩, []⟩,
  ⟨⟨some 45, Op.move (Operand.tmp 5), none⟩, []⟩,
  ⟨⟨some 46, Op.build 81 #[(0, (Operand.tmp 44)), (1, (Operand.tmp 45))], none⟩, []⟩,
  ⟨⟨some 47, Op.buildSlice 22 1 #[(0, (Operand.tmp 46))], none⟩, []⟩,
  ⟨⟨some 48, Op.call { callee := (Callee.builtin Builtin.append), args := #[(Operand.tmp 43), (Operand.tmp 47)], argTypes := #[22, 22] }, none⟩, []⟩,
  ⟨⟨some 49, Op.fieldAddr 28 (Operand.tmp 3) 1, none⟩, []⟩,
  ⟨⟨none, Op.store 22 (Operand.tmp 49) (Operand.tmp 48), none⟩, []⟩]) .skip))) (.reg [⟨⟨some 27, Op.move (Operand.tmp 5), none⟩, []⟩,
  ⟨⟨some 28, Op.binOp BinOp.add 3 (Operand.tmp 27) (Operand.const (Value.int IntKind.i64 1)) 3, none⟩, []⟩,
  ⟨⟨some 5, Op.assign (Operand.tmp 28), none⟩, []⟩]))))))) (.reg [⟨⟨some 18, Op.move (Operand.tmp 4), none⟩, []⟩,
  ⟨⟨some 19, Op.binOp BinOp.add 3 (Operand.tmp 18) (Operand.const (Value.int IntKind.i64 1)) 3, none⟩, []⟩,
  ⟨⟨some 4, Op.assign (Operand.tmp 19), none⟩, []⟩])))))) (.seq (.reg [⟨⟨some 50, Op.load 28 (Operand.tmp 3), none⟩, []⟩,
  ⟨⟨none, Op.store 28 (Operand.tmp 2) (Operand.tmp 50), none⟩, []⟩]) .ret))))
theorem sl117 : slim Try.f117.ntmps ords117 (Try.f117.body.getD .skip) = some cd117 := by kernel_rfl
set_option maxRecDepth 20000 in
theorem in117 {args : List Value} {H : AH} {R : Value → AH → Prop} (hl : args.length = 1) (h : ∀ (Q : Exit → Sl → AH → Prop), (∀ e s H, endA Try.prog [ResultVar.cell 2 28] R e s H → Q e s H) → wpC Try.prog cd117 Q (enterA args) H) : ACalls Try.prog 117 args H R :=
  ACalls.intro (by kernel_rfl) Try.func117 rfl (by kernel_rfl) sl117 hl (of_decide_eq_true (by kernel_rfl)) (by kernel_rfl) h
end Go.Proofs.Ytlfongfhbkefmaa.Ai
namespace Go.Proofs.Ytlfongfhbkefmaa.Ai
open Go Go.RowKit
set_option linter.unusedVariables false
set_option linter.unusedSimpArgs false
/-- two lists differ by one number -/
def exP (x y : List Int) : Bool := decide ((without x y).length = 1)
theorem isExchange_c (v w : Value) (xs ys : List Int) (H : AH) (hr : Row 3 H v xs) (hr2 : Row 3 H w ys) (hl : xs.length ≤ 1099511627776) (hl2 : ys.length ≤ 1099511627776) :
    ACalls Try.prog 197 [v, w] H fun r H' => r = .bool (exP xs ys) ∧ H <+: H' := by
  refine in197 rfl ?_
  intro Q hQ
  simp (maxSteps := 1000000) (disch := omega) only [cd197, S, S1, S2, S3, S4, S5, ST, eq_self, reduceIte, reduceCtorEq, Nat.reduceEqDiff, Nat.reduceAdd]
  refine CallH.by (without_c v w xs ys H hr hl hr2 hl2) ?_
  rintro u A ⟨hu, pA⟩
  simp (maxSteps := 1000000) (disch := omega) only [hu.row.len Try.underlying38, S, S1, S2, S3, S4, S5, ST, eq_self, reduceIte, reduceCtorEq, Nat.reduceEqDiff, Nat.reduceAdd]
  refine hQ _ _ _ ?_
  simp (maxSteps := 1000000) (disch := omega) only [S, S1, S2, S3, S4, S5, ST, eq_self, reduceIte, reduceCtorEq, Nat.reduceEqDiff, Nat.reduceAdd]
  refine ⟨?_, pA⟩
  unfold exP
  rw [Value.bool.injEq, decide_eq_decide]
  constructor <;> intro h <;> omega
/-- what PolygonSpace tells -/
def polyL (n : Int) : List (List Int) := if 3 ≤ n ∧ n ≤ 8 then triA n else []
def polyP (n : Int) : List (Int × Int) := if 3 ≤ n ∧ n ≤ 8 then steps exP (triA n) else []
set_option maxRecDepth 20000 in
set_option maxHeartbeats 1000000 in
theorem PolyI_c (n : Int) (H : AH) :
    ACalls Try.prog 121 [.int .i64 n] H fun r H' => ∃ a b, r = .tuple (List.toArray [.agg (List.toArray [a, b]), .bool (decide (3 ≤ n ∧ n ≤ 8))]) ∧ SpIn H.length H'.length H' a b (polyL n) (polyP n) ∧ H <+: H' := by
  refine in121 rfl ?_
  intro Q hQ
  simp (maxSteps := 1000000) (disch := omega) only [cd121, alloc_sp, S, S1, S2, S3, S4, S5, ST, eq_self, reduceIte, reduceCtorEq, Nat.reduceEqDiff, Nat.reduceAdd]
  generalize hA : H ++ [AObj.cells [.slice none 0 0, .slice none 0 0] 28 false] = A
  have pA : H <+: A := by rw [← hA]; exact List.prefix_append _ _
  have cA : A[H.length]? = some (.cells [.slice none 0 0, .slice none 0 0] 28 false) := by rw [← hA]; exact at_new ..
  have lA : A.length = H.length + 1 := by rw [← hA]; simp
  refine CallH.by (isPolygon_c n A) ?_
  rintro _ _ ⟨rfl, rfl⟩
  simp (maxSteps := 1000000) (disch := omega) only [S, S1, S2, S3, S4, S5, ST, eq_self, reduceIte, reduceCtorEq, Nat.reduceEqDiff, Nat.reduceAdd]
  refine brD.intro (fun e => ?_) (fun e => ?_)
  · have hdg : dgI n 100 = dgs n n.toNat := by
      have := dgI_eq ⟨n.toNat, by omega⟩ (by show 3 ≤ n.toNat; omega)
      have e1 : ((n.toNat : Nat) : Int) = n := by omega
      simpa [e1] using this
    obtain ⟨hk1, hk2, hk3, hk4, hk5, hk6⟩ := triA_ok e
    have hpL : polyL n = triA n := by unfold polyL; rw [if_pos e]
    have hpP : polyP n = steps exP (triA n) := by unfold polyP; rw [if_pos e]
    simp (maxSteps := 1000000) (disch := omega) only [e, S, S1, S2, S3, S4, S5, ST, eq_self, reduceIte, reduceCtorEq, Nat.reduceEqDiff, Nat.reduceAdd]
    refine CallH.by (triangulations_c n A e hdg) ?_
    rintro a B ⟨hL, pB⟩
    obtain ⟨us, r1, r2, r3⟩ := hL.parts
    have hsts : Sts B a us (triA n) := ⟨r1, r2, fun i hi => (r3 i hi).row.1, fun i hi => by
      have : (triA n).getD i [] ∈ triA n := by simp [hi]
      have := hk3 _ this; omega, by omega, hk1⟩
    have hS : StepFn B 197 [] (triA n) exP := fun v w x y H2 hp2 hv hw hx hy => isExchange_c v w x y H2 hv hw (by have := hk3 _ hx; omega) (by have := hk3 _ hy; omega)
    simp (maxSteps := 1000000) (disch := omega) only [S, S1, S2, S3, S4, S5, ST, eq_self, reduceIte, reduceCtorEq, Nat.reduceEqDiff, Nat.reduceAdd]
    refine CallH.by (spaceOf_c hsts (by omega) 197 [] exP hS (List.prefix_refl _)) ?_
    rintro _ C ⟨st, rfl, hst, pC⟩
    have pBC := pB.trans pC
    have cC := pre_at pBC cA
    have hrowC : SpRow C a st (triA n) (steps exP (triA n)) := ⟨⟨_, (hL.row).pre pC⟩, hst.row⟩
    have hstore := hrowC.store cC rfl
    simp (maxSteps := 1000000) (disch := omega) only [hstore, S, S1, S2, S3, S4, S5, ST, eq_self, reduceIte, reduceCtorEq, Nat.reduceEqDiff, Nat.reduceAdd]
    have d4 := at_set (d := .cells [a, st] 28 false) cC
    have lB := pB.length_le
    have lC := pC.length_le
    refine hQ _ _ _ (end_cell2 _ _ _ _ _ _ _ (.agg (List.toArray [a, st])) (.bool true) ?_ rfl ?_ rfl ⟨a, st, by rw [decide_eq_true e], ⟨B.length, by omega, by simp; omega, ?_, ?_⟩, ?_⟩)
    · simp (maxSteps := 1000000) (disch := omega) only [ld_agg ag28 cs28 d4, S, S1, S2, S3, S4, S5, ST, eq_self, reduceIte, reduceCtorEq, Nat.reduceEqDiff, Nat.reduceAdd]
    · simp (maxSteps := 1000000) (disch := omega) only [S, S1, S2, S3, S4, S5, ST, eq_self, reduceIte, reduceCtorEq, Nat.reduceEqDiff, Nat.reduceAdd]
    · rw [hpL]
      rcases hL.pre pC with q | ⟨o, us', q1, q2⟩
      · exact .inl q
      · refine .inr ⟨o, us', q1, (q2.move fun j y hj1 hj2 hy => ?_).wide (by omega) (Nat.le_refl _)⟩
        rw [List.getElem?_set_ne (by omega)]; exact hy
    · rw [hpP]
      have hI := InP.of hst
      rcases hI with q | ⟨o, zs, q1, q2, q3, q4, q5⟩
      · exact .inl q
      · exact .inr ⟨o, zs, q1, q2, by simpa using q3, by rw [List.getElem?_set_ne (by omega)]; exact q4, q5⟩
    · exact pre_set (pA.trans pBC) (Nat.le_refl _) _
  · have hpL : polyL n = [] := by unfold polyL; rw [if_neg e]
    have hpP : polyP n = [] := by unfold polyP; rw [if_neg e]
    have hstore := st_ss cA rfl none none 0 0 0 0
    simp (maxSteps := 1000000) (disch := omega) only [e, bld_sp0, hstore, S, S1, S2, S3, S4, S5, ST, eq_self, reduceIte, reduceCtorEq, Nat.reduceEqDiff, Nat.reduceAdd]
    have d4 := at_set (d := .cells [.slice none 0 0, .slice none 0 0] 28 false) cA
    refine hQ _ _ _ (end_cell2 _ _ _ _ _ _ _ (.agg (List.toArray [.slice none 0 0, .slice none 0 0])) (.bool false) ?_ rfl ?_ rfl ⟨_, _, by rw [decide_eq_false e], ⟨H.length, Nat.le_refl _, by simp; omega, ?_, ?_⟩, ?_⟩)
    · simp (maxSteps := 1000000) (disch := omega) only [ld_agg ag28 cs28 d4, S, S1, S2, S3, S4, S5, ST, eq_self, reduceIte, reduceCtorEq, Nat.reduceEqDiff, Nat.reduceAdd]
    · simp (maxSteps := 1000000) (disch := omega) only [S, S1, S2, S3, S4, S5, ST, eq_self, reduceIte, reduceCtorEq, Nat.reduceEqDiff, Nat.reduceAdd]
    · rw [hpL]; exact .inl ⟨rfl, rfl⟩
    · rw [hpP]; exact .inl ⟨rfl, rfl⟩
    · exact pre_set pA (Nat.le_refl _) _
set_option maxRecDepth 20000 in
set_option maxHeartbeats 4000000 in
theorem l8Polygon_c (n : Int) (H : AH) (hn : 3 ≤ n ∧ n ≤ 8) :
    ACalls Try.prog 117 [.int .i64 n] H fun r H' => ∃ a b, r = .agg (List.toArray [a, b]) ∧ SpIn H.length H'.length H' a b (triA n) (steps exP (triA n)) ∧ H <+: H' := by
  obtain ⟨hk1, hk2, hk3, hk4, hk5, hk6⟩ := triA_ok hn
  refine in117 rfl ?_
  intro Q hQ
  simp (maxSteps := 1000000) (disch := omega) only [cd117, alloc_sp, S, S1, S2, S3, S4, S5, ST, eq_self, reduceIte, reduceCtorEq, Nat.reduceEqDiff, Nat.reduceAdd]
  generalize hA : H ++ [AObj.cells [.slice none 0 0, .slice none 0 0] 28 false] = A
  have pA : H <+: A := by rw [← hA]; exact List.prefix_append _ _
  have cA : A[H.length]? = some (.cells [.slice none 0 0, .slice none 0 0] 28 false) := by rw [← hA]; exact at_new ..
  have lA : A.length = H.length + 1 := by rw [← hA]; simp
  refine CallH.by (l8Diagonals_c n A (by omega)) ?_
  rintro va B ⟨hva, pB⟩
  generalize hall : dgs n n.toNat = all at *
  simp (maxSteps := 1000000) (disch := omega) only [S, S1, S2, S3, S4, S5, ST, eq_self, reduceIte, reduceCtorEq, Nat.reduceEqDiff, Nat.reduceAdd]
  generalize hC : B ++ [AObj.cells [] 3 false] = C
  have pC : B <+: C := by rw [← hC]; exact List.prefix_append _ _
  have cC : C[B.length]? = some (.cells (ints []) 3 false) := by rw [← hC]; exact at_new ..
  have lC : C.length = B.length + 1 := by rw [← hC]; simp
  have lB := pB.length_le
  refine CallH.by (l8Fill_c n (n - 3).toNat (by omega) (by omega) va all hk4 hk5 hk6 all.length [] (.slice (some ⟨B.length, 0, none⟩) 0 0) B.length C (hva.row.pre pC) (.inr ⟨B.length, [], rfl, Nat.le_refl _, by omega, cC, rfl⟩) (by omega) (Nat.le_refl _) (by simp) (fun y hy => absurd hy (by simp)) (fun _ => rfl) (fun h => absurd h (by simp))) ?_
  rintro a D ⟨hL0, pD⟩
  have htri : triA n = tex all (n - 3).toNat all.length [] := by unfold triA; rw [hall]
  rw [← htri] at hL0
  have hL : InL A.length D.length 38 3 D a (triA n) := hL0.wide lB (Nat.le_refl _)
  obtain ⟨us, r1, r2, r3⟩ := hL.parts
  have ha : isTup a = false := r1.tup
  generalize hls : triA n = ls at *
  obtain ⟨pa, hpa⟩ := r1.shape
  have lD := pD.length_le
  have hb2 := bld_sp2 pa (some ⟨D.length, 0, none⟩) us.length us.length 0 0
  rw [← hpa] at hb2
  simp (maxSteps := 1000000) (disch := omega) only [hb2, alloc_sp, S, S1, S2, S3, S4, S5, ST, eq_self, reduceIte, reduceCtorEq, Nat.reduceEqDiff, Nat.reduceAdd]
  generalize hE : D ++ [AObj.cells [] 81 false] = E
  have pE : D <+: E := by rw [← hE]; exact List.prefix_append _ _
  have lE : E.length = D.length + 1 := by rw [← hE]; simp
  have m0 : MineP 81 D E (.slice (some ⟨D.length, 0, none⟩) 0 0) [] := by rw [← hE]; exact MineP.nil0 (P := Try.prog) D D (Nat.le_refl _)
  have st1 := st_ss (at_new E (.cells [.slice none 0 0, .slice none 0 0] 28 false)) rfl pa (some ⟨D.length, 0, none⟩) us.length us.length 0 0
  rw [set_new, ← hpa] at st1
  simp (maxSteps := 1000000) (disch := omega) only [st1, S, S1, S2, S3, S4, S5, ST, eq_self, reduceIte, reduceCtorEq, Nat.reduceEqDiff, Nat.reduceAdd]
  generalize hG : E ++ [AObj.cells [a, .slice (some ⟨D.length, 0, none⟩) 0 0] 28 false] = G
  have pG : E <+: G := by rw [← hG]; exact List.prefix_append _ _
  have cG : G[E.length]? = some (.cells [a, .slice (some ⟨D.length, 0, none⟩) 0 0] 28 false) := by rw [← hG]; exact at_new ..
  have lG : G.length = E.length + 1 := by rw [← hG]; simp
  have pDG := pE.trans pG
  have pAD := (pB.trans (pC.trans pD))
  have rowA : ∀ {H'}, D <+: H' → RowV 38 H' a us := fun hp => r1.pre hp
  have rowI : ∀ {H'} (i : Nat), i < ls.length → D <+: H' → Row 3 H' (us.getD i undef) (ls.getD i []) := fun i hi hp => (r3 i hi).row.1.pre hp
  have sm : ∀ i, i < ls.length → (ls.getD i []).length ≤ 5 := fun i hi => hk3 _ (by simp [hi])
  refine LoopH.by (fun m s H' => ∃ i st, m + i = ls.length ∧ s 2 = .pointer (some ⟨H.length, 0, none⟩) ∧ s 3 = .pointer (some ⟨E.length, 0, none⟩) ∧ s 4 = .int .i64 ((i : Nat) : Int) ∧ H'[E.length]? = some (.cells [a, st] 28 false) ∧ (rowO st = D.length ∨ G.length ≤ rowO st) ∧ st ≠ .slice none 0 0 ∧ MineP 81 D H' st (stpO exP ls i) ∧ D <+: H') ls.length ?_ ?_
  · exact ⟨0, .slice (some ⟨D.length, 0, none⟩) 0 0, by simp, rfl, rfl, rfl, cG, .inl rfl, (by intro e; cases e), m0.pre pG, pDG⟩
  rintro m s H' ⟨i, st, hm, s2, s3, s4, hc5, hst, hsn, hmn, hpp⟩
  simp (maxSteps := 1000000) (disch := omega) only [s2, s3, s4, cell_of hc5, (rowA hpp).len Try.underlying26, r2, S, S1, S2, S3, S4, S5, ST, eq_self, reduceIte, reduceCtorEq, Nat.reduceEqDiff, Nat.reduceAdd]
  refine brD.intro (fun g => ?_) (fun g => ?_)
  rotate_left
  · have hi : i = ls.length := by omega
    subst hi
    have hrow : SpRow H' a st ls (stpO exP ls ls.length) := ⟨⟨_, hL.row.pre hpp⟩, hmn.row⟩
    have cAH := pre_at (pAD.trans hpp) cA
    have hstore := hrow.store cAH rfl
    simp (maxSteps := 1000000) (disch := omega) only [s2, s3, ld_agg ag28 cs28 hc5, hstore, S, S1, S2, S3, S4, S5, ST, eq_self, reduceIte, reduceCtorEq, Nat.reduceEqDiff, Nat.reduceAdd]
    have d4 := at_set (d := .cells [a, st] 28 false) cAH
    have lH' := hpp.length_le
    refine hQ _ _ _ (end_cell _ _ _ _ _ _ (.agg (List.toArray [a, st])) ?_ rfl ⟨a, st, rfl, ⟨D.length, by omega, by simp; omega, ?_, ?_⟩, ?_⟩)
    · simp (maxSteps := 1000000) (disch := omega) only [s2, ld_agg ag28 cs28 d4, S, S1, S2, S3, S4, S5, ST, eq_self, reduceIte, reduceCtorEq, Nat.reduceEqDiff, Nat.reduceAdd]
    · rcases hL.pre hpp with q | ⟨o, us', q1, q2⟩
      · exact .inl q
      · refine .inr ⟨o, us', q1, (q2.move fun j y hj1 hj2 hy => ?_).wide (by omega) (Nat.le_refl _)⟩
        rw [List.getElem?_set_ne (by omega)]; exact hy
    · rcases InP.of hmn with q | ⟨o, zs, q1, q2, q3, q4, q5⟩
      · exact .inl q
      · exact .inr ⟨o, zs, q1, q2, by simpa using q3, by rw [List.getElem?_set_ne (by omega)]; exact q4, q5⟩
    · exact pre_set (pA.trans (pAD.trans hpp)) (Nat.le_refl _) _
  have hi : i < ls.length := by omega
  simp (maxSteps := 1000000) (disch := omega) only [s2, s3, s4, wrap64, S, S1, S2, S3, S4, S5, ST, eq_self, reduceIte, reduceCtorEq, Nat.reduceEqDiff, Nat.reduceAdd]
  refine LoopH.by (fun m' s' H'' => ∃ j st', m' + j = ls.length - (i + 1) ∧ s' 2 = .pointer (some ⟨H.length, 0, none⟩) ∧ s' 3 = .pointer (some ⟨E.length, 0, none⟩) ∧ s' 4 = .int .i64 ((i : Nat) : Int) ∧ s' 5 = .int .i64 ((i + 1 + j : Nat) : Int) ∧ H''[E.length]? = some (.cells [a, st'] 28 false) ∧ (rowO st' = D.length ∨ G.length ≤ rowO st') ∧ st' ≠ .slice none 0 0 ∧ MineP 81 D H'' st' (stpO exP ls i ++ stpI exP ls i j) ∧ D <+: H'') (ls.length - (i + 1)) ?_ ?_
  · refine ⟨0, st, by simp, ?_⟩
    simp only [S, S1, S2, S3, S4, S5, ST, eq_self, reduceIte, reduceCtorEq, Nat.reduceEqDiff, Nat.reduceAdd, s2, s3, s4]
    have f0 : MineP 81 D H' st (stpO exP ls i ++ stpI exP ls i 0) := by rw [stpI, List.append_nil]; exact hmn
    (repeat' first | exact hc5 | exact hst | exact hsn | exact f0 | exact hpp | apply And.intro) <;> first | (simp only [Value.int.injEq, true_and]; omega) | omega | rfl | assumption | (simp; done) | (simp; omega)
  · rintro m' s' H'' ⟨j, st', hm', g2, g3, g4, g5, hc5', hst', hsn', hmn', hpp'⟩
    simp (maxSteps := 1000000) (disch := omega) only [g2, g3, g4, g5, cell_of hc5', (rowA hpp').len Try.underlying26, r2, S, S1, S2, S3, S4, S5, ST, eq_self, reduceIte, reduceCtorEq, Nat.reduceEqDiff, Nat.reduceAdd]
    refine brD.intro (fun q => ?_) (fun q => ?_)
    · have hj : i + 1 + j < ls.length := by omega
      have hci := (rowA hpp').cell (show i < us.length by omega)
      have hcj := (rowA hpp').cell (show i + 1 + j < us.length by omega)
      simp (maxSteps := 1000000) (disch := omega) only [g2, g3, g4, g5, cell_of hc5', (rowA hpp').ix Try.underlying26 cs38, Int.toNat_natCast, hci, hcj, S, S1, S2, S3, S4, S5, ST, eq_self, reduceIte, reduceCtorEq, Nat.reduceEqDiff, Nat.reduceAdd]
      refine CallH.by (l4Lone_c _ _ _ _ H'' (rowI i hi hpp') (rowI (i + 1 + j) hj hpp') (by have := sm i hi; omega) (by have := sm (i + 1 + j) hj; omega)) ?_
      rintro u K ⟨hu, pK⟩
      have hcK := pre_at pK hc5'
      have hpK := hpp'.trans pK
      have hmK := hmn'.pre pK
      have hsl1 := stpO_len exP ls i
      have hsl2 := stpI_len exP ls i j
      have hmul : i * ls.length ≤ 132 * 132 := Nat.mul_le_mul (by omega) (by omega)
      have lK := hpK.length_le
      have l5 := at_lt hc5'
      have hne : ∀ o, o = E.length → o ≠ rowO st' := fun o ho => by omega
      simp (maxSteps := 1000000) (disch := omega) only [g2, g3, g4, g5, hu.row.len Try.underlying38, S, S1, S2, S3, S4, S5, ST, eq_self, reduceIte, reduceCtorEq, Nat.reduceEqDiff, Nat.reduceAdd]
      refine brD.intro (fun e => ?_) (fun e => ?_)
      · have hex : exP (ls.getD i []) (ls.getD (i + 1 + j) []) = true := by unfold exP; rw [decide_eq_true_iff]; omega
        have hstep : stpI exP ls i (j + 1) = stpI exP ls i j ++ [((i : Int), ((i + 1 + j : Nat) : Int))] := by rw [stpI, if_pos hex]
        obtain ⟨st2, H3, k1, k2, k3, k4, k5, k6⟩ := own1_22 hmK hpK (by rw [List.length_append]; omega) (i : Int) ((i + 1 + j : Nat) : Int)
        have d5 : H3[E.length]? = some (.cells [a, st'] 28 false) := k4 _ _ (.inr (hne _ rfl)) hcK
        obtain ⟨q2, hq2⟩ := k2.row.shape
        have t2 : st2.cells.toList = [st2] := by rw [hq2]; rfl
        have hst3 := st_at (P := Try.prog) (t := 22) (i := 1) (y := st2) cs22 d5 (by show 1 < 2; decide) k6 t2
        have lGK : G.length ≤ K.length := by
          have := pK.length_le
          omega
        simp (maxSteps := 1000000) (disch := omega) only [e, g2, g3, g4, g5, cell_of hcK, build_a2, wrap64, k1, hst3, S, S1, S2, S3, S4, S5, ST, eq_self, reduceIte, reduceCtorEq, Nat.reduceEqDiff, Nat.reduceAdd]
        have f5 : (H3.set E.length (.cells ([a, st'].set 1 st2) 28 false))[E.length]? = some (.cells [a, st2] 28 false) := by
          rw [List.getElem?_set_self (at_lt d5)]; rfl
        have fs1 : rowO st2 = D.length ∨ G.length ≤ rowO st2 := .inr (by omega)
        have fs2 : st2 ≠ .slice none 0 0 := by
          intro hh
          rw [hh] at k5
          have : rowO (Value.slice none 0 0) = 0 := rfl
          omega
        have fm : MineP 81 D (H3.set E.length (.cells ([a, st'].set 1 st2) 28 false)) st2 (stpO exP ls i ++ stpI exP ls i (j + 1)) := by
          rw [hstep, ← List.append_assoc]
          exact k2.keepL fun hl y hy => by rw [List.getElem?_set_ne (by omega)]; exact hy
        have fp : D <+: H3.set E.length (.cells ([a, st'].set 1 st2) 28 false) := pre_set k3 (by omega) _
        refine ⟨m' - 1, by omega, j + 1, st2, ?_⟩
        (repeat' first | exact f5 | exact fs1 | exact fs2 | exact fm | exact fp | apply And.intro) <;> first | (simp only [Value.int.injEq, true_and]; omega) | omega | rfl | assumption | (simp; done) | (simp; omega)
      · have hex : ¬ exP (ls.getD i []) (ls.getD (i + 1 + j) []) = true := by unfold exP; rw [decide_eq_true_iff]; omega
        have hstep : stpI exP ls i (j + 1) = stpI exP ls i j := by rw [stpI, if_neg hex, List.append_nil]
        rw [← hstep] at hmK
        simp (maxSteps := 1000000) (disch := omega) only [e, g2, g3, g4, g5, wrap64, S, S1, S2, S3, S4, S5, ST, eq_self, reduceIte, reduceCtorEq, Nat.reduceEqDiff, Nat.reduceAdd]
        refine ⟨m' - 1, by omega, j + 1, st', ?_⟩
        (repeat' first | exact hcK | exact hst' | exact hsn' | exact hmK | exact hpK | apply And.intro) <;> first | (simp only [Value.int.injEq, true_and]; omega) | omega | rfl | assumption | (simp; done) | (simp; omega)
    · have hjj : j = ls.length - (i + 1) := by omega
      subst hjj
      have hstO : stpO exP ls (i + 1) = stpO exP ls i ++ stpI exP ls i (ls.length - (i + 1)) := rfl
      rw [← hstO] at hmn'
      simp (maxSteps := 1000000) (disch := omega) only [g2, g3, g4, g5, wrap64, S, S1, S2, S3, S4, S5, ST, eq_self, reduceIte, reduceCtorEq, Nat.reduceEqDiff, Nat.reduceAdd]
      refine ⟨m - 1, by omega, i + 1, st', ?_⟩
      (repeat' first | exact hc5' | exact hst' | exact hsn' | exact hmn' | exact hpp' | apply And.intro) <;> first | (simp only [Value.int.injEq, true_and]; omega) | omega | rfl | assumption | (simp; done) | (simp; omega)
end Go.Proofs.Ytlfongfhbkefmaa.Ai
namespace Go.Proofs.Ytlfongfhbkefmaa.Ai
open Go
def ords38 : List (Nat × List (Nat × Bool)) := []
def cd38 : Cd := (.seq (.reg [⟨⟨some 6, Op.assign (Operand.const (Value.int IntKind.i64 0)), none⟩, []⟩,
  ⟨⟨some 7, Op.assign (Operand.const (Value.bool false)), none⟩, []⟩]) (.seq (.seq (.reg [⟨⟨some 12, Op.move (Operand.tmp 0), none⟩, []⟩,
  ⟨⟨some 13, Op.move (Operand.tmp 1), none⟩, []⟩,
  ⟨⟨some 14, Op.move (Operand.tmp 2), none⟩, []⟩,
  ⟨⟨some 15, Op.buildSlice 26 2 #[(0, (Operand.tmp 13)), (1, (Operand.tmp 14))], none⟩, []⟩,
  ⟨⟨some 16, Op.call { callee := (Callee.value (Operand.func 120)), args := #[(Operand.tmp 12), (Operand.tmp 15)], argTypes := #[3, 26] }, none⟩, []⟩,
  ⟨⟨some 17, Op.unOp UnOp.not 4 (Operand.tmp 16), none⟩, []⟩]) (.cond (Operand.tmp 17) (.seq (.reg [⟨⟨some 6, Op.assign (Operand.const (Value.int IntKind.i64 0)), none⟩, []⟩,
  ⟨⟨some 7, Op.assign (Operand.const (Value.bool false)), none⟩, []⟩]) .ret) .skip)) (.seq (.reg [⟨⟨some 19, Op.move (Operand.tmp 0), none⟩, []⟩,
  ⟨⟨some 20, Op.call { callee := (Callee.value (Operand.func 121)), args := #[(Operand.tmp 19)], argTypes := #[3] }, none⟩, []⟩,
  ⟨⟨some 18, Op.move (Operand.tmp 20), none⟩, []⟩,
  ⟨⟨some 21, Op.extract (Operand.tmp 18) 0, none⟩, []⟩,
  ⟨⟨some 22, Op.extract (Operand.tmp 18) 1, none⟩, []⟩,
  ⟨⟨some 8, Op.alloc 28, none⟩, []⟩,
  ⟨⟨none, Op.store 28 (Operand.tmp 8) (Operand.tmp 21), none⟩, []⟩,
  ⟨⟨some 9, Op.assign (Operand.tmp 22), none⟩, []⟩]) (.seq (.reg [⟨⟨some 24, Op.load 28 (Operand.tmp 8), none⟩, []⟩,
  ⟨⟨some 25, Op.move (Operand.tmp 1), none⟩, []⟩,
  ⟨⟨some 26, Op.move (Operand.tmp 2), none⟩, []⟩,
  ⟨⟨some 27, Op.call { callee := (Callee.value (Operand.func 122)), args := #[(Operand.tmp 24), (Operand.tmp 25), (Operand.tmp 26)], argTypes := #[28, 38, 38] }, none⟩, []⟩,
  ⟨⟨some 23, Op.move (Operand.tmp 27), none⟩, []⟩,
  ⟨⟨some 28, Op.extract (Operand.tmp 23) 0, none⟩, []⟩,
  ⟨⟨some 29, Op.extract (Operand.tmp 23) 1, none⟩, []⟩,
  ⟨⟨some 10, Op.assign (Operand.tmp 28), none⟩, []⟩,
  ⟨⟨some 11, Op.assign (Operand.tmp 29), none⟩, []⟩]) (.seq (.reg [⟨⟨some 30, Op.move (Operand.tmp 10), none⟩, []⟩,
  ⟨⟨some 31, Op.call { callee := (Callee.builtin Builtin.len), args := #[(Operand.tmp 30)], argTypes := #[26] }, none⟩, []⟩,
  ⟨⟨some 32, Op.binOp BinOp.sub 3 (Operand.tmp 31) (Operand.const (Value.int IntKind.i64 1)) 3, none⟩, []⟩,
  ⟨⟨some 33, Op.move (Operand.tmp 11), none⟩, []⟩,
  ⟨⟨some 6, Op.assign (Operand.tmp 32), none⟩, []⟩,
  ⟨⟨some 7, Op.assign (Operand.tmp 33), none⟩, []⟩]) .ret)))))
theorem sl38 : slim Try.f38.ntmps ords38 (Try.f38.body.getD .skip) = some cd38 := by kernel_rfl
theorem in38 {args : List Value} {H : AH} {R : Value → AH → Prop} (hl : args.length = 3) (h : ∀ (Q : Exit → Sl → AH → Prop), (∀ e s H, endA Try.prog [ResultVar.tmp 6, ResultVar.tmp 7] R e s H → Q e s H) → wpC Try.prog cd38 Q (enterA args) H) : ACalls Try.prog 38 args H R :=
  ACalls.intro (by kernel_rfl) Try.func38 rfl (by kernel_rfl) sl38 hl (of_decide_eq_true (by kernel_rfl)) (by kernel_rfl) h
def ords37 : List (Nat × List (Nat × Bool)) := [(4, [(0, false), (1, false), (2, false), (5, false), (6, false), (3, true), (4, true), (7, true), (8, false), (9, false), (10, false), (11, false)])]
def cd37 : Cd := (.seq (.reg [⟨⟨some 6, Op.assign (Operand.const (Value.int IntKind.i64 0)), none⟩, []⟩,
  ⟨⟨some 7, Op.assign (Operand.const (Value.bool false)), none⟩, []⟩]) (.seq (.seq (.reg [⟨⟨some 9, Op.move (Operand.tmp 0), none⟩, []⟩,
  ⟨⟨some 10, Op.move (Operand.tmp 1), none⟩, []⟩,
  ⟨⟨some 11, Op.call { callee := (Callee.value (Operand.func 116)), args := #[(Operand.tmp 9), (Operand.tmp 10)], argTypes := #[3, 38] }, none⟩, []⟩,
  ⟨⟨some 12, Op.unOp UnOp.not 4 (Operand.tmp 11), none⟩, []⟩,
  ⟨⟨some 13, Op.move (Operand.tmp 12), none⟩, []⟩,
  ⟨⟨some 14, Op.move (Operand.tmp 0), some (13, false)⟩, []⟩,
  ⟨⟨some 15, Op.move (Operand.tmp 2), some (13, false)⟩, []⟩,
  ⟨⟨some 16, Op.call { callee := (Callee.value (Operand.func 116)), args := #[(Operand.tmp 14), (Operand.tmp 15)], argTypes := #[3, 38] }, some (13, false)⟩, []⟩,
  ⟨⟨some 17, Op.unOp UnOp.not 4 (Operand.tmp 16), some (13, false)⟩, []⟩,
  ⟨⟨some 18, Op.pick (Operand.tmp 13) (Operand.const (Value.bool true)) (Operand.tmp 17), none⟩, []⟩]) (.cond (Operand.tmp 18) (.seq (.reg [⟨⟨some 6, Op.assign (Operand.const (Value.int IntKind.i64 0)), none⟩, []⟩,
  ⟨⟨some 7, Op.assign (Operand.const (Value.bool false)), none⟩, []⟩]) .ret) .skip)) (.seq (.reg [⟨⟨some 19, Op.move (Operand.tmp 0), none⟩, []⟩,
  ⟨⟨some 20, Op.call { callee := (Callee.value (Operand.func 117)), args := #[(Operand.tmp 19)], argTypes := #[3] }, none⟩, []⟩,
  ⟨⟨some 8, Op.alloc 28, none⟩, []⟩,
  ⟨⟨none, Op.store 28 (Operand.tmp 8) (Operand.tmp 20), none⟩, []⟩]) (.seq (.reg [⟨⟨some 21, Op.load 28 (Operand.tmp 8), none⟩, []⟩,
  ⟨⟨some 22, Op.load 28 (Operand.tmp 8), none⟩, []⟩,
  ⟨⟨some 23, Op.move (Operand.tmp 1), none⟩, []⟩,
  ⟨⟨some 26, Op.load 28 (Operand.tmp 8), none⟩, []⟩,
  ⟨⟨some 27, Op.move (Operand.tmp 2), none⟩, []⟩,
  ⟨⟨some 24, Op.call { callee := (Callee.value (Operand.func 119)), args := #[(Operand.tmp 22), (Operand.tmp 23)], argTypes := #[28, 38] }, none⟩, [⟨some 26, Op.load 28 (Operand.tmp 8), none⟩, ⟨some 21, Op.load 28 (Operand.tmp 8), none⟩]⟩,
  ⟨⟨some 25, Op.call { callee := (Callee.value (Operand.func 118)), args := #[(Operand.tmp 21), (Operand.tmp 24)], argTypes := #[28, 3] }, none⟩, [⟨some 26, Op.load 28 (Operand.tmp 8), none⟩]⟩,
  ⟨⟨some 28, Op.call { callee := (Callee.value (Operand.func 119)), args := #[(Operand.tmp 26), (Operand.tmp 27)], argTypes := #[28, 38] }, none⟩, []⟩,
  ⟨⟨some 29, Op.indexAddr 38 (Operand.tmp 25) (Operand.tmp 28), none⟩, []⟩,
  ⟨⟨some 30, Op.load 3 (Operand.tmp 29), none⟩, []⟩,
  ⟨⟨some 6, Op.assign (Operand.tmp 30), none⟩, []⟩,
  ⟨⟨some 7, Op.assign (Operand.const (Value.bool true)), none⟩, []⟩]) .ret))))
theorem sl37 : slim Try.f37.ntmps ords37 (Try.f37.body.getD .skip) = some cd37 := by kernel_rfl
theorem in37 {args : List Value} {H : AH} {R : Value → AH → Prop} (hl : args.length = 3) (h : ∀ (Q : Exit → Sl → AH → Prop), (∀ e s H, endA Try.prog [ResultVar.tmp 6, ResultVar.tmp 7] R e s H → Q e s H) → wpC Try.prog cd37 Q (enterA args) H) : ACalls Try.prog 37 args H R :=
  ACalls.intro (by kernel_rfl) Try.func37 rfl (by kernel_rfl) sl37 hl (of_decide_eq_true (by kernel_rfl)) (by kernel_rfl) h
end Go.Proofs.Ytlfongfhbkefmaa.Ai
namespace Go.Proofs.Ytlfongfhbkefmaa.Ai
open Go Go.RowKit
set_option linter.unusedVariables false
set_option linter.unusedSimpArgs false
def pdL (n : Int) : List (List Int) := rdS (triA n).length (steps exP (triA n))
def pdR (n : Int) (xs ys : List Int) : Int := if Tri2 n xs ys then (bfs (pdL n) ((triA n).idxOf xs)).getD ((triA n).idxOf ys) 0 else 0
/-- a space's lists as rows -/
theorem SpIn.sts {lo hi : Nat} {G : AH} {a b : Value} {ls : List (List Int)} {ps : List (Int × Int)} (h : SpIn lo hi G a b ls ps) (hs : SrtL ls) (hb : ls.length ≤ 60000) (hm : ∀ l ∈ ls, l.length ≤ 1099511627776) : ∃ us, Sts G a us ls := by
  obtain ⟨mid, _, _, hL, _⟩ := h
  obtain ⟨us, r1, r2, r3⟩ := hL.parts
  exact ⟨us, r1, r2, fun i hi => (r3 i hi).row.1, fun i hi => hm _ (by simp [hi]), hb, hs⟩
set_option maxRecDepth 20000 in
set_option maxHeartbeats 4000000 in
theorem PdI_c (n : Int) (v w : Value) (xs ys : List Int) (H : AH) (hr : Row 3 H v xs) (hlen : xs.length ≤ 1099511627776) (hxs : ∀ y ∈ xs, I64 y) (hr2 : Row 3 H w ys) (hlen2 : ys.length ≤ 1099511627776) (hys : ∀ y ∈ ys, I64 y) :
    ACalls Try.prog 38 [.int .i64 n, v, w] H fun r H' => r = .tuple (List.toArray [.int .i64 (pdR n xs ys), .bool (decide (Tri2 n xs ys))]) ∧ H <+: H' := by
  refine in38 rfl ?_
  intro Q hQ
  obtain ⟨pv, ev⟩ := hr.shape
  obtain ⟨pw, ew⟩ := hr2.shape
  subst ev
  subst ew
  simp (maxSteps := 1000000) (disch := omega) only [cd38, S, S1, S2, S3, S4, S5, ST, eq_self, reduceIte, reduceCtorEq, Nat.reduceEqDiff, Nat.reduceAdd]
  generalize hv : Value.slice pv xs.length xs.length = v at *
  generalize hw : Value.slice pw ys.length ys.length = w at *
  refine CallH.by (are2_c n v w xs ys _ _ H rfl rfl hr hlen hxs hr2 hlen2 hys) ?_
  rintro _ A ⟨rfl, pA0⟩
  have pA : H <+: A := (List.prefix_append _ _).trans pA0
  by_cases e : Tri2 n xs ys
  rotate_left
  · simp (maxSteps := 1000000) (disch := omega) only [decide_eq_false e, S, S1, S2, S3, S4, S5, ST, eq_self, reduceIte, reduceCtorEq, Nat.reduceEqDiff, Nat.reduceAdd]
    refine hQ _ _ _ ?_
    simp (maxSteps := 1000000) (disch := omega) only [S, S1, S2, S3, S4, S5, ST, eq_self, reduceIte, reduceCtorEq, Nat.reduceEqDiff, Nat.reduceAdd]
    rw [decide_eq_false e, show pdR n xs ys = 0 by unfold pdR; rw [if_neg e]]
    exact ⟨rfl, pA⟩
  have hn := e.1
  simp (maxSteps := 1000000) (disch := omega) only [decide_eq_true e, S, S1, S2, S3, S4, S5, ST, eq_self, reduceIte, reduceCtorEq, Nat.reduceEqDiff, Nat.reduceAdd]
  refine CallH.by (PolyI_c n A) ?_
  rintro _ B ⟨a, b, rfl, hs, pB⟩
  have hpL : polyL n = triA n := by unfold polyL; rw [if_pos hn]
  have hpP : polyP n = steps exP (triA n) := by unfold polyP; rw [if_pos hn]
  rw [hpL, hpP] at hs
  obtain ⟨k1, k2, k3, _, _, _⟩ := triA_ok hn
  obtain ⟨d1, d2⟩ := pd_ok hn
  have hpd : (pdB : List Int → List Int → Bool) = exP := rfl
  rw [hpd] at d1 d2
  have hok := steps_ok exP (triA n)
  have mx := tri_mem hn e.2.1
  have my := tri_mem hn e.2.2
  have hsl := stpO_len exP (triA n) (triA n).length
  have hsq : (triA n).length * (triA n).length ≤ 132 * 132 := Nat.mul_le_mul k2.2 k2.2
  have hR : pdR n xs ys = (bfs (rdS (triA n).length (steps exP (triA n))) ((triA n).idxOf xs)).getD ((triA n).idxOf ys) 0 := by unfold pdR; rw [if_pos e]; rfl
  rw [hR] at hQ
  generalize triA n = ls at *
  obtain ⟨us, hst⟩ := hs.sts k1 (by omega) (fun l hl => by have := k3 l hl; omega)
  have hstore := hs.row.store (at_new B (.cells [.slice none 0 0, .slice none 0 0] 28 false)) rfl
  rw [set_new] at hstore
  simp (maxSteps := 1000000) (disch := omega) only [alloc_sp, hstore, S, S1, S2, S3, S4, S5, ST, eq_self, reduceIte, reduceCtorEq, Nat.reduceEqDiff, Nat.reduceAdd]
  generalize hC : B ++ [AObj.cells [a, b] 28 false] = C
  have pC : B <+: C := by rw [← hC]; exact List.prefix_append _ _
  have cC : C[B.length]? = some (.cells [a, b] 28 false) := by rw [← hC]; exact at_new ..
  have pHC := pA.trans (pB.trans pC)
  simp (maxSteps := 1000000) (disch := omega) only [ld_agg ag28 cs28 cC, S, S1, S2, S3, S4, S5, ST, eq_self, reduceIte, reduceCtorEq, Nat.reduceEqDiff, Nat.reduceAdd]
  refine CallH.by (walk_c (hs.row.pre pC) (hst.pre pC) (by omega) (by unfold steps; omega) hok d1 (hr.pre pHC) (hr2.pre pHC) hlen hlen2) ?_
  rintro _ D ⟨⟨g, rfl, hg⟩, pD⟩
  have ix := idx_lt mx
  have iy := idx_lt my
  have hcon := con_all d2 iy _ ix
  have hwb : wkB ls (steps exP ls) xs ys = true := by unfold wkB; exact decide_eq_true ⟨mx, my, hcon⟩
  have hwl : (wkL ls (steps exP ls) xs ys).length = ((bfs (rdS ls.length (steps exP ls)) (ls.idxOf ys)).getD (ls.idxOf xs) 0).toNat + 1 := by
    unfold wkL
    rw [if_pos hwb, List.length_map]
    exact (wy_len (rdS_ok hok) (rdS_sym _) (by rw [rdS_len]; exact iy) _ _ (by rw [rdS_len]; exact ix) (by omega)).1
  have hsym := bfs_sym (rdS_ok hok) (rdS_sym _) (i := ls.idxOf ys) (j := ls.idxOf xs) (by rw [rdS_len]; exact iy) (by rw [rdS_len]; exact ix) hcon
  have hbd : (bfs (rdS ls.length (steps exP ls)) (ls.idxOf ys)).getD (ls.idxOf xs) 0 < 1000 := by
    obtain ⟨q, h⟩ := bfs_DI (rdS_ok hok) (show ls.idxOf ys < (rdS ls.length (steps exP ls)).length by rw [rdS_len]; exact iy)
    have h1 := h.bi.lo (ls.idxOf xs) (by rw [rdS_len]; exact ix)
    have h2 := h.bi.len_le
    rw [rdS_len] at h2
    have h1' : (bfs (rdS ls.length (steps exP ls)) (ls.idxOf ys)).getD (ls.idxOf xs) 0 < (q.length : Nat) := h1.2
    have h2' : q.length ≤ ls.length := h2
    omega
  obtain ⟨vs, r1, r2, _⟩ := hg.parts
  rw [hwl] at r2
  simp (maxSteps := 1000000) (disch := omega) only [hwb, r1.len Try.underlying26, wrap64, S, S1, S2, S3, S4, S5, ST, eq_self, reduceIte, reduceCtorEq, Nat.reduceEqDiff, Nat.reduceAdd]
  refine hQ _ _ _ ?_
  simp (maxSteps := 1000000) (disch := omega) only [S, S1, S2, S3, S4, S5, ST, eq_self, reduceIte, reduceCtorEq, Nat.reduceEqDiff, Nat.reduceAdd]
  refine ⟨?_, pHC.trans pD⟩
  rw [decide_eq_true e, hsym]
  congr 3
  congr 1
  omega
set_option maxRecDepth 20000 in
set_option maxHeartbeats 4000000 in
theorem PdS_c (n : Int) (v w : Value) (xs ys : List Int) (H : AH) (hr : Row 3 H v xs) (hlen : xs.length ≤ 1099511627776) (hxs : ∀ y ∈ xs, I64 y) (hr2 : Row 3 H w ys) (hlen2 : ys.length ≤ 1099511627776) (hys : ∀ y ∈ ys, I64 y) :
    ACalls Try.prog 37 [.int .i64 n, v, w] H fun r H' => r = .tuple (List.toArray [.int .i64 (pdR n xs ys), .bool (decide (Tri2 n xs ys))]) ∧ H <+: H' := by
  refine in37 rfl ?_
  intro Q hQ
  simp (maxSteps := 1000000) (disch := omega) only [cd37, S, S1, S2, S3, S4, S5, ST, eq_self, reduceIte, reduceCtorEq, Nat.reduceEqDiff, Nat.reduceAdd]
  refine CallH.by (l8Valid_c n v xs H hr hlen hxs) ?_
  rintro _ A ⟨rfl, pA⟩
  have no : ¬ Tri2 n xs ys → pdR n xs ys = 0 := fun e => by unfold pdR; rw [if_neg e]
  by_cases hx : (decide (3 ≤ n ∧ n ≤ 8) && triS n xs) = true
  rotate_left
  · have hx' : (decide (3 ≤ n ∧ n ≤ 8) && triS n xs) = false := by simpa using hx
    have e : ¬ Tri2 n xs ys := fun e => hx (by rw [decide_eq_true e.1, e.2.1]; rfl)
    simp (maxSteps := 1000000) (disch := omega) only [hx', S, S1, S2, S3, S4, S5, ST, eq_self, reduceIte, reduceCtorEq, Nat.reduceEqDiff, Nat.reduceAdd]
    refine hQ _ _ _ ?_
    simp (maxSteps := 1000000) (disch := omega) only [S, S1, S2, S3, S4, S5, ST, eq_self, reduceIte, reduceCtorEq, Nat.reduceEqDiff, Nat.reduceAdd]
    rw [decide_eq_false e, no e]
    exact ⟨rfl, pA⟩
  simp (maxSteps := 1000000) (disch := omega) only [hx, S, S1, S2, S3, S4, S5, ST, eq_self, reduceIte, reduceCtorEq, Nat.reduceEqDiff, Nat.reduceAdd]
  refine CallH.by (l8Valid_c n w ys A (hr2.pre pA) hlen2 hys) ?_
  rintro _ B ⟨rfl, pB⟩
  by_cases hy : (decide (3 ≤ n ∧ n ≤ 8) && triS n ys) = true
  rotate_left
  · have hy' : (decide (3 ≤ n ∧ n ≤ 8) && triS n ys) = false := by simpa using hy
    have e : ¬ Tri2 n xs ys := fun e => hy (by rw [decide_eq_true e.1, e.2.2]; rfl)
    simp (maxSteps := 1000000) (disch := omega) only [hy', S, S1, S2, S3, S4, S5, ST, eq_self, reduceIte, reduceCtorEq, Nat.reduceEqDiff, Nat.reduceAdd]
    refine hQ _ _ _ ?_
    simp (maxSteps := 1000000) (disch := omega) only [S, S1, S2, S3, S4, S5, ST, eq_self, reduceIte, reduceCtorEq, Nat.reduceEqDiff, Nat.reduceAdd]
    rw [decide_eq_false e, no e]
    exact ⟨rfl, pA.trans pB⟩
  have e : Tri2 n xs ys := by
    simp only [Bool.and_eq_true, decide_eq_true_eq] at hx hy
    exact ⟨hx.1, hx.2, hy.2⟩
  have hn := e.1
  have pHB := pA.trans pB
  simp (maxSteps := 1000000) (disch := omega) only [hy, S, S1, S2, S3, S4, S5, ST, eq_self, reduceIte, reduceCtorEq, Nat.reduceEqDiff, Nat.reduceAdd]
  refine CallH.by (l8Polygon_c n B hn) ?_
  rintro _ C ⟨a, b, rfl, hs, pC⟩
  obtain ⟨k1, k2, k3, _, _, _⟩ := triA_ok hn
  obtain ⟨d1, d2⟩ := pd_ok hn
  have hpd : (pdB : List Int → List Int → Bool) = exP := rfl
  rw [hpd] at d1 d2
  have hok := steps_ok exP (triA n)
  have mx := tri_mem hn e.2.1
  have my := tri_mem hn e.2.2
  have hsl := stpO_len exP (triA n) (triA n).length
  have hsq : (triA n).length * (triA n).length ≤ 132 * 132 := Nat.mul_le_mul k2.2 k2.2
  have hR : pdR n xs ys = (bfs (rdS (triA n).length (steps exP (triA n))) ((triA n).idxOf xs)).getD ((triA n).idxOf ys) 0 := by unfold pdR; rw [if_pos e]; rfl
  rw [hR, decide_eq_true e] at hQ
  generalize triA n = ls at *
  obtain ⟨us, hst⟩ := hs.sts k1 (by omega) (fun l hl => by have := k3 l hl; omega)
  have hstore := hs.row.store (at_new C (.cells [.slice none 0 0, .slice none 0 0] 28 false)) rfl
  rw [set_new] at hstore
  simp (maxSteps := 1000000) (disch := omega) only [alloc_sp, hstore, S, S1, S2, S3, S4, S5, ST, eq_self, reduceIte, reduceCtorEq, Nat.reduceEqDiff, Nat.reduceAdd]
  generalize hD : C ++ [AObj.cells [a, b] 28 false] = D
  have pD : C <+: D := by rw [← hD]; exact List.prefix_append _ _
  have cD : D[C.length]? = some (.cells [a, b] 28 false) := by rw [← hD]; exact at_new ..
  have pHD := pHB.trans (pC.trans pD)
  simp (maxSteps := 1000000) (disch := omega) only [ld_agg ag28 cs28 cD, S, S1, S2, S3, S4, S5, ST, eq_self, reduceIte, reduceCtorEq, Nat.reduceEqDiff, Nat.reduceAdd]
  refine CallH.by (l2Index_c (hs.row.pre pD) (hst.pre pD) (hr.pre pHD) hlen) ?_
  rintro _ E ⟨⟨i, rfl, _, hi⟩, pE⟩
  obtain ⟨⟨i1, i2⟩, i3⟩ := hi mx
  obtain ⟨ix, rfl⟩ : ∃ k : Nat, i = k := ⟨i.toNat, by omega⟩
  rw [Int.toNat_natCast] at i3
  have hix := idx_of k1 (by omega) i3
  have cE := pre_at pE cD
  have pDE := pD.trans pE
  simp (maxSteps := 1000000) (disch := omega) only [ld_agg ag28 cs28 cE, S, S1, S2, S3, S4, S5, ST, eq_self, reduceIte, reduceCtorEq, Nat.reduceEqDiff, Nat.reduceAdd]
  refine CallH.by (l2Dist_c (hs.row.pre pDE) (by omega) (by unfold steps; omega) hok d1 (show ix < ls.length by omega)) ?_
  rintro g F ⟨hg, pF⟩
  have cF := pre_at pF cE
  simp (maxSteps := 1000000) (disch := omega) only [ld_agg ag28 cs28 cF, S, S1, S2, S3, S4, S5, ST, eq_self, reduceIte, reduceCtorEq, Nat.reduceEqDiff, Nat.reduceAdd]
  refine CallH.by (l2Index_c (hs.row.pre (pDE.trans pF)) (hst.pre (pDE.trans pF)) (hr2.pre (pHD.trans (pE.trans pF))) hlen2) ?_
  rintro _ G ⟨⟨j, rfl, _, hj⟩, pG⟩
  obtain ⟨⟨j1, j2⟩, j3⟩ := hj my
  obtain ⟨jy, rfl⟩ : ∃ k : Nat, j = k := ⟨j.toNat, by omega⟩
  rw [Int.toNat_natCast] at j3
  have hjy := idx_of k1 (by omega) j3
  have hgG := hg.row.pre pG
  have hbl : (bfs (rdS ls.length (steps exP ls)) ix).length = ls.length := by
    obtain ⟨q, h⟩ := bfs_DI (rdS_ok hok) (show ix < (rdS ls.length (steps exP ls)).length by rw [rdS_len]; omega)
    have := h.bi.len
    rw [rdS_len] at this; exact this
  have hc := hgG.cell (show jy < (bfs (rdS ls.length (steps exP ls)) ix).length by omega)
  simp (maxSteps := 1000000) (disch := omega) only [hgG.ix Try.underlying38 cs3, Int.toNat_natCast, hc, S, S1, S2, S3, S4, S5, ST, eq_self, reduceIte, reduceCtorEq, Nat.reduceEqDiff, Nat.reduceAdd]
  refine hQ _ _ _ ?_
  simp (maxSteps := 1000000) (disch := omega) only [S, S1, S2, S3, S4, S5, ST, eq_self, reduceIte, reduceCtorEq, Nat.reduceEqDiff, Nat.reduceAdd]
  rw [← hix, ← hjy]
  exact ⟨rfl, pHD.trans (pE.trans (pF.trans pG))⟩
end Go.Proofs.Ytlfongfhbkefmaa.Ai
namespace Go.Proofs.Ytlfongfhbkefmaa.Ai
open Go
def ords9 : List (Nat × List (Nat × Bool)) := []
def cd9 : Cd := (.seq (.reg [⟨⟨some 6, Op.assign (Operand.const (Value.bool false)), none⟩, []⟩]) (.seq (.seq (.reg [⟨⟨some 13, Op.move (Operand.tmp 1), none⟩, []⟩,
  ⟨⟨some 14, Op.call { callee := (Callee.builtin Builtin.len), args := #[(Operand.tmp 13)], argTypes := #[38] }, none⟩, []⟩,
  ⟨⟨some 15, Op.binOp BinOp.gtr 3 (Operand.tmp 14) (Operand.const (Value.int IntKind.i64 1048576)) 3, none⟩, []⟩]) (.cond (Operand.tmp 15) (.seq (.reg [⟨⟨some 6, Op.assign (Operand.const (Value.bool true)), none⟩, []⟩]) .ret) .skip)) (.seq (.seq (.reg [⟨⟨some 16, Op.move (Operand.tmp 2), none⟩, []⟩,
  ⟨⟨some 17, Op.call { callee := (Callee.builtin Builtin.len), args := #[(Operand.tmp 16)], argTypes := #[38] }, none⟩, []⟩,
  ⟨⟨some 18, Op.binOp BinOp.gtr 3 (Operand.tmp 17) (Operand.const (Value.int IntKind.i64 1048576)) 3, none⟩, []⟩]) (.cond (Operand.tmp 18) (.seq (.reg [⟨⟨some 6, Op.assign (Operand.const (Value.bool true)), none⟩, []⟩]) .ret) .skip)) (.seq (.reg [⟨⟨some 20, Op.move (Operand.tmp 0), none⟩, []⟩,
  ⟨⟨some 21, Op.move (Operand.tmp 1), none⟩, []⟩,
  ⟨⟨some 22, Op.call { callee := (Callee.value (Operand.func 22)), args := #[(Operand.tmp 21)], argTypes := #[38] }, none⟩, []⟩,
  ⟨⟨some 23, Op.move (Operand.tmp 2), none⟩, []⟩,
  ⟨⟨some 24, Op.call { callee := (Callee.value (Operand.func 22)), args := #[(Operand.tmp 23)], argTypes := #[38] }, none⟩, []⟩,
  ⟨⟨some 25, Op.call { callee := (Callee.value (Operand.func 37)), args := #[(Operand.tmp 20), (Operand.tmp 22), (Operand.tmp 24)], argTypes := #[3, 38, 38] }, none⟩, []⟩,
  ⟨⟨some 19, Op.move (Operand.tmp 25), none⟩, []⟩,
  ⟨⟨some 26, Op.extract (Operand.tmp 19) 0, none⟩, []⟩,
  ⟨⟨some 27, Op.extract (Operand.tmp 19) 1, none⟩, []⟩,
  ⟨⟨some 7, Op.assign (Operand.tmp 26), none⟩, []⟩,
  ⟨⟨some 8, Op.assign (Operand.tmp 27), none⟩, []⟩]) (.seq (.reg [⟨⟨some 28, Op.move (Operand.tmp 1), none⟩, []⟩,
  ⟨⟨some 29, Op.call { callee := (Callee.value (Operand.func 22)), args := #[(Operand.tmp 28)], argTypes := #[38] }, none⟩, []⟩,
  ⟨⟨some 9, Op.assign (Operand.tmp 29), none⟩, []⟩]) (.seq (.reg [⟨⟨some 30, Op.move (Operand.tmp 2), none⟩, []⟩,
  ⟨⟨some 31, Op.call { callee := (Callee.value (Operand.func 22)), args := #[(Operand.tmp 30)], argTypes := #[38] }, none⟩, []⟩,
  ⟨⟨some 10, Op.assign (Operand.tmp 31), none⟩, []⟩]) (.seq (.reg [⟨⟨some 33, Op.move (Operand.tmp 0), none⟩, []⟩,
  ⟨⟨some 34, Op.move (Operand.tmp 9), none⟩, []⟩,
  ⟨⟨some 35, Op.move (Operand.tmp 10), none⟩, []⟩,
  ⟨⟨some 36, Op.call { callee := (Callee.value (Operand.func 38)), args := #[(Operand.tmp 33), (Operand.tmp 34), (Operand.tmp 35)], argTypes := #[3, 38, 38] }, none⟩, []⟩,
  ⟨⟨some 32, Op.move (Operand.tmp 36), none⟩, []⟩,
  ⟨⟨some 37, Op.extract (Operand.tmp 32) 0, none⟩, []⟩,
  ⟨⟨some 38, Op.extract (Operand.tmp 32) 1, none⟩, []⟩,
  ⟨⟨some 11, Op.assign (Operand.tmp 37), none⟩, []⟩,
  ⟨⟨some 12, Op.assign (Operand.tmp 38), none⟩, []⟩]) (.seq (.seq (.reg [⟨⟨some 39, Op.move (Operand.tmp 11), none⟩, []⟩,
  ⟨⟨some 40, Op.move (Operand.tmp 7), none⟩, []⟩,
  ⟨⟨some 41, Op.binOp BinOp.neq 3 (Operand.tmp 39) (Operand.tmp 40) 3, none⟩, []⟩,
  ⟨⟨some 42, Op.move (Operand.tmp 41), none⟩, []⟩,
  ⟨⟨some 43, Op.move (Operand.tmp 12), some (42, false)⟩, []⟩,
  ⟨⟨some 44, Op.move (Operand.tmp 8), some (42, false)⟩, []⟩,
  ⟨⟨some 45, Op.binOp BinOp.neq 4 (Operand.tmp 43) (Operand.tmp 44) 4, some (42, false)⟩, []⟩,
  ⟨⟨some 46, Op.pick (Operand.tmp 42) (Operand.const (Value.bool true)) (Operand.tmp 45), none⟩, []⟩]) (.cond (Operand.tmp 46) (.seq (.reg [⟨⟨some 6, Op.assign (Operand.const (Value.bool false)), none⟩, []⟩]) .ret) .skip)) (.seq (.seq (.reg [⟨⟨some 47, Op.move (Operand.tmp 9), none⟩, []⟩,
  ⟨⟨some 48, Op.move (Operand.tmp 1), none⟩, []⟩,
  ⟨⟨some 49, Op.call { callee := (Callee.value (Operand.func 22)), args := #[(Operand.tmp 48)], argTypes := #[38] }, none⟩, []⟩,
  ⟨⟨some 50, Op.call { callee := (Callee.value (Operand.func 25)), args := #[(Operand.tmp 47), (Operand.tmp 49)], argTypes := #[38, 38] }, none⟩, []⟩,
  ⟨⟨some 51, Op.unOp UnOp.not 4 (Operand.tmp 50), none⟩, []⟩]) (.cond (Operand.tmp 51) (.seq (.reg [⟨⟨some 6, Op.assign (Operand.const (Value.bool false)), none⟩, []⟩]) .ret) .skip)) (.seq (.seq (.reg [⟨⟨some 52, Op.move (Operand.tmp 10), none⟩, []⟩,
  ⟨⟨some 53, Op.move (Operand.tmp 2), none⟩, []⟩,
  ⟨⟨some 54, Op.call { callee := (Callee.value (Operand.func 22)), args := #[(Operand.tmp 53)], argTypes := #[38] }, none⟩, []⟩,
  ⟨⟨some 55, Op.call { callee := (Callee.value (Operand.func 25)), args := #[(Operand.tmp 52), (Operand.tmp 54)], argTypes := #[38, 38] }, none⟩, []⟩,
  ⟨⟨some 56, Op.unOp UnOp.not 4 (Operand.tmp 55), none⟩, []⟩]) (.cond (Operand.tmp 56) (.seq (.reg [⟨⟨some 6, Op.assign (Operand.const (Value.bool false)), none⟩, []⟩]) .ret) .skip)) (.seq (.reg [⟨⟨some 6, Op.assign (Operand.const (Value.bool true)), none⟩, []⟩]) .ret)))))))))))
theorem sl9 : slim Try.f9.ntmps ords9 (Try.f9.body.getD .skip) = some cd9 := by kernel_rfl
theorem in9 {args : List Value} {H : AH} {R : Value → AH → Prop} (hl : args.length = 3) (h : ∀ (Q : Exit → Sl → AH → Prop), (∀ e s H, endA Try.prog [ResultVar.tmp 6] R e s H → Q e s H) → wpC Try.prog cd9 Q (enterA args) H) : ACalls Try.prog 9 args H R :=
  ACalls.intro (by kernel_rfl) Try.func9 rfl (by kernel_rfl) sl9 hl (of_decide_eq_true (by kernel_rfl)) (by kernel_rfl) h
end Go.Proofs.Ytlfongfhbkefmaa.Ai
namespace Go.Proofs.Ytlfongfhbkefmaa.Ai
open Go Go.RowKit
set_option linter.unusedVariables false
set_option linter.unusedSimpArgs false
set_option maxRecDepth 20000 in
set_option maxHeartbeats 8000000 in
theorem pdLaw_c (a0 : Int) (v1 : Value) (v2 : Value) (xs1 : List Int) (xs2 : List Int) (H0 : AH) (r1 : Row 3 H0 v1 xs1) (b1 : ∀ y ∈ xs1, I64 y) (r2 : Row 3 H0 v2 xs2) (b2 : ∀ y ∈ xs2, I64 y) :
    ACalls Try.prog 9 [.int .i64 a0, v1, v2] H0 fun r H' => r = .bool true := by
  refine in9 rfl ?_
  intro Q hQ
  simp (maxSteps := 4000000) (disch := omega) only [cd9, r1.len Try.underlying38, r2.len Try.underlying38, S, S1, S2, S3, S4, S5, ST, eq_self, reduceIte, reduceCtorEq, Nat.reduceEqDiff, Nat.reduceAdd]
  refine brD.intro (fun g1 => ?_) (fun g1 => ?_) <;> simp (maxSteps := 4000000) (disch := omega) only [r1.len Try.underlying38, r2.len Try.underlying38, S, S1, S2, S3, S4, S5, ST, eq_self, reduceIte, reduceCtorEq, Nat.reduceEqDiff, Nat.reduceAdd]
  · refine hQ _ _ _ ?_
    simp (maxSteps := 4000000) (disch := omega) only [S, S1, S2, S3, S4, S5, ST, eq_self, reduceIte, reduceCtorEq, Nat.reduceEqDiff, Nat.reduceAdd]
  have l1 : xs1.length ≤ 1048576 := by omega
  refine brD.intro (fun g2 => ?_) (fun g2 => ?_) <;> simp (maxSteps := 4000000) (disch := omega) only [r1.len Try.underlying38, r2.len Try.underlying38, S, S1, S2, S3, S4, S5, ST, eq_self, reduceIte, reduceCtorEq, Nat.reduceEqDiff, Nat.reduceAdd]
  · refine hQ _ _ _ ?_
    simp (maxSteps := 4000000) (disch := omega) only [S, S1, S2, S3, S4, S5, ST, eq_self, reduceIte, reduceCtorEq, Nat.reduceEqDiff, Nat.reduceAdd]
  have l2 : xs2.length ≤ 1048576 := by omega
  have Ra1_0 := r1.b
  have Ra2_0 := r2.b
  have L1_big : xs1.length ≤ 1099511627776 := by omega
  have L2_big : xs2.length ≤ 1099511627776 := by omega
  refine CallH.by (toIntS_c v1 xs1 H0 Ra1_0.1 L1_big) ?_
  rintro c1 H1 ⟨qc1, p1⟩
  have Ra1_1 := Ra1_0.pre p1
  have Ra2_1 := Ra2_0.pre p1
  have L1 := p1.length_le
  have Mc1_1 := InI.of qc1.mine
  have Rc1_1 := Mc1_1.row
  simp (maxSteps := 4000000) (disch := omega) only [S, S1, S2, S3, S4, S5, ST, eq_self, reduceIte, reduceCtorEq, Nat.reduceEqDiff, Nat.reduceAdd]
  refine CallH.by (toIntS_c v2 xs2 H1 Ra2_1.1 L2_big) ?_
  rintro c2 H2 ⟨qc2, p2⟩
  have Ra1_2 := Ra1_1.pre p2
  have Ra2_2 := Ra2_1.pre p2
  have Rc1_2 := Rc1_1.pre p2
  have Mc1_2 := Mc1_1.pre p2
  have L2 := p2.length_le
  have Mc2_2 := InI.of qc2.mine
  have Rc2_2 := Mc2_2.row
  simp (maxSteps := 4000000) (disch := omega) only [S, S1, S2, S3, S4, S5, ST, eq_self, reduceIte, reduceCtorEq, Nat.reduceEqDiff, Nat.reduceAdd]
  refine CallH.by (PdS_c a0  c1 c2 xs1 xs2 H2 Rc1_2.1 L1_big b1 Rc2_2.1 L2_big b2) ?_
  rintro _ H3 ⟨rfl, p3⟩
  have Ra1_3 := Ra1_2.pre p3
  have Ra2_3 := Ra2_2.pre p3
  have Rc1_3 := Rc1_2.pre p3
  have Rc2_3 := Rc2_2.pre p3
  have Mc1_3 := Mc1_2.pre p3
  have Mc2_3 := Mc2_2.pre p3
  have L3 := p3.length_le
  simp (maxSteps := 4000000) (disch := omega) only [S, S1, S2, S3, S4, S5, ST, eq_self, reduceIte, reduceCtorEq, Nat.reduceEqDiff, Nat.reduceAdd]
  refine CallH.by (toIntS_c v1 xs1 H3 Ra1_3.1 L1_big) ?_
  rintro d1 H4 ⟨qd1, p4⟩
  have Ra1_4 := Ra1_3.pre p4
  have Ra2_4 := Ra2_3.pre p4
  have L4 := p4.length_le
  have Md1_4 := InI.of qd1.mine
  have Rd1_4 := Md1_4.row
  simp (maxSteps := 4000000) (disch := omega) only [S, S1, S2, S3, S4, S5, ST, eq_self, reduceIte, reduceCtorEq, Nat.reduceEqDiff, Nat.reduceAdd]
  refine CallH.by (toIntS_c v2 xs2 H4 Ra2_4.1 L2_big) ?_
  rintro d2 H5 ⟨qd2, p5⟩
  have Ra1_5 := Ra1_4.pre p5
  have Ra2_5 := Ra2_4.pre p5
  have Rd1_5 := Rd1_4.pre p5
  have Md1_5 := Md1_4.pre p5
  have L5 := p5.length_le
  have Md2_5 := InI.of qd2.mine
  have Rd2_5 := Md2_5.row
  simp (maxSteps := 4000000) (disch := omega) only [S, S1, S2, S3, S4, S5, ST, eq_self, reduceIte, reduceCtorEq, Nat.reduceEqDiff, Nat.reduceAdd]
  refine CallH.by (PdI_c a0  d1 d2 xs1 xs2 H5 Rd1_5.1 L1_big b1 Rd2_5.1 L2_big b2) ?_
  rintro _ H6 ⟨rfl, p6⟩
  have Ra1_6 := Ra1_5.pre p6
  have Ra2_6 := Ra2_5.pre p6
  have Rd1_6 := Rd1_5.pre p6
  have Rd2_6 := Rd2_5.pre p6
  have Md1_6 := Md1_5.pre p6
  have Md2_6 := Md2_5.pre p6
  have L6 := p6.length_le
  simp (maxSteps := 4000000) (disch := omega) only [S, S1, S2, S3, S4, S5, ST, eq_self, reduceIte, reduceCtorEq, Nat.reduceEqDiff, Nat.reduceAdd]
  refine CallH.by (toIntS_c v1 xs1 H6 Ra1_6.1 L1_big) ?_
  rintro f1 H7 ⟨qf1, p7⟩
  have Ra1_7 := Ra1_6.pre p7
  have Ra2_7 := Ra2_6.pre p7
  have Rd1_7 := Rd1_6.pre p7
  have Rd2_7 := Rd2_6.pre p7
  have Md1_7 := Md1_6.pre p7
  have Md2_7 := Md2_6.pre p7
  have L7 := p7.length_le
  have Mf1_7 := InI.of qf1.mine
  have Rf1_7 := Mf1_7.row
  simp (maxSteps := 4000000) (disch := omega) only [S, S1, S2, S3, S4, S5, ST, eq_self, reduceIte, reduceCtorEq, Nat.reduceEqDiff, Nat.reduceAdd]
  refine CallH.by (eqIntS_c d1 f1 _ _ H7 Rd1_7.1 Rf1_7.1 L1_big) ?_
  rintro _ _ ⟨rfl, rfl⟩
  simp (maxSteps := 4000000) (disch := omega) only [S, S1, S2, S3, S4, S5, ST, eq_self, reduceIte, reduceCtorEq, Nat.reduceEqDiff, Nat.reduceAdd]
  refine CallH.by (toIntS_c v2 xs2 H7 Ra2_7.1 L2_big) ?_
  rintro f2 H8 ⟨qf2, p8⟩
  have Ra1_8 := Ra1_7.pre p8
  have Ra2_8 := Ra2_7.pre p8
  have Rd1_8 := Rd1_7.pre p8
  have Rd2_8 := Rd2_7.pre p8
  have Md1_8 := Md1_7.pre p8
  have Md2_8 := Md2_7.pre p8
  have L8 := p8.length_le
  have Mf2_8 := InI.of qf2.mine
  have Rf2_8 := Mf2_8.row
  simp (maxSteps := 4000000) (disch := omega) only [S, S1, S2, S3, S4, S5, ST, eq_self, reduceIte, reduceCtorEq, Nat.reduceEqDiff, Nat.reduceAdd]
  refine CallH.by (eqIntS_c d2 f2 _ _ H8 Rd2_8.1 Rf2_8.1 L2_big) ?_
  rintro _ _ ⟨rfl, rfl⟩
  simp (maxSteps := 4000000) (disch := omega) only [S, S1, S2, S3, S4, S5, ST, eq_self, reduceIte, reduceCtorEq, Nat.reduceEqDiff, Nat.reduceAdd]
  refine hQ _ _ _ ?_
  simp (maxSteps := 4000000) (disch := omega) only [S, S1, S2, S3, S4, S5, ST, eq_self, reduceIte, reduceCtorEq, Nat.reduceEqDiff, Nat.reduceAdd]
end Go.Proofs.Ytlfongfhbkefmaa.Ai
