/- Spaces: comparisons, marks (laws.eqSpace, markSpace, heldSpace). -/
import Derived.Test.YthhnpchjjbjabaaSpc
import Derived.Test.YthhnpchjjbjabaaMarkL
import Derived.Test.YthhnpchjjbjabaaMarkP
import Derived.Test.YthhnpchjjbjabaaPrs
import Derived.Test.YthhnpchjjbjabaaProg
import Derived.Test.YthhnpchjjbjabaaAiM2
import Derived.KernelRfl
/- Slim code of this translation. By the kernel. -/
namespace Go.Proofs.Ythhnpchjjbjabaa.Ai
open Go

/- loop.example/g01128/laws.eqSpace -/
def ords30 : List (Nat × List (Nat × Bool)) := []
def cd30 : Cd := (.seq (.reg [⟨⟨some 2, Op.box 40 (Operand.tmp 0), none⟩, []⟩,
  ⟨⟨some 3, Op.box 40 (Operand.tmp 1), none⟩, []⟩,
  ⟨⟨some 4, Op.assign (Operand.const (Value.bool false)), none⟩, []⟩]) (.seq (.seq (.reg [⟨⟨some 5, Op.fieldAddr 40 (Operand.tmp 2) 0, none⟩, []⟩,
  ⟨⟨some 6, Op.load 38 (Operand.tmp 5), none⟩, []⟩,
  ⟨⟨some 7, Op.fieldAddr 40 (Operand.tmp 3) 0, none⟩, []⟩,
  ⟨⟨some 8, Op.load 38 (Operand.tmp 7), none⟩, []⟩,
  ⟨⟨some 9, Op.call { callee := (Callee.value (Operand.func 46)), args := #[(Operand.tmp 6), (Operand.tmp 8)], argTypes := #[38, 38] }, none⟩, []⟩,
  ⟨⟨some 10, Op.unOp UnOp.not 4 (Operand.tmp 9), none⟩, []⟩]) (.cond (Operand.tmp 10) (.seq (.reg [⟨⟨some 4, Op.assign (Operand.const (Value.bool false)), none⟩, []⟩]) .ret) .skip)) (.seq (.seq (.reg [⟨⟨some 11, Op.fieldAddr 40 (Operand.tmp 2) 1, none⟩, []⟩,
  ⟨⟨some 12, Op.load 22 (Operand.tmp 11), none⟩, []⟩,
  ⟨⟨some 13, Op.fieldAddr 40 (Operand.tmp 3) 1, none⟩, []⟩,
  ⟨⟨some 14, Op.load 22 (Operand.tmp 13), none⟩, []⟩,
  ⟨⟨some 15, Op.call { callee := (Callee.value (Operand.func 38)), args := #[(Operand.tmp 12), (Operand.tmp 14)], argTypes := #[22, 22] }, none⟩, []⟩,
  ⟨⟨some 16, Op.unOp UnOp.not 4 (Operand.tmp 15), none⟩, []⟩]) (.cond (Operand.tmp 16) (.seq (.reg [⟨⟨some 4, Op.assign (Operand.const (Value.bool false)), none⟩, []⟩]) .ret) .skip)) (.seq (.reg [⟨⟨some 4, Op.assign (Operand.const (Value.bool true)), none⟩, []⟩]) .ret))))
theorem sl30 : slim Try.f30.ntmps ords30 (Try.f30.body.getD .skip) = some cd30 := by kernel_rfl
theorem in30 {args : List Value} {H : AH} {R : Value → AH → Prop} (hl : args.length = 2) (h : ∀ (Q : Exit → Sl → AH → Prop), (∀ e s H, endA Try.prog [ResultVar.tmp 4] R e s H → Q e s H) → wpC Try.prog cd30 Q (enterA args) H) : ACalls Try.prog 30 args H R :=
  ACalls.intro (by kernel_rfl) Try.func30 rfl (by kernel_rfl) sl30 hl (of_decide_eq_true (by kernel_rfl)) (by kernel_rfl) h

/- loop.example/g01128/laws.markSpace -/
def ords32 : List (Nat × List (Nat × Bool)) := []
def cd32 : Cd := (.seq (.reg [⟨⟨some 2, Op.box 40 (Operand.tmp 0), none⟩, []⟩,
  ⟨⟨some 4, Op.assign (Operand.const (Value.int IntKind.i64 0)), none⟩, []⟩]) (.seq (.reg [⟨⟨some 5, Op.fieldAddr 40 (Operand.tmp 2) 0, none⟩, []⟩,
  ⟨⟨some 6, Op.load 38 (Operand.tmp 5), none⟩, []⟩,
  ⟨⟨some 7, Op.move (Operand.tmp 1), none⟩, []⟩,
  ⟨⟨some 8, Op.call { callee := (Callee.value (Operand.func 47)), args := #[(Operand.tmp 6), (Operand.tmp 7)], argTypes := #[38, 3] }, none⟩, []⟩,
  ⟨⟨some 1, Op.assign (Operand.tmp 8), none⟩, []⟩]) (.seq (.reg [⟨⟨some 9, Op.fieldAddr 40 (Operand.tmp 2) 1, none⟩, []⟩,
  ⟨⟨some 10, Op.load 22 (Operand.tmp 9), none⟩, []⟩,
  ⟨⟨some 11, Op.move (Operand.tmp 1), none⟩, []⟩,
  ⟨⟨some 12, Op.call { callee := (Callee.value (Operand.func 40)), args := #[(Operand.tmp 10), (Operand.tmp 11)], argTypes := #[22, 3] }, none⟩, []⟩,
  ⟨⟨some 1, Op.assign (Operand.tmp 12), none⟩, []⟩]) (.seq (.reg [⟨⟨some 13, Op.move (Operand.tmp 1), none⟩, []⟩,
  ⟨⟨some 4, Op.assign (Operand.tmp 13), none⟩, []⟩]) .ret))))
theorem sl32 : slim Try.f32.ntmps ords32 (Try.f32.body.getD .skip) = some cd32 := by kernel_rfl
theorem in32 {args : List Value} {H : AH} {R : Value → AH → Prop} (hl : args.length = 2) (h : ∀ (Q : Exit → Sl → AH → Prop), (∀ e s H, endA Try.prog [ResultVar.tmp 4] R e s H → Q e s H) → wpC Try.prog cd32 Q (enterA args) H) : ACalls Try.prog 32 args H R :=
  ACalls.intro (by kernel_rfl) Try.func32 rfl (by kernel_rfl) sl32 hl (of_decide_eq_true (by kernel_rfl)) (by kernel_rfl) h

/- loop.example/g01128/laws.heldSpace -/
def ords33 : List (Nat × List (Nat × Bool)) := []
def cd33 : Cd := (.seq (.reg [⟨⟨some 2, Op.box 40 (Operand.tmp 0), none⟩, []⟩,
  ⟨⟨some 4, Op.assign (Operand.const (Value.int IntKind.i64 0)), none⟩, []⟩]) (.seq (.reg [⟨⟨some 5, Op.fieldAddr 40 (Operand.tmp 2) 0, none⟩, []⟩,
  ⟨⟨some 6, Op.load 38 (Operand.tmp 5), none⟩, []⟩,
  ⟨⟨some 7, Op.move (Operand.tmp 1), none⟩, []⟩,
  ⟨⟨some 8, Op.call { callee := (Callee.value (Operand.func 48)), args := #[(Operand.tmp 6), (Operand.tmp 7)], argTypes := #[38, 3] }, none⟩, []⟩,
  ⟨⟨some 1, Op.assign (Operand.tmp 8), none⟩, []⟩]) (.seq (.seq (.reg [⟨⟨some 9, Op.move (Operand.tmp 1), none⟩, []⟩,
  ⟨⟨some 10, Op.binOp BinOp.lss 3 (Operand.tmp 9) (Operand.const (Value.int IntKind.i64 0)) 3, none⟩, []⟩]) (.cond (Operand.tmp 10) (.seq (.reg [⟨⟨some 4, Op.assign (Operand.const (Value.int IntKind.i64 (-1))), none⟩, []⟩]) .ret) .skip)) (.seq (.reg [⟨⟨some 11, Op.fieldAddr 40 (Operand.tmp 2) 1, none⟩, []⟩,
  ⟨⟨some 12, Op.load 22 (Operand.tmp 11), none⟩, []⟩,
  ⟨⟨some 13, Op.move (Operand.tmp 1), none⟩, []⟩,
  ⟨⟨some 14, Op.call { callee := (Callee.value (Operand.func 41)), args := #[(Operand.tmp 12), (Operand.tmp 13)], argTypes := #[22, 3] }, none⟩, []⟩,
  ⟨⟨some 1, Op.assign (Operand.tmp 14), none⟩, []⟩]) (.seq (.seq (.reg [⟨⟨some 15, Op.move (Operand.tmp 1), none⟩, []⟩,
  ⟨⟨some 16, Op.binOp BinOp.lss 3 (Operand.tmp 15) (Operand.const (Value.int IntKind.i64 0)) 3, none⟩, []⟩]) (.cond (Operand.tmp 16) (.seq (.reg [⟨⟨some 4, Op.assign (Operand.const (Value.int IntKind.i64 (-1))), none⟩, []⟩]) .ret) .skip)) (.seq (.reg [⟨⟨some 17, Op.move (Operand.tmp 1), none⟩, []⟩,
  ⟨⟨some 4, Op.assign (Operand.tmp 17), none⟩, []⟩]) .ret))))))
theorem sl33 : slim Try.f33.ntmps ords33 (Try.f33.body.getD .skip) = some cd33 := by kernel_rfl
theorem in33 {args : List Value} {H : AH} {R : Value → AH → Prop} (hl : args.length = 2) (h : ∀ (Q : Exit → Sl → AH → Prop), (∀ e s H, endA Try.prog [ResultVar.tmp 4] R e s H → Q e s H) → wpC Try.prog cd33 Q (enterA args) H) : ACalls Try.prog 33 args H R :=
  ACalls.intro (by kernel_rfl) Try.func33 rfl (by kernel_rfl) sl33 hl (of_decide_eq_true (by kernel_rfl)) (by kernel_rfl) h
end Go.Proofs.Ythhnpchjjbjabaa.Ai

namespace Go.Proofs.Ythhnpchjjbjabaa.Ai
open Go Go.RowKit
set_option linter.unusedVariables false
set_option linter.unusedSimpArgs false

/-- a space's two lists in memory -/
def SpRow (H : AH) (a b : Value) (ls : List (List Int)) (ps : List (Int × Int)) : Prop := (∃ bd, RowLB bd 32 3 H a ls) ∧ RowP 76 H b ps
/-- .. of one's own: the states below mid, the steps from mid on -/
def SpIn (lo hi : Nat) (H : AH) (a b : Value) (ls : List (List Int)) (ps : List (Int × Int)) : Prop := ∃ mid, lo ≤ mid ∧ mid ≤ hi ∧ InL lo mid 32 3 H a ls ∧ InP mid hi 76 H b ps
theorem SpIn.row {lo hi : Nat} {H : AH} {a b : Value} {ls : List (List Int)} {ps : List (Int × Int)} (h : SpIn lo hi H a b ls ps) : SpRow H a b ls ps := by
  obtain ⟨mid, h1, h2, h3, h4⟩ := h
  exact ⟨⟨_, h3.row⟩, h4.row.1⟩
theorem SpIn.pre {lo hi : Nat} {H H' : AH} {a b : Value} {ls : List (List Int)} {ps : List (Int × Int)} (h : SpIn lo hi H a b ls ps) (hp : H <+: H') : SpIn lo hi H' a b ls ps := by
  obtain ⟨mid, h1, h2, h3, h4⟩ := h
  exact ⟨mid, h1, h2, h3.pre hp, h4.pre hp⟩
theorem SpIn.keep {lo hi lo' hi' : Nat} {H H' : AH} {a b : Value} {ls : List (List Int)} {ps : List (Int × Int)} (h : SpIn lo hi H a b ls ps) (he : ElseR lo' hi' H H') (hl : hi ≤ lo' ∨ hi' ≤ lo) : SpIn lo hi H' a b ls ps := by
  obtain ⟨mid, h1, h2, h3, h4⟩ := h
  exact ⟨mid, h1, h2, h3.keep he (by omega), h4.keep he (by omega)⟩
theorem SpRow.pre {H H' : AH} {a b : Value} {ls : List (List Int)} {ps : List (Int × Int)} (h : SpRow H a b ls ps) (hp : H <+: H') : SpRow H' a b ls ps := ⟨h.1.imp fun _ q => q.pre hp, h.2.pre hp⟩
theorem SpRow.shape {H : AH} {a b : Value} {ls : List (List Int)} {ps : List (Int × Int)} (h : SpRow H a b ls ps) : (∃ p n c, a = .slice p n c) ∧ ∃ p n c, b = .slice p n c := by
  obtain ⟨⟨bd, us, h1, _⟩, h2⟩ := h
  obtain ⟨p, e⟩ := h1.shape
  obtain ⟨q, e2⟩ := h2.shape
  exact ⟨⟨_, _, _, e⟩, ⟨_, _, _, e2⟩⟩
theorem SpRow.box {H G : AH} {a b : Value} {ls : List (List Int)} {ps : List (Int × Int)} (h : SpRow G a b ls ps) : boxA Try.prog 40 (.agg (List.toArray [a, b])) H = some (.pointer (some ⟨H.length, 0, none⟩), H ++ [.cells [a, b] 40 false]) := by
  obtain ⟨⟨p, n, c, rfl⟩, ⟨q, m, d, rfl⟩⟩ := h.shape
  kernel_rfl
theorem SpRow.store {e : TypeId} {H G : AH} {o : Nat} {vs : List Value} {a b : Value} {ls : List (List Int)} {ps : List (Int × Int)} (h : SpRow G a b ls ps) (ho : H[o]? = some (.cells vs e false)) (hv : vs.length = 2) :
    storeA Try.prog 40 (.pointer (some ⟨o, 0, none⟩)) (.agg (List.toArray [a, b])) H = some (H.set o (.cells [a, b] e false)) := by
  obtain ⟨⟨p, n, c, rfl⟩, ⟨q, m, d, rfl⟩⟩ := h.shape
  exact st_ss ho hv p q n c m d

theorem eqSpace_c (a b c d : Value) (ls ms : List (List Int)) (ps qs : List (Int × Int)) (H : AH) (hr : SpRow H a b ls ps) (hr2 : SpRow H c d ms qs) (hl : ls.length ≤ 1099511627776) (hs : sizeL ls ≤ 1099511627776) (hp : ps.length ≤ 1099511627776) :
    ACalls Try.prog 30 [.agg (List.toArray [a, b]), .agg (List.toArray [c, d])] H fun r H' => r = .bool (decide (ls = ms ∧ ps = qs)) ∧ H <+: H' := by
  refine in30 rfl ?_
  intro Q hQ
  simp (maxSteps := 1000000) (disch := omega) only [cd30, hr.box, hr2.box, S, S1, S2, S3, S4, S5, ST, eq_self, reduceIte, reduceCtorEq, Nat.reduceEqDiff, Nat.reduceAdd]
  generalize hA : H ++ [AObj.cells [a, b] 40 false] = A
  have pA : H <+: A := by rw [← hA]; exact List.prefix_append _ _
  have a0 : A[H.length]? = some (.cells [a, b] 40 false) := by rw [← hA]; exact at_new ..
  generalize hB : A ++ [AObj.cells [c, d] 40 false] = B
  have pB : A <+: B := by rw [← hB]; exact List.prefix_append _ _
  have b0 := pre_at pB a0
  have b1 : B[A.length]? = some (.cells [c, d] 40 false) := by rw [← hB]; exact at_new ..
  have pHB := pA.trans pB
  obtain ⟨⟨bd, r1⟩, r2⟩ := hr.pre pHB
  obtain ⟨⟨bd2, r3⟩, r4⟩ := hr2.pre pHB
  simp (maxSteps := 1000000) (disch := omega) only [cell_of b0, cell_of b1, S, S1, S2, S3, S4, S5, ST, eq_self, reduceIte, reduceCtorEq, Nat.reduceEqDiff, Nat.reduceAdd]
  refine CallH.by (eqIntSS_c a c ls ms B r1 r3 hl hs) ?_
  rintro _ _ ⟨rfl, rfl⟩
  simp (maxSteps := 1000000) (disch := omega) only [S, S1, S2, S3, S4, S5, ST, eq_self, reduceIte, reduceCtorEq, Nat.reduceEqDiff, Nat.reduceAdd]
  refine brD.intro (fun g => ?_) (fun g => ?_) <;> simp (maxSteps := 1000000) (disch := omega) only [g, cell_of b0, cell_of b1, S, S1, S2, S3, S4, S5, ST, eq_self, reduceIte, reduceCtorEq, Nat.reduceEqDiff, Nat.reduceAdd]
  · refine CallH.by (eqIntA2S_c b d ps qs B r2 r4 hp) ?_
    rintro _ C ⟨rfl, pC⟩
    have pHC := pHB.trans pC
    simp (maxSteps := 1000000) (disch := omega) only [S, S1, S2, S3, S4, S5, ST, eq_self, reduceIte, reduceCtorEq, Nat.reduceEqDiff, Nat.reduceAdd]
    refine brD.intro (fun e => ?_) (fun e => ?_) <;> simp (maxSteps := 1000000) (disch := omega) only [e, S, S1, S2, S3, S4, S5, ST, eq_self, reduceIte, reduceCtorEq, Nat.reduceEqDiff, Nat.reduceAdd]
    · refine hQ _ _ _ ?_
      simp (maxSteps := 1000000) (disch := omega) only [S, S1, S2, S3, S4, S5, ST, eq_self, reduceIte, reduceCtorEq, Nat.reduceEqDiff, Nat.reduceAdd]
      exact ⟨by rw [decide_eq_true ⟨g, e⟩], pHC⟩
    · refine hQ _ _ _ ?_
      simp (maxSteps := 1000000) (disch := omega) only [S, S1, S2, S3, S4, S5, ST, eq_self, reduceIte, reduceCtorEq, Nat.reduceEqDiff, Nat.reduceAdd]
      exact ⟨by rw [decide_eq_false (fun h => e h.2)], pHC⟩
  · refine hQ _ _ _ ?_
    simp (maxSteps := 1000000) (disch := omega) only [S, S1, S2, S3, S4, S5, ST, eq_self, reduceIte, reduceCtorEq, Nat.reduceEqDiff, Nat.reduceAdd]
    exact ⟨by rw [decide_eq_false (fun h => g h.1)], pHB⟩

theorem markSpace_B (a b : Value) (ls : List (List Int)) (ps : List (Int × Int)) (k : Int) (lo hi : Nat) (H : AH) (h : SpIn lo hi H a b ls ps) (hl : ls.length ≤ 1099511627776) (hs : sizeL ls ≤ 549755813888) (hp : ps.length ≤ 1099511627776) (hk : 0 ≤ k ∧ k ≤ 1000000) (hb : hi ≤ H.length) :
    ACalls Try.prog 32 [.agg (List.toArray [a, b]), .int .i64 k] H fun r H' => r = .int .i64 (k + sizeL ls + 2 * ps.length) ∧ ∃ Hm, SpIn lo hi Hm a b (runL k ls) (runP (k + sizeL ls) ps.length) ∧ ElseR lo hi H Hm ∧ Hm <+: H' := by
  refine in32 rfl ?_
  intro Q hQ
  have hrow := h.row
  simp (maxSteps := 1000000) (disch := omega) only [cd32, hrow.box, cell_new, S, S1, S2, S3, S4, S5, ST, eq_self, reduceIte, reduceCtorEq, Nat.reduceEqDiff, Nat.reduceAdd]
  generalize hA : H ++ [AObj.cells [a, b] 40 false] = A
  have pA : H <+: A := by rw [← hA]; exact List.prefix_append _ _
  have cA : A[H.length]? = some (.cells [a, b] 40 false) := by rw [← hA]; exact at_new ..
  have lA : A.length = H.length + 1 := by rw [← hA]; simp
  obtain ⟨mid, m1, m2, m3, m4⟩ := h.pre pA
  refine CallH.by (markIntSS_B a ls k lo mid A m3 hl (by omega) (by omega)) ?_
  rintro _ B ⟨rfl, m5, e1⟩
  have m6 := m4.keep e1 (.inr (Nat.le_refl _))
  have cB := e1.2 _ _ (.inr (by omega)) cA
  simp (maxSteps := 1000000) (disch := omega) only [cell_of cB, S, S1, S2, S3, S4, S5, ST, eq_self, reduceIte, reduceCtorEq, Nat.reduceEqDiff, Nat.reduceAdd]
  refine CallH.by (markIntA2S_B b ps (k + sizeL ls) mid hi B m6 hp (by omega)) ?_
  rintro _ C ⟨rfl, m7, e2⟩
  have m8 := m5.keep e2 (.inl (Nat.le_refl _))
  simp (maxSteps := 1000000) (disch := omega) only [S, S1, S2, S3, S4, S5, ST, eq_self, reduceIte, reduceCtorEq, Nat.reduceEqDiff, Nat.reduceAdd]
  refine hQ _ _ _ ?_
  simp (maxSteps := 1000000) (disch := omega) only [S, S1, S2, S3, S4, S5, ST, eq_self, reduceIte, reduceCtorEq, Nat.reduceEqDiff, Nat.reduceAdd]
  have eAll : ElseR lo hi A C := ⟨e2.1.trans e1.1, fun o x ho hx => e2.2 o x (by omega) (e1.2 o x (by omega) hx)⟩
  have hC : ∀ o, o < H.length → (C.take H.length)[o]? = C[o]? := fun o ho => List.getElem?_take_of_lt ho
  refine ⟨C.take H.length, ⟨mid, m1, m2, ?_, ?_⟩, ⟨?_, ?_⟩, List.take_prefix _ _⟩
  · rcases m8 with q | ⟨o, us, q1, q2⟩
    · exact .inl q
    · exact .inr ⟨o, us, q1, q2.move fun j y hj1 hj2 hy => by rw [hC j (by omega)]; exact hy⟩
  · rcases m7 with q | ⟨o, zs, q1, q2, q3, q4, q5⟩
    · exact .inl q
    · exact .inr ⟨o, zs, q1, q2, q3, by rw [hC o (by omega)]; exact q4, q5⟩
  · have := eAll.1
    rw [List.length_take]; omega
  · intro o x ho hx
    rw [hC o (at_lt hx)]
    exact eAll.2 o x ho (pre_at pA hx)

theorem heldSpace_c (a b : Value) (ls : List (List Int)) (n : Nat) (k : Int) (H : AH) (h : SpRow H a b (runL k ls) (runP (k + sizeL ls) n)) (hl : ls.length ≤ 1099511627776) (hs : sizeL ls ≤ 549755813888) (hn : n ≤ 1099511627776) (hk : 0 ≤ k ∧ k ≤ 1000000) :
    ACalls Try.prog 33 [.agg (List.toArray [a, b]), .int .i64 k] H fun r H' => r = .int .i64 (k + sizeL ls + 2 * n) ∧ H <+: H' := by
  refine in33 rfl ?_
  intro Q hQ
  simp (maxSteps := 1000000) (disch := omega) only [cd33, h.box, cell_new, S, S1, S2, S3, S4, S5, ST, eq_self, reduceIte, reduceCtorEq, Nat.reduceEqDiff, Nat.reduceAdd]
  generalize hA : H ++ [AObj.cells [a, b] 40 false] = A
  have pA : H <+: A := by rw [← hA]; exact List.prefix_append _ _
  have cA : A[H.length]? = some (.cells [a, b] 40 false) := by rw [← hA]; exact at_new ..
  obtain ⟨⟨bd, r1⟩, r2⟩ := h.pre pA
  refine CallH.by (heldIntSS_c a ls k A r1 hl (by omega) (by omega)) ?_
  rintro _ _ ⟨rfl, rfl⟩
  simp (maxSteps := 1000000) (disch := omega) only [S, S1, S2, S3, S4, S5, ST, eq_self, reduceIte, reduceCtorEq, Nat.reduceEqDiff, Nat.reduceAdd]
  refine brD.intro (fun g => absurd g (by omega)) (fun g => ?_)
  simp (maxSteps := 1000000) (disch := omega) only [cell_of cA, S, S1, S2, S3, S4, S5, ST, eq_self, reduceIte, reduceCtorEq, Nat.reduceEqDiff, Nat.reduceAdd]
  refine CallH.by (heldIntA2S_c b n (k + sizeL ls) A r2 hn (by omega)) ?_
  rintro _ _ ⟨rfl, rfl⟩
  simp (maxSteps := 1000000) (disch := omega) only [S, S1, S2, S3, S4, S5, ST, eq_self, reduceIte, reduceCtorEq, Nat.reduceEqDiff, Nat.reduceAdd]
  refine brD.intro (fun g => absurd g (by omega)) (fun g => ?_)
  simp (maxSteps := 1000000) (disch := omega) only [S, S1, S2, S3, S4, S5, ST, eq_self, reduceIte, reduceCtorEq, Nat.reduceEqDiff, Nat.reduceAdd]
  refine hQ _ _ _ ?_
  simp (maxSteps := 1000000) (disch := omega) only [S, S1, S2, S3, S4, S5, ST, eq_self, reduceIte, reduceCtorEq, Nat.reduceEqDiff, Nat.reduceAdd]
  exact pA
end Go.Proofs.Ythhnpchjjbjabaa.Ai
