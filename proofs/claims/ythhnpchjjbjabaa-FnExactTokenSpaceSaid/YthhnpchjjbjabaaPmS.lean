/- All permutations (impl.permutations). -/
import Derived.Test.YthhnpchjjbjabaaDfP
import Derived.Test.YthhnpchjjbjabaaLst
import Derived.Test.YthhnpchjjbjabaaIndex
import Derived.Test.YthhnpchjjbjabaaProg
import Derived.Test.YthhnpchjjbjabaaAiM2
import Derived.KernelRfl
/- Slim code of this translation. By the kernel. -/
namespace Go.Proofs.Ythhnpchjjbjabaa.Ai
open Go

/- loop.example/g01128/impl.permutations$1 -/
def ords126 : List (Nat × List (Nat × Bool)) := [(1, [(0, false), (1, false), (2, true), (3, false), (4, true), (5, true)])]
def cd126 : Cd := (.seq (.seq (.reg [⟨⟨some 5, Op.load 32 (Operand.tmp 0), none⟩, []⟩,
  ⟨⟨some 6, Op.call { callee := (Callee.builtin Builtin.len), args := #[(Operand.tmp 5)], argTypes := #[32] }, none⟩, []⟩,
  ⟨⟨some 7, Op.load 3 (Operand.tmp 1), none⟩, []⟩,
  ⟨⟨some 8, Op.binOp BinOp.eql 3 (Operand.tmp 6) (Operand.tmp 7) 3, none⟩, []⟩]) (.cond (Operand.tmp 8) (.seq (.reg [⟨⟨some 9, Op.load 38 (Operand.tmp 2), none⟩, []⟩,
  ⟨⟨some 10, Op.load 32 (Operand.tmp 0), none⟩, []⟩,
  ⟨⟨some 11, Op.call { callee := (Callee.value (Operand.func 127)), args := #[(Operand.tmp 10)], argTypes := #[32] }, none⟩, [⟨some 9, Op.load 38 (Operand.tmp 2), none⟩]⟩,
  ⟨⟨some 12, Op.buildSlice 38 1 #[(0, (Operand.tmp 11))], none⟩, []⟩,
  ⟨⟨some 13, Op.call { callee := (Callee.builtin Builtin.append), args := #[(Operand.tmp 9), (Operand.tmp 12)], argTypes := #[38, 38] }, none⟩, []⟩,
  ⟨⟨none, Op.store 38 (Operand.tmp 2) (Operand.tmp 13), none⟩, []⟩]) .ret) .skip)) (.seq (.reg [⟨⟨some 14, Op.load 3 (Operand.tmp 1), none⟩, []⟩,
  ⟨⟨some 15, Op.move (Operand.const (Value.int IntKind.i64 0)), none⟩, []⟩]) (.block 0 (.loop (.seq (.reg [⟨⟨some 16, Op.binOp BinOp.lss 3 (Operand.tmp 15) (Operand.tmp 14) 3, none⟩, []⟩]) (.seq (.cond (Operand.tmp 16) .skip (.exit 0)) (.seq (.block 1 (.seq (.reg [⟨⟨some 17, Op.move (Operand.tmp 15), none⟩, []⟩,
  ⟨⟨some 4, Op.assign (Operand.tmp 17), none⟩, []⟩]) (.seq (.reg [⟨⟨some 18, Op.load 32 (Operand.tmp 0), none⟩, []⟩,
  ⟨⟨some 19, Op.move (Operand.tmp 4), none⟩, []⟩,
  ⟨⟨some 20, Op.call { callee := (Callee.value (Operand.func 128)), args := #[(Operand.tmp 18), (Operand.tmp 19)], argTypes := #[32, 3] }, none⟩, []⟩,
  ⟨⟨some 21, Op.unOp UnOp.not 4 (Operand.tmp 20), none⟩, []⟩]) (.cond (Operand.tmp 21) (.seq (.reg [⟨⟨some 22, Op.load 32 (Operand.tmp 0), none⟩, []⟩,
  ⟨⟨some 23, Op.move (Operand.tmp 4), none⟩, []⟩,
  ⟨⟨some 24, Op.buildSlice 32 1 #[(0, (Operand.tmp 23))], none⟩, []⟩,
  ⟨⟨some 25, Op.call { callee := (Callee.builtin Builtin.append), args := #[(Operand.tmp 22), (Operand.tmp 24)], argTypes := #[32, 32] }, none⟩, []⟩,
  ⟨⟨none, Op.store 32 (Operand.tmp 0) (Operand.tmp 25), none⟩, []⟩]) (.seq (.reg [⟨⟨some 26, Op.load 1 (Operand.tmp 3), none⟩, []⟩,
  ⟨⟨some 27, Op.call { callee := (Callee.value (Operand.tmp 26)), args := #[], argTypes := #[] }, none⟩, []⟩]) (.reg [⟨⟨some 28, Op.load 32 (Operand.tmp 0), none⟩, []⟩,
  ⟨⟨some 29, Op.load 32 (Operand.tmp 0), none⟩, []⟩,
  ⟨⟨some 30, Op.call { callee := (Callee.builtin Builtin.len), args := #[(Operand.tmp 29)], argTypes := #[32] }, none⟩, []⟩,
  ⟨⟨some 31, Op.binOp BinOp.sub 3 (Operand.tmp 30) (Operand.const (Value.int IntKind.i64 1)) 3, none⟩, []⟩,
  ⟨⟨some 32, Op.slice 32 (Operand.tmp 28) none (some (Operand.tmp 31)) none, none⟩, []⟩,
  ⟨⟨none, Op.store 32 (Operand.tmp 0) (Operand.tmp 32), none⟩, []⟩]))) .skip)))) (.reg [⟨⟨some 33, Op.binOp BinOp.add 3 (Operand.tmp 15) (Operand.const (Value.int IntKind.i64 1)) 3, none⟩, []⟩,
  ⟨⟨some 15, Op.move (Operand.tmp 33), none⟩, []⟩]))))))))
theorem sl126 : slim Try.f126.ntmps ords126 (Try.f126.body.getD .skip) = some cd126 := by kernel_rfl
theorem in126 {args : List Value} {H : AH} {R : Value → AH → Prop} (hl : args.length = 4) (h : ∀ (Q : Exit → Sl → AH → Prop), (∀ e s H, endA Try.prog [] R e s H → Q e s H) → wpC Try.prog cd126 Q (enterA args) H) : ACalls Try.prog 126 args H R :=
  ACalls.intro (by kernel_rfl) Try.func126 rfl (by kernel_rfl) sl126 hl (of_decide_eq_true (by kernel_rfl)) (by kernel_rfl) h

/- loop.example/g01128/impl.permutations -/
def ords78 : List (Nat × List (Nat × Bool)) := []
def cd78 : Cd := (.seq (.reg [⟨⟨some 1, Op.box 3 (Operand.tmp 0), none⟩, []⟩,
  ⟨⟨some 2, Op.assign (Operand.const (Value.slice none 0 0)), none⟩, []⟩]) (.seq (.reg [⟨⟨some 6, Op.buildSlice 38 0 #[], none⟩, []⟩,
  ⟨⟨some 7, Op.buildSlice 32 0 #[], none⟩, []⟩,
  ⟨⟨some 3, Op.alloc 38, none⟩, []⟩,
  ⟨⟨some 4, Op.alloc 32, none⟩, []⟩,
  ⟨⟨none, Op.store 38 (Operand.tmp 3) (Operand.tmp 6), none⟩, []⟩,
  ⟨⟨none, Op.store 32 (Operand.tmp 4) (Operand.tmp 7), none⟩, []⟩]) (.seq (.reg [⟨⟨some 5, Op.alloc 1, none⟩, []⟩]) (.seq (.reg [⟨⟨some 8, Op.makeFunc (Fn.func 126) #[] #[(Operand.tmp 4), (Operand.tmp 1), (Operand.tmp 3), (Operand.tmp 5)], none⟩, []⟩,
  ⟨⟨none, Op.store 1 (Operand.tmp 5) (Operand.tmp 8), none⟩, []⟩]) (.seq (.reg [⟨⟨some 9, Op.load 1 (Operand.tmp 5), none⟩, []⟩,
  ⟨⟨some 10, Op.call { callee := (Callee.value (Operand.tmp 9)), args := #[], argTypes := #[] }, none⟩, []⟩]) (.seq (.reg [⟨⟨some 11, Op.load 38 (Operand.tmp 3), none⟩, []⟩,
  ⟨⟨some 2, Op.assign (Operand.tmp 11), none⟩, []⟩]) .ret))))))
theorem sl78 : slim Try.f78.ntmps ords78 (Try.f78.body.getD .skip) = some cd78 := by kernel_rfl
theorem in78 {args : List Value} {H : AH} {R : Value → AH → Prop} (hl : args.length = 1) (h : ∀ (Q : Exit → Sl → AH → Prop), (∀ e s H, endA Try.prog [ResultVar.tmp 2] R e s H → Q e s H) → wpC Try.prog cd78 Q (enterA args) H) : ACalls Try.prog 78 args H R :=
  ACalls.intro (by kernel_rfl) Try.func78 rfl (by kernel_rfl) sl78 hl (of_decide_eq_true (by kernel_rfl)) (by kernel_rfl) h
end Go.Proofs.Ythhnpchjjbjabaa.Ai

namespace Go.Proofs.Ythhnpchjjbjabaa.Ai
open Go Go.RowKit
set_option linter.unusedVariables false
set_option linter.unusedSimpArgs false

theorem agP : isAggA Try.prog 1 = some false := by kernel_rfl
theorem csP : Try.prog.cellsOf 1 = 1 := by kernel_rfl
theorem alloc_slP (H : AH) : allocA Try.prog 32 H = some (.pointer (some ⟨H.length, 0, none⟩), H ++ [.cells [.slice none 0 0] 32 false]) := by kernel_rfl
theorem alloc_llP (H : AH) : allocA Try.prog 38 H = some (.pointer (some ⟨H.length, 0, none⟩), H ++ [.cells [.slice none 0 0] 38 false]) := by kernel_rfl
theorem alloc_fP (H : AH) : allocA Try.prog 1 H = some (.pointer (some ⟨H.length, 0, none⟩), H ++ [.cells [.nilFunc] 1 false]) := by kernel_rfl
theorem box_iP (H : AH) (k : Int) : boxA Try.prog 3 (.int .i64 k) H = some (.pointer (some ⟨H.length, 0, none⟩), H ++ [.cells [.int .i64 k] 3 false]) := by kernel_rfl
theorem mkf_4P (f : Fn) (p q r t : Option Addr) : makeFuncA f [] [.pointer p, .pointer q, .pointer r, .pointer t] = some (.func f #[] (List.toArray [.pointer p, .pointer q, .pointer r, .pointer t])) := rfl

/-- what stays in the walk -/
abbrev permFx (n : Nat) (pn pf pl po : Nat) : List (Nat × AObj) :=
  [(pn, .cells [.int .i64 (n : Int)] 3 false),
   (pf, .cells [.func (.func 126) #[] (List.toArray [.pointer (some ⟨pl, 0, none⟩), .pointer (some ⟨pn, 0, none⟩), .pointer (some ⟨po, 0, none⟩), .pointer (some ⟨pf, 0, none⟩)])] 1 false)]

set_option maxRecDepth 20000 in
set_option maxHeartbeats 4000000 in
theorem perm_c {HB : AH} (n : Nat) (hn8 : n ≤ 8) (pn pf pl po : Nat) :
    ∀ (f : Nat) (ed : List Int) (out : List (List Int)) (F : Nat → Prop) (H : AH), ed.length + f = n → out.length + n ^ f ≤ 1000000000 → IOut HB po out F H → LSt HB (permFx n pn pf pl po) pl F H ed →
      ACalls Try.prog 126 [.pointer (some ⟨pl, 0, none⟩), .pointer (some ⟨pn, 0, none⟩), .pointer (some ⟨po, 0, none⟩), .pointer (some ⟨pf, 0, none⟩)] H fun r H' =>
        ∃ F', IOut HB po (out ++ pmG n f ed) F' H' ∧ LSt HB (permFx n pn pf pl po) pl F' H' ed := by
  intro f
  have fn : ∀ {F H ed}, LSt HB (permFx n pn pf pl po) pl F H ed → cellA H pn 0 = some (.int .i64 (n : Int)) := fun h => cell_of (h.fix (pn, _) (.head _)).1 0
  induction f with
  | zero =>
    intro ed out F H hb hout hO hL
    rw [Nat.pow_zero] at hout
    refine in126 rfl ?_
    intro Q hQ
    obtain ⟨w, hw1, hw2, hw3, hw4⟩ := hL.row
    simp (maxSteps := 1000000) (disch := omega) only [cd126, hw1, hw2.len Try.underlying32, fn hL, S, S1, S2, S3, S4, S5, ST, eq_self, reduceIte, reduceCtorEq, Nat.reduceEqDiff, Nat.reduceAdd]
    refine brD.intro (fun g => ?_) (fun g => absurd (show (ed.length : Int) = n by omega) g)
    have hO1 := hO
    obtain ⟨o, us, hpo, _⟩ := hO1
    simp (maxSteps := 1000000) (disch := omega) only [g, cell_of hpo, hw1, S, S1, S2, S3, S4, S5, ST, eq_self, reduceIte, reduceCtorEq, Nat.reduceEqDiff, Nat.reduceAdd]
    refine CallH.by (Clone_c w ed H hw2 (by omega)) ?_
    rintro c C ⟨hc, pC⟩
    obtain ⟨w2, H3, H4, p0, p1, p2, p3, p4, F', hO4, hF4, hk4⟩ := hO.push hL.pre pC hc (by omega)
    have hww := p0.symm.trans (cell_of hpo 0)
    simp only [List.getElem?_cons_zero, Option.some.injEq, Value.slice.injEq] at hww
    obtain ⟨hww, _, _⟩ := hww
    subst hww
    simp (maxSteps := 1000000) (disch := omega) only [p1, p2, p3, p4, S, S1, S2, S3, S4, S5, ST, eq_self, reduceIte, reduceCtorEq, Nat.reduceEqDiff, Nat.reduceAdd]
    refine hQ _ _ _ ?_
    simp (maxSteps := 1000000) (disch := omega) only [S, S1, S2, S3, S4, S5, ST, eq_self, reduceIte, reduceCtorEq, Nat.reduceEqDiff, Nat.reduceAdd]
    exact ⟨F', hO4, hL.cb (fun o ho => (hO.live ho).2) hF4 hk4⟩
  | succ f ih =>
    intro ed out F H hb hout hO hL
    refine in126 rfl ?_
    intro Q hQ
    obtain ⟨w, hw1, hw2, hw3, hw4⟩ := hL.row
    simp (maxSteps := 1000000) (disch := omega) only [cd126, hw1, hw2.len Try.underlying32, fn hL, S, S1, S2, S3, S4, S5, ST, eq_self, reduceIte, reduceCtorEq, Nat.reduceEqDiff, Nat.reduceAdd]
    refine brD.intro (fun g => absurd g (by omega)) (fun g => ?_)
    simp (maxSteps := 1000000) (disch := omega) only [g, fn hL, S, S1, S2, S3, S4, S5, ST, eq_self, reduceIte, reduceCtorEq, Nat.reduceEqDiff, Nat.reduceAdd]
    have eM : pmG n (f + 1) ed = pmT (pmG n f) ed n 0 := rfl
    rw [eM] at hQ
    rw [Nat.pow_succ, Nat.mul_comm] at hout
    refine LoopH.by (fun m s H' => ∃ (c : Nat) (out' : List (List Int)) (F' : Nat → Prop), m + c = n ∧ s 0 = .pointer (some ⟨pl, 0, none⟩) ∧ s 1 = .pointer (some ⟨pn, 0, none⟩) ∧ s 2 = .pointer (some ⟨po, 0, none⟩) ∧ s 3 = .pointer (some ⟨pf, 0, none⟩) ∧ s 14 = .int .i64 (n : Int) ∧ s 15 = .int .i64 ((c : Nat) : Int) ∧ out'.length + m * n ^ f ≤ 1000000000 ∧ out' ++ pmT (pmG n f) ed m c = out ++ pmT (pmG n f) ed n 0 ∧ IOut HB po out' F' H' ∧ LSt HB (permFx n pn pf pl po) pl F' H' ed) n ?_ ?_
    · exact ⟨0, out, F, by simp, rfl, rfl, rfl, rfl, rfl, rfl, hout, rfl, hO, hL⟩
    rintro m s H' ⟨c, out', F', hm, h0, h1, h2, h3, h14, h15, hcnt, hout', hO', hL'⟩
    simp (maxSteps := 1000000) (disch := omega) only [h0, h1, h2, h3, h14, h15, S, S1, S2, S3, S4, S5, ST, eq_self, reduceIte, reduceCtorEq, Nat.reduceEqDiff, Nat.reduceAdd]
    refine brD.intro (fun g2 => ?_) (fun g2 => ?_)
    rotate_left
    · have hm0 : m = 0 := by omega
      subst hm0
      simp (maxSteps := 1000000) (disch := omega) only [S, S1, S2, S3, S4, S5, ST, eq_self, reduceIte, reduceCtorEq, Nat.reduceEqDiff, Nat.reduceAdd]
      refine hQ _ _ _ ?_
      simp (maxSteps := 1000000) (disch := omega) only [S, S1, S2, S3, S4, S5, ST, eq_self, reduceIte, reduceCtorEq, Nat.reduceEqDiff, Nat.reduceAdd]
      rw [← hout']
      simp only [pmT, List.append_nil]
      exact ⟨F', hO', hL'⟩
    obtain ⟨i, rfl⟩ : ∃ i, m = i + 1 := ⟨m - 1, by omega⟩
    have hstep : pmT (pmG n f) ed (i + 1) c = (if (c : Int) ∈ ed then [] else pmG n f (ed ++ [(c : Int)])) ++ pmT (pmG n f) ed i (c + 1) := rfl
    have hP : (i + 1) * n ^ f = i * n ^ f + n ^ f := Nat.succ_mul _ _
    obtain ⟨w', hw1', hw2', hw3', hw4'⟩ := hL'.row
    simp (maxSteps := 1000000) (disch := omega) only [g2, h0, h1, h2, h3, h14, h15, hw1', S, S1, S2, S3, S4, S5, ST, eq_self, reduceIte, reduceCtorEq, Nat.reduceEqDiff, Nat.reduceAdd]
    refine CallH.by (Contains_c w' ed (c : Int) H' hw2' (by omega)) ?_
    rintro _ _ ⟨rfl, rfl⟩
    by_cases q : (c : Int) ∈ ed
    · rw [if_pos q, List.nil_append] at hstep
      rw [hstep] at hout'
      have f2 : out'.length + i * n ^ f ≤ 1000000000 := by omega
      simp (maxSteps := 1000000) (disch := omega) only [decide_eq_true q, h0, h1, h2, h3, h14, h15, wrap64, S, S1, S2, S3, S4, S5, ST, eq_self, reduceIte, reduceCtorEq, Nat.reduceEqDiff, Nat.reduceAdd]
      refine ⟨i, by omega, c + 1, out', F', ?_⟩
      (repeat' first | exact f2 | exact hout' | exact hO' | exact hL' | apply And.intro) <;> first | (simp only [Value.int.injEq, true_and]; omega) | omega | rfl | assumption | (simp; done) | (simp; omega)
    · rw [if_neg q] at hstep
      obtain ⟨w3, H2, H3, p1, p2, p3, hL3, hk3, hl3, _⟩ := hL'.push (fun o ho => (hO'.live ho).1) (by omega) (c : Int)
      have hO3 := hO'.keep hk3
      have hff : H3[pf]? = some (.cells [.func (.func 126) #[] (List.toArray [.pointer (some ⟨pl, 0, none⟩), .pointer (some ⟨pn, 0, none⟩), .pointer (some ⟨po, 0, none⟩), .pointer (some ⟨pf, 0, none⟩)])] 1 false) := (hL3.fix (pf, _) (.tail _ (.head _))).1
      simp (maxSteps := 1000000) (disch := omega) only [decide_eq_false q, h0, h1, h2, h3, h14, h15, p1, p2, p3, ld_one agP, cell_of hff, S, S1, S2, S3, S4, S5, ST, eq_self, reduceIte, reduceCtorEq, Nat.reduceEqDiff, Nat.reduceAdd]
      refine CallH.by (ih (ed ++ [(c : Int)]) out' F' H3 (by simp; omega) (by omega) hO3 hL3) ?_
      rintro _ H4 ⟨F4, hO4, hL4⟩
      obtain ⟨w4, c4, r1, r2, H5, r3, hL5, hk5, hl5⟩ := hL4.pop
      have hO5 := hO4.keep hk5
      have htl := pmG_len n f (ed ++ [(c : Int)])
      have f2 : (out' ++ pmG n f (ed ++ [(c : Int)])).length + i * n ^ f ≤ 1000000000 := by rw [List.length_append]; omega
      have f3 : (out' ++ pmG n f (ed ++ [(c : Int)])) ++ pmT (pmG n f) ed i (c + 1) = out ++ pmT (pmG n f) ed n 0 := by rw [← hout', hstep, List.append_assoc]
      have hcl : ((ed.length + 1 : Nat) : Int) - 1 = (ed.length : Int) := by omega
      simp (maxSteps := 1000000) (disch := omega) only [h0, h1, h2, h3, h14, h15, r1, hcl, r2, r3, wrap64, S, S1, S2, S3, S4, S5, ST, eq_self, reduceIte, reduceCtorEq, Nat.reduceEqDiff, Nat.reduceAdd]
      refine ⟨i, by omega, c + 1, out' ++ pmG n f (ed ++ [(c : Int)]), F4, ?_⟩
      (repeat' first | exact f2 | exact f3 | exact hO5 | exact hL5 | apply And.intro) <;> first | (simp only [Value.int.injEq, true_and]; omega) | omega | rfl | assumption | (simp; done) | (simp; omega)

set_option maxRecDepth 20000 in
set_option maxHeartbeats 2000000 in
theorem permutations_c (n : Nat) (H : AH) (hn : n ≤ 8) :
    ACalls Try.prog 78 [.int .i64 (n : Int)] H fun r H' => InL H.length H'.length 32 3 H' r (pms n) ∧ H <+: H' := by
  refine in78 rfl ?_
  intro Q hQ
  simp (maxSteps := 1000000) (disch := omega) only [cd78, box_iP, S, S1, S2, S3, S4, S5, ST, eq_self, reduceIte, reduceCtorEq, Nat.reduceEqDiff, Nat.reduceAdd]
  generalize hA : H ++ [AObj.cells [.int .i64 (n : Int)] 3 false] = A
  have pA : H <+: A := by rw [← hA]; exact List.prefix_append _ _
  have cA : A[H.length]? = some (.cells [.int .i64 (n : Int)] 3 false) := by rw [← hA]; exact at_new ..
  generalize hB : A ++ [AObj.cells [] 32 false] = B
  have pB : A <+: B := by rw [← hB]; exact List.prefix_append _ _
  have cB : B[A.length]? = some (.cells [] 32 false) := by rw [← hB]; exact at_new ..
  generalize hD : B ++ [AObj.cells [] 3 false] = D
  have pD : B <+: D := by rw [← hD]; exact List.prefix_append _ _
  have cD : D[B.length]? = some (.cells (ints []) 3 false) := by rw [← hD]; exact at_new ..
  simp (maxSteps := 1000000) (disch := omega) only [alloc_llP, alloc_slP, S, S1, S2, S3, S4, S5, ST, eq_self, reduceIte, reduceCtorEq, Nat.reduceEqDiff, Nat.reduceAdd]
  generalize hE1 : D ++ [AObj.cells [.slice none 0 0] 38 false] = E1
  have pE1 : D <+: E1 := by rw [← hE1]; exact List.prefix_append _ _
  have cE1 : E1[D.length]? = some (.cells [.slice none 0 0] 38 false) := by rw [← hE1]; exact at_new ..
  generalize hE2 : E1 ++ [AObj.cells [.slice none 0 0] 32 false] = E2
  have pE2 : E1 <+: E2 := by rw [← hE2]; exact List.prefix_append _ _
  have cE2 : E2[E1.length]? = some (.cells [.slice none 0 0] 32 false) := by rw [← hE2]; exact at_new ..
  have lA : A.length = H.length + 1 := by rw [← hA]; simp
  have lB : B.length = A.length + 1 := by rw [← hB]; simp
  have lD : D.length = B.length + 1 := by rw [← hD]; simp
  have lE1 : E1.length = D.length + 1 := by rw [← hE1]; simp
  have lE2 : E2.length = E1.length + 1 := by rw [← hE2]; simp
  have s1 := st_at (P := Try.prog) (t := 38) (i := 0) (y := .slice (some ⟨A.length, 0, none⟩) 0 0) cs38 (pre_at pE2 cE1) (by show 0 < 1; decide) rfl rfl
  rw [List.set_cons_zero] at s1
  generalize hE4 : E2.set D.length (.cells [.slice (some ⟨A.length, 0, none⟩) 0 0] 38 false) = E4 at *
  have at4 : ∀ {o y}, o ≠ D.length → E2[o]? = some y → E4[o]? = some y := fun ho hy => by rw [← hE4, List.getElem?_set_ne (fun e => ho e.symm)]; exact hy
  have l4 : E4.length = E2.length := by rw [← hE4]; simp
  have c4 : E4[D.length]? = some (.cells [.slice (some ⟨A.length, 0, none⟩) 0 0] 38 false) := by rw [← hE4, List.getElem?_set_self (by omega)]
  have s2 := st_at (P := Try.prog) (t := 32) (i := 0) (y := .slice (some ⟨B.length, 0, none⟩) 0 0) cs32 (at4 (by omega) cE2) (by show 0 < 1; decide) rfl rfl
  rw [List.set_cons_zero] at s2
  generalize hE6 : E4.set E1.length (.cells [.slice (some ⟨B.length, 0, none⟩) 0 0] 32 false) = E6 at *
  have at6 : ∀ {o y}, o ≠ E1.length → E4[o]? = some y → E6[o]? = some y := fun ho hy => by rw [← hE6, List.getElem?_set_ne (fun e => ho e.symm)]; exact hy
  have l6 : E6.length = E4.length := by rw [← hE6]; simp
  have c6 : E6[E1.length]? = some (.cells [.slice (some ⟨B.length, 0, none⟩) 0 0] 32 false) := by rw [← hE6, List.getElem?_set_self (by omega)]
  have old : ∀ {o y}, o < D.length → D[o]? = some y → E6[o]? = some y := fun ho hy => at6 (by omega) (at4 (by omega) (pre_at (pE1.trans pE2) hy))
  have st7 := st_at (P := Try.prog) (t := 1) (i := 0) (y := .func (.func 126) #[] (List.toArray [.pointer (some ⟨E1.length, 0, none⟩), .pointer (some ⟨H.length, 0, none⟩), .pointer (some ⟨D.length, 0, none⟩), .pointer (some ⟨E6.length, 0, none⟩)])) csP (at_new E6 (.cells [.nilFunc] 1 false)) (by show 0 < 1; decide) rfl rfl
  rw [set_new, List.set_cons_zero] at st7
  simp (maxSteps := 1000000) (disch := omega) only [s1, s2, alloc_fP, mkf_4P, st7, ld_one agP, cell_new, S, S1, S2, S3, S4, S5, ST, eq_self, reduceIte, reduceCtorEq, Nat.reduceEqDiff, Nat.reduceAdd]
  generalize hG : E6 ++ [AObj.cells [.func (.func 126) #[] (List.toArray [.pointer (some ⟨E1.length, 0, none⟩), .pointer (some ⟨H.length, 0, none⟩), .pointer (some ⟨D.length, 0, none⟩), .pointer (some ⟨E6.length, 0, none⟩)])] 1 false] = G
  have pG : E6 <+: G := by rw [← hG]; exact List.prefix_append _ _
  have cG : G[E6.length]? = some (.cells [.func (.func 126) #[] (List.toArray [.pointer (some ⟨E1.length, 0, none⟩), .pointer (some ⟨H.length, 0, none⟩), .pointer (some ⟨D.length, 0, none⟩), .pointer (some ⟨E6.length, 0, none⟩)])] 1 false) := by rw [← hG]; exact at_new ..
  have lG : G.length = E6.length + 1 := by rw [← hG]; simp
  have oldG : ∀ {o y}, o < D.length → D[o]? = some y → G[o]? = some y := fun ho hy => pre_at pG (old ho hy)
  have pHD := pA.trans (pB.trans pD)
  have pHG : H <+: G := prefix_of fun o y hy => oldG (by have := at_lt hy; omega) (pre_at pHD hy)
  have gA := oldG (by omega) (pre_at (pB.trans pD) cA)
  have gB := oldG (by omega) (pre_at pD cB)
  have gD := oldG (by omega) cD
  have g4 := pre_at pG (at6 (by omega) c4)
  have g6 := pre_at pG c6
  have nob : ∀ j, j ≠ A.length → ¬ Obs A.length [] [] j := by
    rintro j hj (e | ⟨i, hi, _⟩)
    · exact hj e
    · simp at hi
  have hO : IOut H D.length [] (fun j => j = D.length ∨ Obs A.length [] [] j) G :=
    ⟨A.length, [], g4, ⟨by omega, by omega, gB, Nat.le_refl _, fun i hi => absurd hi (by simp), fun i j _ hi _ => absurd hi (by simp)⟩, by omega, nob _ (by omega), rfl⟩
  have nF : ∀ {j}, j ≠ D.length → j ≠ A.length → ¬ ((fun j => j = D.length ∨ Obs A.length [] [] j) j) := fun h1 h2 h => h.elim h1 (nob _ h2)
  have hL : LSt H (permFx n H.length E6.length E1.length D.length) E1.length (fun j => j = D.length ∨ Obs A.length [] [] j) G [] := by
    refine ⟨?_, ⟨B.length, [], g6, gD, rfl, nF (by omega) (by omega), by omega, ?_, by omega⟩, nF (by omega) (by omega), by omega, pHG⟩
    · intro q hq
      simp only [List.mem_cons, List.not_mem_nil, or_false] at hq
      rcases hq with rfl | rfl
      · exact ⟨gA, nF (by show H.length ≠ _; omega) (by show H.length ≠ _; omega), by show H.length ≠ _; omega⟩
      · exact ⟨cG, nF (by show E6.length ≠ _; omega) (by show E6.length ≠ _; omega), by show E6.length ≠ _; omega⟩
    · intro q hq
      simp only [List.mem_cons, List.not_mem_nil, or_false] at hq
      rcases hq with rfl | rfl
      · show H.length ≠ _; omega
      · show E6.length ≠ _; omega
  have hpw : n ^ n ≤ 8 ^ 8 := Nat.le_trans (Nat.pow_le_pow_left hn n) (Nat.pow_le_pow_right (by decide) hn)
  refine CallH.by (perm_c n hn H.length E6.length E1.length D.length n [] [] _ G (by simp) (by simp; omega) hO hL) ?_
  rintro _ H' ⟨F', hO', hL'⟩
  obtain ⟨o, us, h1, h2, _⟩ := hO'
  simp (maxSteps := 1000000) (disch := omega) only [cell_of h1, S, S1, S2, S3, S4, S5, ST, eq_self, reduceIte, reduceCtorEq, Nat.reduceEqDiff, Nat.reduceAdd]
  refine hQ _ _ _ ?_
  simp (maxSteps := 1000000) (disch := omega) only [S, S1, S2, S3, S4, S5, ST, eq_self, reduceIte, reduceCtorEq, Nat.reduceEqDiff, Nat.reduceAdd]
  exact ⟨h2.inl, hL'.pre⟩
end Go.Proofs.Ythhnpchjjbjabaa.Ai
