/- LargestMatching, both sides. -/
import Derived.Test.YtahakecifgjcnaaMatW
import Derived.Test.YtahakecifgjcnaaClone
import Derived.Test.YtahakecifgjcnaaExt
import Derived.Test.YtahakecifgjcnaaProg
import Derived.Test.YtahakecifgjcnaaAiM2
import Derived.KernelRfl
/- Slim code of this translation. By the kernel. -/
namespace Go.Proofs.Ytahakecifgjcnaa.Ai
open Go

/- loop.example/g01128/impl.LargestMatching$1 -/
def ords95 : List (Nat × List (Nat × Bool)) := []
def cd95 : Cd := (.seq (.reg [⟨⟨some 3, Op.assign (Operand.const (Value.bool false)), none⟩, []⟩]) (.seq (.seq (.reg [⟨⟨some 4, Op.move (Operand.tmp 0), none⟩, []⟩,
  ⟨⟨some 5, Op.call { callee := (Callee.builtin Builtin.len), args := #[(Operand.tmp 4)], argTypes := #[22] }, none⟩, []⟩,
  ⟨⟨some 6, Op.load 22 (Operand.tmp 1), none⟩, []⟩,
  ⟨⟨some 7, Op.call { callee := (Callee.builtin Builtin.len), args := #[(Operand.tmp 6)], argTypes := #[22] }, none⟩, []⟩,
  ⟨⟨some 8, Op.binOp BinOp.gtr 3 (Operand.tmp 5) (Operand.tmp 7) 3, none⟩, []⟩]) (.cond (Operand.tmp 8) (.reg [⟨⟨some 9, Op.move (Operand.tmp 0), none⟩, []⟩,
  ⟨⟨some 10, Op.call { callee := (Callee.value (Operand.func 62)), args := #[(Operand.tmp 9)], argTypes := #[22] }, none⟩, []⟩,
  ⟨⟨none, Op.store 22 (Operand.tmp 1) (Operand.tmp 10), none⟩, []⟩]) .skip)) (.seq (.reg [⟨⟨some 3, Op.assign (Operand.const (Value.bool true)), none⟩, []⟩]) .ret)))
theorem sl95 : slim Try.f95.ntmps ords95 (Try.f95.body.getD .skip) = some cd95 := by kernel_rfl
theorem in95 {args : List Value} {H : AH} {R : Value → AH → Prop} (hl : args.length = 2) (h : ∀ (Q : Exit → Sl → AH → Prop), (∀ e s H, endA Try.prog [ResultVar.tmp 3] R e s H → Q e s H) → wpC Try.prog cd95 Q (enterA args) H) : ACalls Try.prog 95 args H R :=
  ACalls.intro (by kernel_rfl) Try.func95 rfl (by kernel_rfl) sl95 hl (of_decide_eq_true (by kernel_rfl)) (by kernel_rfl) h

/- loop.example/g01128/impl.LargestMatching -/
def ords42 : List (Nat × List (Nat × Bool)) := []
def cd42 : Cd := (.seq (.reg [⟨⟨some 1, Op.box 41 (Operand.tmp 0), none⟩, []⟩,
  ⟨⟨some 2, Op.assign (Operand.const (Value.slice none 0 0)), none⟩, []⟩,
  ⟨⟨some 3, Op.assign (Operand.const (Value.bool false)), none⟩, []⟩]) (.seq (.seq (.reg [⟨⟨some 5, Op.load 41 (Operand.tmp 1), none⟩, []⟩,
  ⟨⟨some 6, Op.call { callee := (Callee.value (Operand.func 80)), args := #[(Operand.tmp 5)], argTypes := #[41] }, none⟩, []⟩,
  ⟨⟨some 7, Op.unOp UnOp.not 4 (Operand.tmp 6), none⟩, []⟩]) (.cond (Operand.tmp 7) (.seq (.reg [⟨⟨some 2, Op.assign (Operand.const (Value.slice none 0 0)), none⟩, []⟩,
  ⟨⟨some 3, Op.assign (Operand.const (Value.bool false)), none⟩, []⟩]) .ret) .skip)) (.seq (.reg [⟨⟨some 8, Op.buildSlice 22 0 #[], none⟩, []⟩,
  ⟨⟨some 4, Op.alloc 22, none⟩, []⟩,
  ⟨⟨none, Op.store 22 (Operand.tmp 4) (Operand.tmp 8), none⟩, []⟩]) (.seq (.reg [⟨⟨some 9, Op.load 41 (Operand.tmp 1), none⟩, []⟩,
  ⟨⟨some 10, Op.makeFunc (Fn.func 95) #[] #[(Operand.tmp 4)], none⟩, []⟩,
  ⟨⟨some 11, Op.call { callee := (Callee.value (Operand.func 94)), args := #[(Operand.tmp 9), (Operand.tmp 10)], argTypes := #[41, 65] }, none⟩, []⟩]) (.seq (.reg [⟨⟨some 12, Op.load 22 (Operand.tmp 4), none⟩, []⟩,
  ⟨⟨some 2, Op.assign (Operand.tmp 12), none⟩, []⟩,
  ⟨⟨some 3, Op.assign (Operand.const (Value.bool true)), none⟩, []⟩]) .ret)))))
theorem sl42 : slim Try.f42.ntmps ords42 (Try.f42.body.getD .skip) = some cd42 := by kernel_rfl
theorem in42 {args : List Value} {H : AH} {R : Value → AH → Prop} (hl : args.length = 1) (h : ∀ (Q : Exit → Sl → AH → Prop), (∀ e s H, endA Try.prog [ResultVar.tmp 2, ResultVar.tmp 3] R e s H → Q e s H) → wpC Try.prog cd42 Q (enterA args) H) : ACalls Try.prog 42 args H R :=
  ACalls.intro (by kernel_rfl) Try.func42 rfl (by kernel_rfl) sl42 hl (of_decide_eq_true (by kernel_rfl)) (by kernel_rfl) h

/- loop.example/g01128/spec.LargestMatching -/
def ords41 : List (Nat × List (Nat × Bool)) := []
def cd41 : Cd := (.seq (.reg [⟨⟨some 1, Op.box 41 (Operand.tmp 0), none⟩, []⟩,
  ⟨⟨some 2, Op.assign (Operand.const (Value.slice none 0 0)), none⟩, []⟩,
  ⟨⟨some 3, Op.assign (Operand.const (Value.bool false)), none⟩, []⟩]) (.seq (.seq (.reg [⟨⟨some 5, Op.load 41 (Operand.tmp 1), none⟩, []⟩,
  ⟨⟨some 6, Op.call { callee := (Callee.value (Operand.func 78)), args := #[(Operand.tmp 5)], argTypes := #[41] }, none⟩, []⟩,
  ⟨⟨some 7, Op.unOp UnOp.not 4 (Operand.tmp 6), none⟩, []⟩]) (.cond (Operand.tmp 7) (.seq (.reg [⟨⟨some 8, Op.buildSlice 22 0 #[], none⟩, []⟩,
  ⟨⟨some 2, Op.assign (Operand.tmp 8), none⟩, []⟩,
  ⟨⟨some 3, Op.assign (Operand.const (Value.bool false)), none⟩, []⟩]) .ret) .skip)) (.seq (.reg [⟨⟨some 9, Op.fieldAddr 41 (Operand.tmp 1) 0, none⟩, []⟩,
  ⟨⟨some 10, Op.load 3 (Operand.tmp 9), none⟩, []⟩,
  ⟨⟨some 11, Op.binOp BinOp.quo 3 (Operand.tmp 10) (Operand.const (Value.int IntKind.i64 2)) 3, none⟩, []⟩,
  ⟨⟨some 4, Op.assign (Operand.tmp 11), none⟩, []⟩]) (.seq (.block 0 (.loop (.seq (.seq (.reg [⟨⟨some 12, Op.load 41 (Operand.tmp 1), none⟩, []⟩,
  ⟨⟨some 13, Op.buildSlice 22 0 #[], none⟩, []⟩,
  ⟨⟨some 14, Op.move (Operand.tmp 4), none⟩, []⟩,
  ⟨⟨some 15, Op.call { callee := (Callee.value (Operand.func 93)), args := #[(Operand.tmp 12), (Operand.tmp 13), (Operand.tmp 14)], argTypes := #[41, 22, 3] }, none⟩, []⟩,
  ⟨⟨some 16, Op.call { callee := (Callee.builtin Builtin.len), args := #[(Operand.tmp 15)], argTypes := #[47] }, none⟩, []⟩,
  ⟨⟨some 17, Op.binOp BinOp.eql 3 (Operand.tmp 16) (Operand.const (Value.int IntKind.i64 0)) 3, none⟩, []⟩]) (.cond (Operand.tmp 17) .skip (.exit 0))) (.block 1 (.reg [⟨⟨some 18, Op.move (Operand.tmp 4), none⟩, []⟩,
  ⟨⟨some 19, Op.binOp BinOp.sub 3 (Operand.tmp 18) (Operand.const (Value.int IntKind.i64 1)) 3, none⟩, []⟩,
  ⟨⟨some 4, Op.assign (Operand.tmp 19), none⟩, []⟩]))))) (.seq (.reg [⟨⟨some 20, Op.load 41 (Operand.tmp 1), none⟩, []⟩,
  ⟨⟨some 21, Op.buildSlice 22 0 #[], none⟩, []⟩,
  ⟨⟨some 22, Op.move (Operand.tmp 4), none⟩, []⟩,
  ⟨⟨some 23, Op.call { callee := (Callee.value (Operand.func 93)), args := #[(Operand.tmp 20), (Operand.tmp 21), (Operand.tmp 22)], argTypes := #[41, 22, 3] }, none⟩, []⟩,
  ⟨⟨some 24, Op.indexAddr 47 (Operand.tmp 23) (Operand.const (Value.int IntKind.i64 0)), none⟩, []⟩,
  ⟨⟨some 25, Op.load 22 (Operand.tmp 24), none⟩, []⟩,
  ⟨⟨some 2, Op.assign (Operand.tmp 25), none⟩, []⟩,
  ⟨⟨some 3, Op.assign (Operand.const (Value.bool true)), none⟩, []⟩]) .ret)))))
theorem sl41 : slim Try.f41.ntmps ords41 (Try.f41.body.getD .skip) = some cd41 := by kernel_rfl
theorem in41 {args : List Value} {H : AH} {R : Value → AH → Prop} (hl : args.length = 1) (h : ∀ (Q : Exit → Sl → AH → Prop), (∀ e s H, endA Try.prog [ResultVar.tmp 2, ResultVar.tmp 3] R e s H → Q e s H) → wpC Try.prog cd41 Q (enterA args) H) : ACalls Try.prog 41 args H R :=
  ACalls.intro (by kernel_rfl) Try.func41 rfl (by kernel_rfl) sl41 hl (of_decide_eq_true (by kernel_rfl)) (by kernel_rfl) h
end Go.Proofs.Ytahakecifgjcnaa.Ai

namespace Go.Proofs.Ytahakecifgjcnaa.Ai
open Go Go.RowKit
set_option linter.unusedVariables false
set_option linter.unusedSimpArgs false

/-- the best one so far, in memory -/
def IBest (HB : AH) (pb : Nat) (s : List Int) (F : Nat → Prop) (H : AH) : Prop :=
  ∃ u, H[pb]? = some (.cells [u] 22 false) ∧ HB.length ≤ pb ∧ Own 3 HB H u s ∧ (u = .slice none 0 0 ∨ rowO u ≠ pb) ∧ F = fun o => o = pb ∨ (u ≠ .slice none 0 0 ∧ o = rowO u)
theorem Own.keepO {e : TypeId} {H0 H H' : AH} {v : Value} {xs : List Int} (h : Own e H0 H v xs) (hh : v ≠ .slice none 0 0 → ∀ y, H[rowO v]? = some y → H'[rowO v]? = some y) : Own e H0 H' v xs := by
  rcases h with h | ⟨o, h1, h2, h3⟩
  · exact .inl h
  · subst h1; exact .inr ⟨o, rfl, h2, hh (by intro e; cases e) _ h3⟩

set_option maxRecDepth 20000 in
theorem best_ok (HB : AH) (pb : Nat) : CbOk HB 95 [.pointer (some ⟨pb, 0, none⟩)] (IBest HB pb) (fun b x => (bestOf b x, true)) := by
  refine ⟨?_, ?_, ?_⟩
  · rintro s F H o ⟨u, h1, h2, h3, h4, rfl⟩ hF
    have hF' : o = pb ∨ (u ≠ .slice none 0 0 ∧ o = rowO u) := hF
    rcases hF' with rfl | ⟨hu, rfl⟩
    · exact ⟨at_lt h1, h2⟩
    · rcases h3 with h | ⟨o, q, ho, hc⟩
      · exact absurd h.1 hu
      · rw [q]; exact ⟨at_lt hc, ho⟩
  · rintro s F H H' ⟨u, h1, h2, h3, h4, rfl⟩ hk
    exact ⟨u, hk _ _ (.inl rfl) h1, h2, h3.keepO fun hu y hy => hk _ _ (.inr ⟨hu, rfl⟩) hy, h4, rfl⟩
  · rintro s F H w xs ⟨u, h1, h2, h3, h4, rfl⟩ hw hwF hl hp
    refine in95 rfl ?_
    intro Q hQ
    simp (maxSteps := 1000000) (disch := omega) only [cd95, hw.len Try.underlying22, cell_of h1, h3.row.len Try.underlying22, S, S1, S2, S3, S4, ST, eq_self, ne_eq, not_true_eq_false, not_false_eq_true, and_self, true_and, and_true, reduceIte, reduceCtorEq, Nat.reduceEqDiff, Nat.reduceAdd, Nat.zero_add, Nat.add_zero, Option.map_none, Option.map_some, List.map_cons, List.map_nil, List.append_nil, List.cons_append, List.nil_append, List.getElem?_cons_zero, List.getElem?_cons_succ, List.getD_cons_zero, List.getD_cons_succ, List.getD_nil, Bool.not_true, Bool.not_false, decide_true, decide_false]
    refine brD.intro (fun g => ?_) (fun g => ?_)
    · have hg : s.length < xs.length := by omega
      have hb : bestOf s xs = xs := by unfold bestOf; rw [if_pos hg]
      simp (maxSteps := 1000000) (disch := omega) only [S, S1, S2, S3, S4, ST, eq_self, ne_eq, not_true_eq_false, not_false_eq_true, and_self, true_and, and_true, reduceIte, reduceCtorEq, Nat.reduceEqDiff, Nat.reduceAdd, Nat.zero_add, Nat.add_zero, Option.map_none, Option.map_some, List.map_cons, List.map_nil, List.append_nil, List.cons_append, List.nil_append, List.getElem?_cons_zero, List.getElem?_cons_succ, List.getD_cons_zero, List.getD_cons_succ, List.getD_nil, Bool.not_true, Bool.not_false, decide_true, decide_false]
      refine CallH.by (Clone_c w xs H hw (by omega)) ?_
      rintro c C ⟨hcl, pC⟩
      rcases hcl with ⟨_, h0⟩ | ⟨oc, rfl, hoc, hcc⟩
      · rw [h0] at hg; simp at hg
      have c1 := pre_at pC h1
      have hst := st_at (P := Try.prog) (t := 22) (i := 0) (y := .slice (some ⟨oc, 0, none⟩) xs.length xs.length) cs22 c1 (by show 0 < 1; decide) rfl rfl
      simp (maxSteps := 1000000) (disch := omega) only [hst, S, S1, S2, S3, S4, ST, eq_self, ne_eq, not_true_eq_false, not_false_eq_true, and_self, true_and, and_true, reduceIte, reduceCtorEq, Nat.reduceEqDiff, Nat.reduceAdd, Nat.zero_add, Nat.add_zero, Option.map_none, Option.map_some, List.map_cons, List.map_nil, List.append_nil, List.cons_append, List.nil_append, List.getElem?_cons_zero, List.getElem?_cons_succ, List.getD_cons_zero, List.getD_cons_succ, List.getD_nil, Bool.not_true, Bool.not_false, decide_true, decide_false]
      refine hQ _ _ _ ?_
      simp (maxSteps := 1000000) (disch := omega) only [hb, S, S1, S2, S3, S4, ST, eq_self, ne_eq, not_true_eq_false, not_false_eq_true, and_self, true_and, and_true, reduceIte, reduceCtorEq, Nat.reduceEqDiff, Nat.reduceAdd, Nat.zero_add, Nat.add_zero, Option.map_none, Option.map_some, List.map_cons, List.map_nil, List.append_nil, List.cons_append, List.nil_append, List.getElem?_cons_zero, List.getElem?_cons_succ, List.getD_cons_zero, List.getD_cons_succ, List.getD_nil, Bool.not_true, Bool.not_false, decide_true, decide_false]
      have l1 := at_lt h1
      refine ⟨⟨fun o => o = pb ∨ o = oc, ⟨.slice (some ⟨oc, 0, none⟩) xs.length xs.length, ?_, h2, .inr ⟨oc, rfl, ?_, ?_⟩, .inr (by show oc ≠ pb; omega), ?_⟩, ?_⟩, ?_⟩
      · rw [List.getElem?_set_self (by have := pC.length_le; omega)]; rfl
      · have := hp.length_le; omega
      · rw [List.getElem?_set_ne (by omega)]; exact hcc
      · funext o
        apply propext
        constructor
        · rintro (h | h)
          · exact .inl h
          · exact .inr ⟨(by intro e; cases e), h⟩
        · rintro (h | ⟨_, h⟩)
          · exact .inl h
          · exact .inr h
      · rintro o (h | h)
        · exact .inl (.inl h)
        · exact .inr (by omega)
      · intro o y ho hy
        rw [List.getElem?_set_ne (fun e => ho (.inl e.symm))]
        exact pre_at pC hy
    · simp (maxSteps := 1000000) (disch := omega) only [S, S1, S2, S3, S4, ST, eq_self, ne_eq, not_true_eq_false, not_false_eq_true, and_self, true_and, and_true, reduceIte, reduceCtorEq, Nat.reduceEqDiff, Nat.reduceAdd, Nat.zero_add, Nat.add_zero, Option.map_none, Option.map_some, List.map_cons, List.map_nil, List.append_nil, List.cons_append, List.nil_append, List.getElem?_cons_zero, List.getElem?_cons_succ, List.getD_cons_zero, List.getD_cons_succ, List.getD_nil, Bool.not_true, Bool.not_false, decide_true, decide_false]
      refine hQ _ _ _ ?_
      have hb : bestOf s xs = s := by unfold bestOf; rw [if_neg (by omega)]
      simp (maxSteps := 1000000) (disch := omega) only [hb, S, S1, S2, S3, S4, ST, eq_self, ne_eq, not_true_eq_false, not_false_eq_true, and_self, true_and, and_true, reduceIte, reduceCtorEq, Nat.reduceEqDiff, Nat.reduceAdd, Nat.zero_add, Nat.add_zero, Option.map_none, Option.map_some, List.map_cons, List.map_nil, List.append_nil, List.cons_append, List.nil_append, List.getElem?_cons_zero, List.getElem?_cons_succ, List.getD_cons_zero, List.getD_cons_succ, List.getD_nil, Bool.not_true, Bool.not_false, decide_true, decide_false]
      exact ⟨⟨_, ⟨u, h1, h2, h3, h4, rfl⟩, fun o ho => .inl ho⟩, fun o y _ hy => hy⟩

set_option maxRecDepth 20000 in
set_option maxHeartbeats 1000000 in
theorem LargeI_c (n : Int) (v : Value) (es : List (Int × Int)) (H : AH) (hr : RowP 66 H v es) (hlen : es.length ≤ 1048576) (hes : ∀ y ∈ es, I64 y.1 ∧ I64 y.2) (hn : I64 n) :
    ACalls Try.prog 42 [.agg (List.toArray [.int .i64 n, v])] H fun r H' => ∃ g, r = .tuple (List.toArray [g, .bool (decide (Grd n es))]) ∧ Mine 3 H H' g (if Grd n es then mbest es else []) ∧ H <+: H' := by
  refine in42 rfl ?_
  intro Q hQ
  simp (maxSteps := 1000000) (disch := omega) only [cd42, hr.boxG, S, S1, S2, S3, S4, ST, eq_self, ne_eq, not_true_eq_false, not_false_eq_true, and_self, true_and, and_true, reduceIte, reduceCtorEq, Nat.reduceEqDiff, Nat.reduceAdd, Nat.zero_add, Nat.add_zero, Option.map_none, Option.map_some, List.map_cons, List.map_nil, List.append_nil, List.cons_append, List.nil_append, List.getElem?_cons_zero, List.getElem?_cons_succ, List.getD_cons_zero, List.getD_cons_succ, List.getD_nil, Bool.not_true, Bool.not_false, decide_true, decide_false]
  generalize hA : H ++ [AObj.cells [.int .i64 n, v] 41 false] = A
  have pA : H <+: A := by rw [← hA]; exact List.prefix_append _ _
  have cA : A[H.length]? = some (.cells [.int .i64 n, v] 41 false) := by rw [← hA]; exact at_new ..
  have rA := hr.pre pA
  simp (maxSteps := 1000000) (disch := omega) only [ld_agg ag41 cs41 cA, S, S1, S2, S3, S4, ST, eq_self, ne_eq, not_true_eq_false, not_false_eq_true, and_self, true_and, and_true, reduceIte, reduceCtorEq, Nat.reduceEqDiff, Nat.reduceAdd, Nat.zero_add, Nat.add_zero, Option.map_none, Option.map_some, List.map_cons, List.map_nil, List.append_nil, List.cons_append, List.nil_append, List.getElem?_cons_zero, List.getElem?_cons_succ, List.getD_cons_zero, List.getD_cons_succ, List.getD_nil, Bool.not_true, Bool.not_false, decide_true, decide_false]
  refine CallH.by (IsGraph_c n v es A rA (by omega)) ?_
  rintro _ B ⟨rfl, pB⟩
  have cB := pre_at pB cA
  have pHB := pA.trans pB
  simp (maxSteps := 1000000) (disch := omega) only [S, S1, S2, S3, S4, ST, eq_self, ne_eq, not_true_eq_false, not_false_eq_true, and_self, true_and, and_true, reduceIte, reduceCtorEq, Nat.reduceEqDiff, Nat.reduceAdd, Nat.zero_add, Nat.add_zero, Option.map_none, Option.map_some, List.map_cons, List.map_nil, List.append_nil, List.cons_append, List.nil_append, List.getElem?_cons_zero, List.getElem?_cons_succ, List.getD_cons_zero, List.getD_cons_succ, List.getD_nil, Bool.not_true, Bool.not_false, decide_true, decide_false]
  refine brD.intro (fun e => ?_) (fun e => ?_)
  · simp (maxSteps := 1000000) (disch := omega) only [e, alloc_sl, S, S1, S2, S3, S4, ST, eq_self, ne_eq, not_true_eq_false, not_false_eq_true, and_self, true_and, and_true, reduceIte, reduceCtorEq, Nat.reduceEqDiff, Nat.reduceAdd, Nat.zero_add, Nat.add_zero, Option.map_none, Option.map_some, List.map_cons, List.map_nil, List.append_nil, List.cons_append, List.nil_append, List.getElem?_cons_zero, List.getElem?_cons_succ, List.getD_cons_zero, List.getD_cons_succ, List.getD_nil, Bool.not_true, Bool.not_false, decide_true, decide_false]
    generalize hZ : B ++ [AObj.cells [] 3 false] = Z
    have pZ : B <+: Z := by rw [← hZ]; exact List.prefix_append _ _
    have cZ : Z[B.length]? = some (.cells (ints []) 3 false) := by rw [← hZ]; exact at_new ..
    have st1 := st_at (P := Try.prog) (t := 22) (i := 0) (y := .slice (some ⟨B.length, 0, none⟩) 0 0) cs22 (at_new Z (.cells [.slice none 0 0] 22 false)) (by show 0 < 1; decide) rfl rfl
    rw [set_new, List.set_cons_zero] at st1
    have cZB := pre_at pZ cB
    simp (maxSteps := 1000000) (disch := omega) only [st1, mkf_1, ld_agg ag41 cs41 (at_app cZB _), S, S1, S2, S3, S4, ST, eq_self, ne_eq, not_true_eq_false, not_false_eq_true, and_self, true_and, and_true, reduceIte, reduceCtorEq, Nat.reduceEqDiff, Nat.reduceAdd, Nat.zero_add, Nat.add_zero, Option.map_none, Option.map_some, List.map_cons, List.map_nil, List.append_nil, List.cons_append, List.nil_append, List.getElem?_cons_zero, List.getElem?_cons_succ, List.getD_cons_zero, List.getD_cons_succ, List.getD_nil, Bool.not_true, Bool.not_false, decide_true, decide_false]
    generalize hE : Z ++ [AObj.cells [.slice (some ⟨B.length, 0, none⟩) 0 0] 22 false] = E
    have pE : Z <+: E := by rw [← hE]; exact List.prefix_append _ _
    have cE : E[Z.length]? = some (.cells [.slice (some ⟨B.length, 0, none⟩) 0 0] 22 false) := by rw [← hE]; exact at_new ..
    have lZ : Z.length = B.length + 1 := by rw [← hZ]; simp
    have lB := pHB.length_le
    have hI : IBest H Z.length [] (fun o => o = Z.length ∨ ((Value.slice (some ⟨B.length, 0, none⟩) 0 0) ≠ .slice none 0 0 ∧ o = B.length)) E :=
      ⟨_, cE, by omega, .inr ⟨B.length, rfl, lB, pre_at pE cZ⟩, .inr (by show B.length ≠ Z.length; omega), rfl⟩
    refine CallH.by (matchings_c (best_ok H Z.length) #[] v n es hr hlen e [] _ E hI (pHB.trans (pZ.trans pE))) ?_
    rintro _ H' ⟨hp', F', u, h1, h2, h3, h4, _⟩
    rw [sfold_best] at h3
    simp (maxSteps := 1000000) (disch := omega) only [cell_of h1, S, S1, S2, S3, S4, ST, eq_self, ne_eq, not_true_eq_false, not_false_eq_true, and_self, true_and, and_true, reduceIte, reduceCtorEq, Nat.reduceEqDiff, Nat.reduceAdd, Nat.zero_add, Nat.add_zero, Option.map_none, Option.map_some, List.map_cons, List.map_nil, List.append_nil, List.cons_append, List.nil_append, List.getElem?_cons_zero, List.getElem?_cons_succ, List.getD_cons_zero, List.getD_cons_succ, List.getD_nil, Bool.not_true, Bool.not_false, decide_true, decide_false]
    refine hQ _ _ _ ?_
    simp (maxSteps := 1000000) (disch := omega) only [h3.row.tup, S, S1, S2, S3, S4, ST, eq_self, ne_eq, not_true_eq_false, not_false_eq_true, and_self, true_and, and_true, reduceIte, reduceCtorEq, Nat.reduceEqDiff, Nat.reduceAdd, Nat.zero_add, Nat.add_zero, Option.map_none, Option.map_some, List.map_cons, List.map_nil, List.append_nil, List.cons_append, List.nil_append, List.getElem?_cons_zero, List.getElem?_cons_succ, List.getD_cons_zero, List.getD_cons_succ, List.getD_nil, Bool.not_true, Bool.not_false, decide_true, decide_false]
    exact ⟨u, by rw [decide_eq_true e], by rw [if_pos e]; exact h3.mine, hp'⟩
  · simp (maxSteps := 1000000) (disch := omega) only [e, S, S1, S2, S3, S4, ST, eq_self, ne_eq, not_true_eq_false, not_false_eq_true, and_self, true_and, and_true, reduceIte, reduceCtorEq, Nat.reduceEqDiff, Nat.reduceAdd, Nat.zero_add, Nat.add_zero, Option.map_none, Option.map_some, List.map_cons, List.map_nil, List.append_nil, List.cons_append, List.nil_append, List.getElem?_cons_zero, List.getElem?_cons_succ, List.getD_cons_zero, List.getD_cons_succ, List.getD_nil, Bool.not_true, Bool.not_false, decide_true, decide_false]
    refine hQ _ _ _ ?_
    simp (maxSteps := 1000000) (disch := omega) only [e, S, S1, S2, S3, S4, ST, eq_self, ne_eq, not_true_eq_false, not_false_eq_true, and_self, true_and, and_true, reduceIte, reduceCtorEq, Nat.reduceEqDiff, Nat.reduceAdd, Nat.zero_add, Nat.add_zero, Option.map_none, Option.map_some, List.map_cons, List.map_nil, List.append_nil, List.cons_append, List.nil_append, List.getElem?_cons_zero, List.getElem?_cons_succ, List.getD_cons_zero, List.getD_cons_succ, List.getD_nil, Bool.not_true, Bool.not_false, decide_true, decide_false]
    exact ⟨_, rfl, .inl ⟨rfl, rfl⟩, pHB⟩

set_option maxRecDepth 20000 in
set_option maxHeartbeats 2000000 in
theorem LargeS_c (n : Int) (v : Value) (es : List (Int × Int)) (H : AH) (hr : RowP 66 H v es) (hlen : es.length ≤ 1048576) (hes : ∀ y ∈ es, I64 y.1 ∧ I64 y.2) (hn : I64 n) :
    ACalls Try.prog 41 [.agg (List.toArray [.int .i64 n, v])] H fun r H' => ∃ g, r = .tuple (List.toArray [g, .bool (decide (Grd n es))]) ∧ Mine 3 H H' g (if Grd n es then mbest es else []) ∧ H <+: H' := by
  refine in41 rfl ?_
  intro Q hQ
  simp (maxSteps := 1000000) (disch := omega) only [cd41, hr.boxG, S, S1, S2, S3, S4, ST, eq_self, ne_eq, not_true_eq_false, not_false_eq_true, and_self, true_and, and_true, reduceIte, reduceCtorEq, Nat.reduceEqDiff, Nat.reduceAdd, Nat.zero_add, Nat.add_zero, Option.map_none, Option.map_some, List.map_cons, List.map_nil, List.append_nil, List.cons_append, List.nil_append, List.getElem?_cons_zero, List.getElem?_cons_succ, List.getD_cons_zero, List.getD_cons_succ, List.getD_nil, Bool.not_true, Bool.not_false, decide_true, decide_false]
  generalize hA : H ++ [AObj.cells [.int .i64 n, v] 41 false] = A
  have pA : H <+: A := by rw [← hA]; exact List.prefix_append _ _
  have cA : A[H.length]? = some (.cells [.int .i64 n, v] 41 false) := by rw [← hA]; exact at_new ..
  have rA := hr.pre pA
  simp (maxSteps := 1000000) (disch := omega) only [ld_agg ag41 cs41 cA, S, S1, S2, S3, S4, ST, eq_self, ne_eq, not_true_eq_false, not_false_eq_true, and_self, true_and, and_true, reduceIte, reduceCtorEq, Nat.reduceEqDiff, Nat.reduceAdd, Nat.zero_add, Nat.add_zero, Option.map_none, Option.map_some, List.map_cons, List.map_nil, List.append_nil, List.cons_append, List.nil_append, List.getElem?_cons_zero, List.getElem?_cons_succ, List.getD_cons_zero, List.getD_cons_succ, List.getD_nil, Bool.not_true, Bool.not_false, decide_true, decide_false]
  refine CallH.by (l2Good_c n v es A rA (by omega)) ?_
  rintro _ B ⟨rfl, pB⟩
  have cB := pre_at pB cA
  have pHB := pA.trans pB
  simp (maxSteps := 1000000) (disch := omega) only [S, S1, S2, S3, S4, ST, eq_self, ne_eq, not_true_eq_false, not_false_eq_true, and_self, true_and, and_true, reduceIte, reduceCtorEq, Nat.reduceEqDiff, Nat.reduceAdd, Nat.zero_add, Nat.add_zero, Option.map_none, Option.map_some, List.map_cons, List.map_nil, List.append_nil, List.cons_append, List.nil_append, List.getElem?_cons_zero, List.getElem?_cons_succ, List.getD_cons_zero, List.getD_cons_succ, List.getD_nil, Bool.not_true, Bool.not_false, decide_true, decide_false]
  refine brD.intro (fun e => ?_) (fun e => ?_)
  · have hnn := e.1
    have hl28 := grd_len e
    have hbl := mbest_len e
    have hq : IntKind.i64.wrap (n.tdiv 2) = ((n.toNat / 2 : Nat) : Int) := by
      rw [Int.tdiv_eq_ediv_of_nonneg hnn.1]
      rw [wrap64 (by omega) (by omega)]
      omega
    simp (maxSteps := 1000000) (disch := omega) only [e, cell_of cB, hq, S, S1, S2, S3, S4, ST, eq_self, ne_eq, not_true_eq_false, not_false_eq_true, and_self, true_and, and_true, reduceIte, reduceCtorEq, Nat.reduceEqDiff, Nat.reduceAdd, Nat.zero_add, Nat.add_zero, Option.map_none, Option.map_some, List.map_cons, List.map_nil, List.append_nil, List.cons_append, List.nil_append, List.getElem?_cons_zero, List.getElem?_cons_succ, List.getD_cons_zero, List.getD_cons_succ, List.getD_nil, Bool.not_true, Bool.not_false, decide_true, decide_false]
    refine LoopH.by (fun m s H' => s 1 = .pointer (some ⟨H.length, 0, none⟩) ∧ s 4 = .int .i64 ((m : Nat) : Int) ∧ (mbest es).length ≤ m ∧ m ≤ n.toNat / 2 ∧ B <+: H') (n.toNat / 2) ?_ ?_
    · exact ⟨rfl, rfl, by omega, Nat.le_refl _, List.prefix_refl _⟩
    · rintro m s H' ⟨h1, h4, hm1, hm2, hp⟩
      have ext : ∀ H'', B <+: H'' → ACalls Try.prog 93 [.agg (List.toArray [.int .i64 n, v]), .slice (some ⟨H''.length, 0, none⟩) 0 0, .int .i64 ((m : Nat) : Int)] (H'' ++ [.cells [] 3 false]) fun g G => InL H''.length G.length 22 3 G g (mext es es.length [] m) ∧ (mext es es.length [] m).length ≤ 2 ^ es.length ∧ H'' ++ [.cells [] 3 false] <+: G := by
        intro H'' hp''
        exact l8Extend_c v n es hl28 m (by omega) es.length [] (.slice (some ⟨H''.length, 0, none⟩) 0 0) H''.length (H'' ++ [.cells [] 3 false]) (hr.pre (pHB.trans (pre_app hp'' _))) (.inr ⟨H''.length, [], rfl, Nat.le_refl _, by simp, at_new .., rfl⟩) (by simp) (Nat.le_refl _) (MtU.zero _ _) (by simp) (Nat.zero_le _) (fun _ => rfl) (fun h => absurd h (by simp))
      have cH := pre_at hp cB
      have hpw : 2 ^ es.length ≤ 2 ^ 28 := Nat.pow_le_pow_right (by decide) hl28
      simp (maxSteps := 1000000) (disch := omega) only [h1, h4, ld_agg ag41 cs41 cH, S, S1, S2, S3, S4, ST, eq_self, ne_eq, not_true_eq_false, not_false_eq_true, and_self, true_and, and_true, reduceIte, reduceCtorEq, Nat.reduceEqDiff, Nat.reduceAdd, Nat.zero_add, Nat.add_zero, Option.map_none, Option.map_some, List.map_cons, List.map_nil, List.append_nil, List.cons_append, List.nil_append, List.getElem?_cons_zero, List.getElem?_cons_succ, List.getD_cons_zero, List.getD_cons_succ, List.getD_nil, Bool.not_true, Bool.not_false, decide_true, decide_false]
      refine CallH.by (ext H' hp) ?_
      rintro g G ⟨hg, hgl, pG⟩
      have hrow := hg.row
      obtain ⟨us, r1, r2, r3, r4⟩ := hrow
      have pBG := hp.trans ((List.prefix_append _ _).trans pG)
      have cG := pre_at pBG cB
      simp (maxSteps := 1000000) (disch := omega) only [h1, h4, r1.len Try.underlying47, S, S1, S2, S3, S4, ST, eq_self, ne_eq, not_true_eq_false, not_false_eq_true, and_self, true_and, and_true, reduceIte, reduceCtorEq, Nat.reduceEqDiff, Nat.reduceAdd, Nat.zero_add, Nat.add_zero, Option.map_none, Option.map_some, List.map_cons, List.map_nil, List.append_nil, List.cons_append, List.nil_append, List.getElem?_cons_zero, List.getElem?_cons_succ, List.getD_cons_zero, List.getD_cons_succ, List.getD_nil, Bool.not_true, Bool.not_false, decide_true, decide_false]
      refine brD.intro (fun q => ?_) (fun q => ?_)
      · have hnil : mext es es.length [] m = [] := List.eq_nil_of_length_eq_zero (by omega)
        have hne : (mbest es).length ≠ m := by
          intro h
          have := mbest_at es
          rw [h, hnil] at this
          simp at this
        simp (maxSteps := 1000000) (disch := omega) only [h1, h4, wrap64, S, S1, S2, S3, S4, ST, eq_self, ne_eq, not_true_eq_false, not_false_eq_true, and_self, true_and, and_true, reduceIte, reduceCtorEq, Nat.reduceEqDiff, Nat.reduceAdd, Nat.zero_add, Nat.add_zero, Option.map_none, Option.map_some, List.map_cons, List.map_nil, List.append_nil, List.cons_append, List.nil_append, List.getElem?_cons_zero, List.getElem?_cons_succ, List.getD_cons_zero, List.getD_cons_succ, List.getD_nil, Bool.not_true, Bool.not_false, decide_true, decide_false]
        refine ⟨m - 1, by omega, ?_⟩
        (repeat' first | exact pBG | apply And.intro) <;> first | (simp only [Value.int.injEq, true_and]; omega) | omega | rfl | assumption | (simp; done) | (simp; omega)
      · have hmm : m = (mbest es).length := by
          apply Decidable.byContradiction
          intro h
          have := mbest_most es m (by omega)
          rw [this] at r3
          apply q
          simp [r3]
        simp (maxSteps := 1000000) (disch := omega) only [h1, h4, ld_agg ag41 cs41 cG, S, S1, S2, S3, S4, ST, eq_self, ne_eq, not_true_eq_false, not_false_eq_true, and_self, true_and, and_true, reduceIte, reduceCtorEq, Nat.reduceEqDiff, Nat.reduceAdd, Nat.zero_add, Nat.add_zero, Option.map_none, Option.map_some, List.map_cons, List.map_nil, List.append_nil, List.cons_append, List.nil_append, List.getElem?_cons_zero, List.getElem?_cons_succ, List.getD_cons_zero, List.getD_cons_succ, List.getD_nil, Bool.not_true, Bool.not_false, decide_true, decide_false]
        refine CallH.by (ext G pBG) ?_
        rintro g2 G2 ⟨hg2, _, pG2⟩
        obtain ⟨us2, s1, s2, s3⟩ := hg2.parts
        have hat := mbest_at es
        rw [← hmm] at hat
        have hlen0 : 0 < (mext es es.length [] m).length := by
          cases hx : mext es es.length [] m with
          | nil => rw [hx] at hat; simp at hat
          | cons a l => simp
        have h00 : (mext es es.length [] m).getD 0 [] = mbest es := by
          cases hx : mext es es.length [] m with
          | nil => rw [hx] at hlen0; simp at hlen0
          | cons a l => rw [hx] at hat; simpa using hat
        have hc0 := s1.cell (j := 0) (by omega)
        rw [Nat.add_zero] at hc0
        have hI0 := s3 0 hlen0
        rw [h00] at hI0
        have hz0 : (0 : Int).toNat = 0 := rfl
        simp (maxSteps := 1000000) (disch := omega) only [s1.ix Try.underlying47 cs22, hz0, Nat.add_zero, hc0, S, S1, S2, S3, S4, ST, eq_self, ne_eq, not_true_eq_false, not_false_eq_true, and_self, true_and, and_true, reduceIte, reduceCtorEq, Nat.reduceEqDiff, Nat.reduceAdd, Nat.zero_add, Nat.add_zero, Option.map_none, Option.map_some, List.map_cons, List.map_nil, List.append_nil, List.cons_append, List.nil_append, List.getElem?_cons_zero, List.getElem?_cons_succ, List.getD_cons_zero, List.getD_cons_succ, List.getD_nil, Bool.not_true, Bool.not_false, decide_true, decide_false]
        refine hQ _ _ _ ?_
        simp (maxSteps := 1000000) (disch := omega) only [hI0.row.1.tup, S, S1, S2, S3, S4, ST, eq_self, ne_eq, not_true_eq_false, not_false_eq_true, and_self, true_and, and_true, reduceIte, reduceCtorEq, Nat.reduceEqDiff, Nat.reduceAdd, Nat.zero_add, Nat.add_zero, Option.map_none, Option.map_some, List.map_cons, List.map_nil, List.append_nil, List.cons_append, List.nil_append, List.getElem?_cons_zero, List.getElem?_cons_succ, List.getD_cons_zero, List.getD_cons_succ, List.getD_nil, Bool.not_true, Bool.not_false, decide_true, decide_false]
        have pHG := pHB.trans pBG
        refine ⟨_, by rw [decide_eq_true e], ?_, pHG.trans ((List.prefix_append _ _).trans pG2)⟩
        rw [if_pos e]
        exact hI0.mine.base pHG
  · simp (maxSteps := 1000000) (disch := omega) only [e, S, S1, S2, S3, S4, ST, eq_self, ne_eq, not_true_eq_false, not_false_eq_true, and_self, true_and, and_true, reduceIte, reduceCtorEq, Nat.reduceEqDiff, Nat.reduceAdd, Nat.zero_add, Nat.add_zero, Option.map_none, Option.map_some, List.map_cons, List.map_nil, List.append_nil, List.cons_append, List.nil_append, List.getElem?_cons_zero, List.getElem?_cons_succ, List.getD_cons_zero, List.getD_cons_succ, List.getD_nil, Bool.not_true, Bool.not_false, decide_true, decide_false]
    refine hQ _ _ _ ?_
    simp (maxSteps := 1000000) (disch := omega) only [e, S, S1, S2, S3, S4, ST, eq_self, ne_eq, not_true_eq_false, not_false_eq_true, and_self, true_and, and_true, reduceIte, reduceCtorEq, Nat.reduceEqDiff, Nat.reduceAdd, Nat.zero_add, Nat.add_zero, Option.map_none, Option.map_some, List.map_cons, List.map_nil, List.append_nil, List.cons_append, List.nil_append, List.getElem?_cons_zero, List.getElem?_cons_succ, List.getD_cons_zero, List.getD_cons_succ, List.getD_nil, Bool.not_true, Bool.not_false, decide_true, decide_false]
    exact ⟨_, rfl, Own.mine (.inr ⟨B.length, rfl, pHB.length_le, at_new ..⟩), pre_app pHB _⟩

theorem large_len {n : Int} (es : List (Int × Int)) : (if Grd n es then mbest es else []).length ≤ 1099511627776 := by
  split
  · rename_i h
    have := mbest_len h
    have := h.1
    omega
  · simp
end Go.Proofs.Ytahakecifgjcnaa.Ai
