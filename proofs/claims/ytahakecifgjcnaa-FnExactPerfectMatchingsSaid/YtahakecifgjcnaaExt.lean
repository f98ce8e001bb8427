/- All matchings of a size that begin with some edges (spec.l8Extend). -/
import Derived.Test.YtahakecifgjcnaaMatA
import Derived.Test.YtahakecifgjcnaaMatch
import Derived.Test.YtahakecifgjcnaaSwp
import Derived.Test.YtahakecifgjcnaaAppL
import Derived.Test.YtahakecifgjcnaaProg
import Derived.Test.YtahakecifgjcnaaAiM2
import Derived.KernelRfl
/- Slim code of this translation. By the kernel. -/
namespace Go.Proofs.Ytahakecifgjcnaa.Ai
open Go

/- loop.example/g01128/spec.l8Extend -/
def ords93 : List (Nat × List (Nat × Bool)) := []
def cd93 : Cd := (.seq (.reg [⟨⟨some 3, Op.box 41 (Operand.tmp 0), none⟩, []⟩,
  ⟨⟨some 6, Op.assign (Operand.const (Value.slice none 0 0)), none⟩, []⟩]) (.seq (.seq (.reg [⟨⟨some 11, Op.move (Operand.tmp 1), none⟩, []⟩,
  ⟨⟨some 12, Op.call { callee := (Callee.builtin Builtin.len), args := #[(Operand.tmp 11)], argTypes := #[22] }, none⟩, []⟩,
  ⟨⟨some 13, Op.move (Operand.tmp 2), none⟩, []⟩,
  ⟨⟨some 14, Op.binOp BinOp.eql 3 (Operand.tmp 12) (Operand.tmp 13) 3, none⟩, []⟩]) (.cond (Operand.tmp 14) (.seq (.reg [⟨⟨some 15, Op.move (Operand.tmp 1), none⟩, []⟩,
  ⟨⟨some 16, Op.buildSlice 47 1 #[(0, (Operand.tmp 15))], none⟩, []⟩,
  ⟨⟨some 6, Op.assign (Operand.tmp 16), none⟩, []⟩]) .ret) .skip)) (.seq (.reg [⟨⟨some 17, Op.buildSlice 47 0 #[], none⟩, []⟩,
  ⟨⟨some 7, Op.assign (Operand.const (Value.int IntKind.i64 0)), none⟩, []⟩,
  ⟨⟨some 8, Op.assign (Operand.tmp 17), none⟩, []⟩]) (.seq (.seq (.reg [⟨⟨some 18, Op.move (Operand.tmp 1), none⟩, []⟩,
  ⟨⟨some 19, Op.call { callee := (Callee.builtin Builtin.len), args := #[(Operand.tmp 18)], argTypes := #[22] }, none⟩, []⟩,
  ⟨⟨some 20, Op.binOp BinOp.gtr 3 (Operand.tmp 19) (Operand.const (Value.int IntKind.i64 0)) 3, none⟩, []⟩]) (.cond (Operand.tmp 20) (.reg [⟨⟨some 21, Op.move (Operand.tmp 1), none⟩, []⟩,
  ⟨⟨some 22, Op.move (Operand.tmp 1), none⟩, []⟩,
  ⟨⟨some 23, Op.call { callee := (Callee.builtin Builtin.len), args := #[(Operand.tmp 22)], argTypes := #[22] }, none⟩, []⟩,
  ⟨⟨some 24, Op.binOp BinOp.sub 3 (Operand.tmp 23) (Operand.const (Value.int IntKind.i64 1)) 3, none⟩, []⟩,
  ⟨⟨some 25, Op.indexAddr 22 (Operand.tmp 21) (Operand.tmp 24), none⟩, []⟩,
  ⟨⟨some 26, Op.load 3 (Operand.tmp 25), none⟩, []⟩,
  ⟨⟨some 27, Op.binOp BinOp.add 3 (Operand.tmp 26) (Operand.const (Value.int IntKind.i64 1)) 3, none⟩, []⟩,
  ⟨⟨some 7, Op.assign (Operand.tmp 27), none⟩, []⟩]) .skip)) (.seq (.seq (.reg [⟨⟨some 28, Op.move (Operand.tmp 7), none⟩, []⟩,
  ⟨⟨some 9, Op.assign (Operand.tmp 28), none⟩, []⟩]) (.block 0 (.loop (.seq (.seq (.reg [⟨⟨some 29, Op.move (Operand.tmp 9), none⟩, []⟩,
  ⟨⟨some 30, Op.fieldAddr 41 (Operand.tmp 3) 1, none⟩, []⟩,
  ⟨⟨some 31, Op.load 23 (Operand.tmp 30), none⟩, []⟩,
  ⟨⟨some 32, Op.call { callee := (Callee.builtin Builtin.len), args := #[(Operand.tmp 31)], argTypes := #[23] }, none⟩, []⟩,
  ⟨⟨some 33, Op.binOp BinOp.lss 3 (Operand.tmp 29) (Operand.tmp 32) 3, none⟩, []⟩]) (.cond (Operand.tmp 33) .skip (.exit 0))) (.seq (.block 1 (.seq (.reg [⟨⟨some 36, Op.move (Operand.tmp 1), none⟩, []⟩,
  ⟨⟨some 37, Op.call { callee := (Callee.value (Operand.func 58)), args := #[(Operand.tmp 36)], argTypes := #[22] }, none⟩, []⟩,
  ⟨⟨some 38, Op.move (Operand.tmp 9), none⟩, []⟩,
  ⟨⟨some 39, Op.buildSlice 22 1 #[(0, (Operand.tmp 38))], none⟩, []⟩,
  ⟨⟨some 40, Op.call { callee := (Callee.builtin Builtin.append), args := #[(Operand.tmp 37), (Operand.tmp 39)], argTypes := #[22, 22] }, none⟩, []⟩,
  ⟨⟨some 10, Op.assign (Operand.tmp 40), none⟩, []⟩]) (.seq (.reg [⟨⟨some 41, Op.load 41 (Operand.tmp 3), none⟩, []⟩,
  ⟨⟨some 42, Op.move (Operand.tmp 10), none⟩, []⟩,
  ⟨⟨some 43, Op.call { callee := (Callee.value (Operand.func 79)), args := #[(Operand.tmp 41), (Operand.tmp 42)], argTypes := #[41, 22] }, none⟩, []⟩]) (.cond (Operand.tmp 43) (.reg [⟨⟨some 44, Op.move (Operand.tmp 8), none⟩, []⟩,
  ⟨⟨some 45, Op.load 41 (Operand.tmp 3), none⟩, []⟩,
  ⟨⟨some 46, Op.move (Operand.tmp 10), none⟩, []⟩,
  ⟨⟨some 47, Op.move (Operand.tmp 2), none⟩, []⟩,
  ⟨⟨some 48, Op.call { callee := (Callee.value (Operand.func 93)), args := #[(Operand.tmp 45), (Operand.tmp 46), (Operand.tmp 47)], argTypes := #[41, 22, 3] }, none⟩, []⟩,
  ⟨⟨some 49, Op.call { callee := (Callee.builtin Builtin.append), args := #[(Operand.tmp 44), (Operand.tmp 48)], argTypes := #[47, 47] }, none⟩, []⟩,
  ⟨⟨some 8, Op.assign (Operand.tmp 49), none⟩, []⟩]) .skip)))) (.reg [⟨⟨some 34, Op.move (Operand.tmp 9), none⟩, []⟩,
  ⟨⟨some 35, Op.binOp BinOp.add 3 (Operand.tmp 34) (Operand.const (Value.int IntKind.i64 1)) 3, none⟩, []⟩,
  ⟨⟨some 9, Op.assign (Operand.tmp 35), none⟩, []⟩])))))) (.seq (.reg [⟨⟨some 50, Op.move (Operand.tmp 8), none⟩, []⟩,
  ⟨⟨some 6, Op.assign (Operand.tmp 50), none⟩, []⟩]) .ret))))))
theorem sl93 : slim Try.f93.ntmps ords93 (Try.f93.body.getD .skip) = some cd93 := by kernel_rfl
theorem in93 {args : List Value} {H : AH} {R : Value → AH → Prop} (hl : args.length = 3) (h : ∀ (Q : Exit → Sl → AH → Prop), (∀ e s H, endA Try.prog [ResultVar.tmp 6] R e s H → Q e s H) → wpC Try.prog cd93 Q (enterA args) H) : ACalls Try.prog 93 args H R :=
  ACalls.intro (by kernel_rfl) Try.func93 rfl (by kernel_rfl) sl93 hl (of_decide_eq_true (by kernel_rfl)) (by kernel_rfl) h
end Go.Proofs.Ytahakecifgjcnaa.Ai

namespace Go.Proofs.Ytahakecifgjcnaa.Ai
open Go Go.RowKit
set_option linter.unusedVariables false
set_option linter.unusedSimpArgs false

theorem mtc_snoc {es : List (Int × Int)} {ed : List Int} {e : Int} (h : Mtc es ed) (he : 0 ≤ e ∧ e < es.length) (hl : 0 < ed.length → ed.getD (ed.length - 1) 0 < e) : Mtc es (ed ++ [e]) ↔ frE es ed e := by
  have hlen : (ed ++ [e]).length = ed.length + 1 := by simp
  have at1 : ∀ i, i < ed.length → (ed ++ [e]).getD i 0 = ed.getD i 0 := fun i hi => by
    rw [List.getD_eq_getElem?_getD, List.getD_eq_getElem?_getD, List.getElem?_append_left hi]
  have at2 : (ed ++ [e]).getD ed.length 0 = e := by
    rw [List.getD_eq_getElem?_getD, List.getElem?_append_right (Nat.le_refl _)]; simp
  have tk1 : ∀ i, i ≤ ed.length → (ed ++ [e]).take i = ed.take i := fun i hi => List.take_append_of_le_length hi
  have tk2 : (ed ++ [e]).take ed.length = ed := by rw [tk1 _ (Nat.le_refl _), List.take_length]
  constructor
  · intro hm
    have := (hm ed.length (by omega)).2
    unfold frOk at this
    rw [at2, tk2] at this
    exact this
  · intro hf i hi
    by_cases hc : i < ed.length
    · obtain ⟨g1, g2⟩ := h i hc
      unfold rsOk at g1 ⊢
      unfold frOk at g2 ⊢
      rw [at1 i hc, tk1 i (by omega)]
      refine ⟨⟨g1.1, fun h0 => ?_⟩, g2⟩
      rw [at1 (i - 1) (by omega)]
      exact g1.2 h0
    · obtain rfl : i = ed.length := by omega
      unfold rsOk frOk
      rw [at2, tk2]
      refine ⟨⟨by omega, fun h0 => ?_⟩, hf⟩
      rw [at1 (ed.length - 1) (by omega)]
      exact hl h0
theorem mlpE_zero (es : List (Int × Int)) (ed : List Int) (j : Nat) : mlpE es 0 ed j = [] := rfl

/-- all that begins with some edges is no more than this -/
def mcap (es : List (Int × Int)) (k : Nat) (ed : List Int) (j : Nat) : Prop := (mext es k ed j).length ≤ 1000000000

set_option maxRecDepth 20000 in
set_option maxHeartbeats 4000000 in
theorem l8Extend_c (v : Value) (n : Int) (es : List (Int × Int)) (hlen : es.length ≤ 28) (k : Nat) (hk : k ≤ 1000000) :
    ∀ (r : Nat) (ed : List Int) (w : Value) (lo : Nat) (H : AH), RowP 66 H v es → InI lo H.length 3 H w ed → lo ≤ H.length → r ≤ es.length → Mtc es ed → ed.length + r ≤ es.length → ed.length ≤ k → (ed.length = 0 → r = es.length) → (0 < ed.length → ed.getD (ed.length - 1) 0 + 1 = ((es.length - r : Nat) : Int)) →
      ACalls Try.prog 93 [.agg (List.toArray [.int .i64 n, v]), w, .int .i64 (k : Int)] H fun g H' => InL lo H'.length 22 3 H' g (mext es r ed k) ∧ (mext es r ed k).length ≤ 2 ^ r ∧ H <+: H' := by
  intro r
  induction r using Nat.strongRecOn with
  | ind r ih =>
  intro ed w lo H hr hw hlo hrl hm hel hek hz hlast
  have hrow := hw.row.1
  refine in93 rfl ?_
  intro Q hQ
  simp (maxSteps := 1000000) (disch := omega) only [cd93, hr.boxG, hrow.len Try.underlying22, S, S1, S2, S3, S4, ST, eq_self, ne_eq, not_true_eq_false, not_false_eq_true, and_self, true_and, and_true, reduceIte, reduceCtorEq, Nat.reduceEqDiff, Nat.reduceAdd, Nat.zero_add, Nat.add_zero, Option.map_none, Option.map_some, List.map_cons, List.map_nil, List.append_nil, List.cons_append, List.nil_append, List.getElem?_cons_zero, List.getElem?_cons_succ, List.getD_cons_zero, List.getD_cons_succ, List.getD_nil, Bool.not_true, Bool.not_false, decide_true, decide_false]
  generalize hA : H ++ [AObj.cells [.int .i64 n, v] 41 false] = A
  have pA : H <+: A := by rw [← hA]; exact List.prefix_append _ _
  have cA : A[H.length]? = some (.cells [.int .i64 n, v] 41 false) := by rw [← hA]; exact at_new ..
  have rA := hr.pre pA
  have wA := hrow.pre pA
  refine brD.intro (fun e => ?_) (fun e => ?_)
  · have hek' : ed.length = k := by omega
    have hbs : buildSliceA Try.prog 47 1 [(0, w)] A = some (.slice (some ⟨A.length, 0, none⟩) 1 1, A ++ [.cells [w] 22 false]) := by
      obtain ⟨q, eq⟩ := hrow.shape
      rw [eq]
      exact bs1 Try.underlying47 cs22 ze22 ⟨by kernel_rfl, by kernel_rfl⟩ A rfl
    simp (maxSteps := 1000000) (disch := omega) only [hbs, S, S1, S2, S3, S4, ST, eq_self, ne_eq, not_true_eq_false, not_false_eq_true, and_self, true_and, and_true, reduceIte, reduceCtorEq, Nat.reduceEqDiff, Nat.reduceAdd, Nat.zero_add, Nat.add_zero, Option.map_none, Option.map_some, List.map_cons, List.map_nil, List.append_nil, List.cons_append, List.nil_append, List.getElem?_cons_zero, List.getElem?_cons_succ, List.getD_cons_zero, List.getD_cons_succ, List.getD_nil, Bool.not_true, Bool.not_false, decide_true, decide_false]
    refine hQ _ _ _ ?_
    simp (maxSteps := 1000000) (disch := omega) only [S, S1, S2, S3, S4, ST, eq_self, ne_eq, not_true_eq_false, not_false_eq_true, and_self, true_and, and_true, reduceIte, reduceCtorEq, Nat.reduceEqDiff, Nat.reduceAdd, Nat.zero_add, Nat.add_zero, Option.map_none, Option.map_some, List.map_cons, List.map_nil, List.append_nil, List.cons_append, List.nil_append, List.getElem?_cons_zero, List.getElem?_cons_succ, List.getD_cons_zero, List.getD_cons_succ, List.getD_nil, Bool.not_true, Bool.not_false, decide_true, decide_false]
    rw [← hek', mext_done]
    refine ⟨.inr ⟨A.length, [w], rfl, ?_⟩, by simp; exact Nat.one_le_two_pow, pre_app pA _⟩
    have lA := pA.length_le
    refine ⟨by omega, by simp, at_new .., by simp, ?_, ?_⟩
    · intro i hi
      have hi0 : i = 0 := by simpa using hi
      subst hi0
      refine ⟨((hw.pre pA).pre (List.prefix_append A _)).wide (Nat.le_refl _) (by simp; omega), ?_⟩
      rcases hw.at_ with q | q
      · exact .inl q
      · refine .inr ?_
        show rowO w ≠ A.length
        omega
    · intro i j hij hi hj
      simp at hi hj; omega
  have hek' : ed.length ≠ k := by omega
  rw [mext_loop es r ed k hek'] at hQ
  have e1 : ((ed.length : Int) - 1).toNat = ed.length - 1 := by omega
  have u0 := InU.new lo 22 3 A (by have := pA.length_le; omega)
  have hP : ∀ j, 2 ^ (j + 1) = 2 ^ j + 2 ^ j := fun j => by rw [Nat.pow_succ]; omega
  have hPr : 2 ^ r ≤ 2 ^ 28 := Nat.pow_le_pow_right (by decide) (by omega)
  simp (maxSteps := 1000000) (disch := omega) only [e, wA.len Try.underlying22, S, S1, S2, S3, S4, ST, eq_self, ne_eq, not_true_eq_false, not_false_eq_true, and_self, true_and, and_true, reduceIte, reduceCtorEq, Nat.reduceEqDiff, Nat.reduceAdd, Nat.zero_add, Nat.add_zero, Option.map_none, Option.map_some, List.map_cons, List.map_nil, List.append_nil, List.cons_append, List.nil_append, List.getElem?_cons_zero, List.getElem?_cons_succ, List.getD_cons_zero, List.getD_cons_succ, List.getD_nil, Bool.not_true, Bool.not_false, decide_true, decide_false]
  refine brD.intro (fun g => ?_) (fun g => ?_)
  · have hl' := hlast (by omega)
    have wB := wA.pre (List.prefix_append A [AObj.cells [] 22 false])
    simp (maxSteps := 1000000) (disch := omega) only [g, e1, wB.len Try.underlying22, wB.ix Try.underlying22 cs3, wB.cell, hl', wrap64, S, S1, S2, S3, S4, ST, eq_self, ne_eq, not_true_eq_false, not_false_eq_true, and_self, true_and, and_true, reduceIte, reduceCtorEq, Nat.reduceEqDiff, Nat.reduceAdd, Nat.zero_add, Nat.add_zero, Option.map_none, Option.map_some, List.map_cons, List.map_nil, List.append_nil, List.cons_append, List.nil_append, List.getElem?_cons_zero, List.getElem?_cons_succ, List.getD_cons_zero, List.getD_cons_succ, List.getD_nil, Bool.not_true, Bool.not_false, decide_true, decide_false]
    refine LoopH.by (fun m s H' => ∃ o us L, m ≤ r ∧ s 1 = w ∧ s 2 = .int .i64 (k : Int) ∧ s 3 = .pointer (some ⟨H.length, 0, none⟩) ∧ s 8 = .slice (some ⟨o, 0, none⟩) L.length L.length ∧ s 9 = .int .i64 ((es.length - m : Nat) : Int) ∧ A.length ≤ o ∧ InU lo H'.length 22 3 H' o us L ∧ L ++ mlpE es m ed k = mlpE es r ed k ∧ L.length + 2 ^ m ≤ 2 ^ r ∧ A <+: H') r ?_ ?_
    · refine ⟨A.length, [], [], Nat.le_refl _, rfl, rfl, rfl, rfl, rfl, Nat.le_refl _, ?_, rfl, by simp, List.prefix_append _ _⟩
      simpa using u0
    · rintro m s H' ⟨o, us, L, hmr, h1, h2, h3, h8, h9, hoA, hin, hL, hcnt, hp⟩
      have hrH := rA.pre hp
      have cH := pre_at hp cA
      have wH := wA.pre hp
      simp (maxSteps := 1000000) (disch := omega) only [h1, h2, h3, h8, h9, cell_of cH, hrH.len Try.underlying23, S, S1, S2, S3, S4, ST, eq_self, ne_eq, not_true_eq_false, not_false_eq_true, and_self, true_and, and_true, reduceIte, reduceCtorEq, Nat.reduceEqDiff, Nat.reduceAdd, Nat.zero_add, Nat.add_zero, Option.map_none, Option.map_some, List.map_cons, List.map_nil, List.append_nil, List.cons_append, List.nil_append, List.getElem?_cons_zero, List.getElem?_cons_succ, List.getD_cons_zero, List.getD_cons_succ, List.getD_nil, Bool.not_true, Bool.not_false, decide_true, decide_false]
      refine brD.intro (fun g3 => ?_) (fun g3 => ?_)
      · obtain ⟨i, rfl⟩ : ∃ i, m = i + 1 := ⟨m - 1, by omega⟩
        have he1 : ((es.length - (i + 1) : Nat) : Int) + 1 = ((es.length - i : Nat) : Int) := by omega
        have hstep := mlpE_step es i ed k
        have hpw := hP i
        have hpos : 1 ≤ 2 ^ i := Nat.one_le_two_pow
        generalize he : es.length - (i + 1) = e' at *
        simp (maxSteps := 1000000) (disch := omega) only [h1, h2, h3, h8, h9, S, S1, S2, S3, S4, ST, eq_self, ne_eq, not_true_eq_false, not_false_eq_true, and_self, true_and, and_true, reduceIte, reduceCtorEq, Nat.reduceEqDiff, Nat.reduceAdd, Nat.zero_add, Nat.add_zero, Option.map_none, Option.map_some, List.map_cons, List.map_nil, List.append_nil, List.cons_append, List.nil_append, List.getElem?_cons_zero, List.getElem?_cons_succ, List.getD_cons_zero, List.getD_cons_succ, List.getD_nil, Bool.not_true, Bool.not_false, decide_true, decide_false]
        refine CallH.by (l1Own_c w ed H' wH (by omega)) ?_
        rintro c D ⟨hc, pD⟩
        obtain ⟨w', H2, k1, k2, k3, k4, k5, k6⟩ := own1_22 hc pD (by omega) (e' : Int)
        have hp2 := hp.trans k3
        have cH2 := pre_at hp2 cA
        simp (maxSteps := 1000000) (disch := omega) only [h1, h2, h3, h8, h9, k1, ld_agg ag41 cs41 cH2, S, S1, S2, S3, S4, ST, eq_self, ne_eq, not_true_eq_false, not_false_eq_true, and_self, true_and, and_true, reduceIte, reduceCtorEq, Nat.reduceEqDiff, Nat.reduceAdd, Nat.zero_add, Nat.add_zero, Option.map_none, Option.map_some, List.map_cons, List.map_nil, List.append_nil, List.cons_append, List.nil_append, List.getElem?_cons_zero, List.getElem?_cons_succ, List.getD_cons_zero, List.getD_cons_succ, List.getD_nil, Bool.not_true, Bool.not_false, decide_true, decide_false]
        refine CallH.by (l8Matches_c n v w' es (ed ++ [(e' : Int)]) H2 (rA.pre hp2) k2.row (by omega) (by simp; omega)) ?_
        rintro _ H3 ⟨rfl, p3⟩
        have hp3 := hp2.trans p3
        have pH3 := k3.trans p3
        have cH3 := pre_at hp3 cA
        have hsn := mtc_snoc (e := (e' : Int)) hm (by omega) (fun h0 => by have := hlast h0; omega)
        simp (maxSteps := 1000000) (disch := omega) only [S, S1, S2, S3, S4, ST, eq_self, ne_eq, not_true_eq_false, not_false_eq_true, and_self, true_and, and_true, reduceIte, reduceCtorEq, Nat.reduceEqDiff, Nat.reduceAdd, Nat.zero_add, Nat.add_zero, Option.map_none, Option.map_some, List.map_cons, List.map_nil, List.append_nil, List.cons_append, List.nil_append, List.getElem?_cons_zero, List.getElem?_cons_succ, List.getD_cons_zero, List.getD_cons_succ, List.getD_nil, Bool.not_true, Bool.not_false, decide_true, decide_false]
        refine brD.intro (fun g4 => ?_) (fun g4 => ?_)
        · have hfe := hsn.1 g4
          rw [if_pos hfe] at hstep
          simp (maxSteps := 1000000) (disch := omega) only [g4, h1, h2, h3, h8, h9, ld_agg ag41 cs41 cH3, S, S1, S2, S3, S4, ST, eq_self, ne_eq, not_true_eq_false, not_false_eq_true, and_self, true_and, and_true, reduceIte, reduceCtorEq, Nat.reduceEqDiff, Nat.reduceAdd, Nat.zero_add, Nat.add_zero, Option.map_none, Option.map_some, List.map_cons, List.map_nil, List.append_nil, List.cons_append, List.nil_append, List.getElem?_cons_zero, List.getElem?_cons_succ, List.getD_cons_zero, List.getD_cons_succ, List.getD_nil, Bool.not_true, Bool.not_false, decide_true, decide_false]
          have hI' : InI H'.length H3.length 3 H3 w' (ed ++ [(e' : Int)]) := ((InI.of k2.mine).pre p3).wide (Nat.le_refl _) p3.length_le
          refine CallH.by (ih i (by omega) (ed ++ [(e' : Int)]) w' H'.length H3 (rA.pre hp3) hI' pH3.length_le (by omega) g4 (by simp; omega) (by simp; omega) (fun h0 => by simp at h0) (fun _ => ?_)) ?_
          · have : (ed ++ [(e' : Int)]).getD ((ed ++ [(e' : Int)]).length - 1) 0 = (e' : Int) := by
              rw [List.length_append, List.getD_eq_getElem?_getD, List.getElem?_append_right (by simp)]; simp
            rw [this]; exact he1
          rintro gL H4 ⟨hgL, hcL, p4⟩
          have lH' := hp.length_le
          have lA := pA.length_le
          have l3 := (pH3.trans p4).length_le
          obtain ⟨v', H5, o', us', q1, q2, q3, q4, q5, q6⟩ := (hin.pre (pH3.trans p4)).appL (P := Try.prog) (t2 := 47) Try.underlying47 cs22 (by rw [by22]; decide) zk22 hgL (by omega) l3 (Nat.le_refl _) (by omega)
          have f1 : A <+: H5 := prefix_of fun j x hx' => q5 j x (by have := at_lt hx'; omega) (pre_at (hp3.trans p4) hx')
          have f2 : (L ++ mext es i (ed ++ [(e' : Int)]) k) ++ mlpE es i ed k = mlpE es r ed k := by
            rw [← hL, hstep, List.append_assoc]
          have f3 : (L ++ mext es i (ed ++ [(e' : Int)]) k).length + 2 ^ i ≤ 2 ^ r := by rw [List.length_append]; omega
          simp (maxSteps := 1000000) (disch := omega) only [h1, h2, h3, h8, h9, q1, q2, he1, wrap64, S, S1, S2, S3, S4, ST, eq_self, ne_eq, not_true_eq_false, not_false_eq_true, and_self, true_and, and_true, reduceIte, reduceCtorEq, Nat.reduceEqDiff, Nat.reduceAdd, Nat.zero_add, Nat.add_zero, Option.map_none, Option.map_some, List.map_cons, List.map_nil, List.append_nil, List.cons_append, List.nil_append, List.getElem?_cons_zero, List.getElem?_cons_succ, List.getD_cons_zero, List.getD_cons_succ, List.getD_nil, Bool.not_true, Bool.not_false, decide_true, decide_false]
          have f4 : A.length ≤ o' := by have := (hp3.trans p4).length_le; omega
          refine ⟨i, by omega, o', us', L ++ mext es i (ed ++ [(e' : Int)]) k, ?_⟩
          (repeat' first | exact f1 | exact f2 | exact f3 | exact f4 | exact q3 | apply And.intro) <;> first | (simp only [Value.int.injEq, true_and]; omega) | omega | rfl | assumption | (simp; done) | (simp; omega)
        · rw [if_neg (fun h => g4 (hsn.2 h)), List.nil_append] at hstep
          rw [hstep] at hL
          have f1 := (hin.pre pH3).wide (Nat.le_refl _) pH3.length_le
          have f2 : L.length + 2 ^ i ≤ 2 ^ r := by omega
          simp (maxSteps := 1000000) (disch := omega) only [g4, h1, h2, h3, h8, h9, he1, wrap64, S, S1, S2, S3, S4, ST, eq_self, ne_eq, not_true_eq_false, not_false_eq_true, and_self, true_and, and_true, reduceIte, reduceCtorEq, Nat.reduceEqDiff, Nat.reduceAdd, Nat.zero_add, Nat.add_zero, Option.map_none, Option.map_some, List.map_cons, List.map_nil, List.append_nil, List.cons_append, List.nil_append, List.getElem?_cons_zero, List.getElem?_cons_succ, List.getD_cons_zero, List.getD_cons_succ, List.getD_nil, Bool.not_true, Bool.not_false, decide_true, decide_false]
          refine ⟨i, by omega, o, us, L, ?_⟩
          (repeat' first | exact f1 | exact f2 | exact hp3 | exact hL | apply And.intro) <;> first | (simp only [Value.int.injEq, true_and]; omega) | omega | rfl | assumption | (simp; done) | (simp; omega)
      · have hm0 : m = 0 := by omega
        subst hm0
        rw [mlpE_zero, List.append_nil] at hL
        simp (maxSteps := 1000000) (disch := omega) only [h8, S, S1, S2, S3, S4, ST, eq_self, ne_eq, not_true_eq_false, not_false_eq_true, and_self, true_and, and_true, reduceIte, reduceCtorEq, Nat.reduceEqDiff, Nat.reduceAdd, Nat.zero_add, Nat.add_zero, Option.map_none, Option.map_some, List.map_cons, List.map_nil, List.append_nil, List.cons_append, List.nil_append, List.getElem?_cons_zero, List.getElem?_cons_succ, List.getD_cons_zero, List.getD_cons_succ, List.getD_nil, Bool.not_true, Bool.not_false, decide_true, decide_false]
        refine hQ _ _ _ ?_
        simp (maxSteps := 1000000) (disch := omega) only [h8, S, S1, S2, S3, S4, ST, eq_self, ne_eq, not_true_eq_false, not_false_eq_true, and_self, true_and, and_true, reduceIte, reduceCtorEq, Nat.reduceEqDiff, Nat.reduceAdd, Nat.zero_add, Nat.add_zero, Option.map_none, Option.map_some, List.map_cons, List.map_nil, List.append_nil, List.cons_append, List.nil_append, List.getElem?_cons_zero, List.getElem?_cons_succ, List.getD_cons_zero, List.getD_cons_succ, List.getD_nil, Bool.not_true, Bool.not_false, decide_true, decide_false]
        rw [← hL]
        exact ⟨hin.inl, by omega, pA.trans hp⟩
  · have hz' := hz (by omega)
    have hl' : (0 : Int) = ((es.length - r : Nat) : Int) := by omega
    simp (maxSteps := 1000000) (disch := omega) only [g, S, S1, S2, S3, S4, ST, eq_self, ne_eq, not_true_eq_false, not_false_eq_true, and_self, true_and, and_true, reduceIte, reduceCtorEq, Nat.reduceEqDiff, Nat.reduceAdd, Nat.zero_add, Nat.add_zero, Option.map_none, Option.map_some, List.map_cons, List.map_nil, List.append_nil, List.cons_append, List.nil_append, List.getElem?_cons_zero, List.getElem?_cons_succ, List.getD_cons_zero, List.getD_cons_succ, List.getD_nil, Bool.not_true, Bool.not_false, decide_true, decide_false]
    refine LoopH.by (fun m s H' => ∃ o us L, m ≤ r ∧ s 1 = w ∧ s 2 = .int .i64 (k : Int) ∧ s 3 = .pointer (some ⟨H.length, 0, none⟩) ∧ s 8 = .slice (some ⟨o, 0, none⟩) L.length L.length ∧ s 9 = .int .i64 ((es.length - m : Nat) : Int) ∧ A.length ≤ o ∧ InU lo H'.length 22 3 H' o us L ∧ L ++ mlpE es m ed k = mlpE es r ed k ∧ L.length + 2 ^ m ≤ 2 ^ r ∧ A <+: H') r ?_ ?_
    · refine ⟨A.length, [], [], Nat.le_refl _, rfl, rfl, rfl, rfl, ?_, Nat.le_refl _, ?_, rfl, by simp, List.prefix_append _ _⟩
      · rw [← hl']; rfl
      · simpa using u0
    · rintro m s H' ⟨o, us, L, hmr, h1, h2, h3, h8, h9, hoA, hin, hL, hcnt, hp⟩
      have hrH := rA.pre hp
      have cH := pre_at hp cA
      have wH := wA.pre hp
      simp (maxSteps := 1000000) (disch := omega) only [h1, h2, h3, h8, h9, cell_of cH, hrH.len Try.underlying23, S, S1, S2, S3, S4, ST, eq_self, ne_eq, not_true_eq_false, not_false_eq_true, and_self, true_and, and_true, reduceIte, reduceCtorEq, Nat.reduceEqDiff, Nat.reduceAdd, Nat.zero_add, Nat.add_zero, Option.map_none, Option.map_some, List.map_cons, List.map_nil, List.append_nil, List.cons_append, List.nil_append, List.getElem?_cons_zero, List.getElem?_cons_succ, List.getD_cons_zero, List.getD_cons_succ, List.getD_nil, Bool.not_true, Bool.not_false, decide_true, decide_false]
      refine brD.intro (fun g3 => ?_) (fun g3 => ?_)
      · obtain ⟨i, rfl⟩ : ∃ i, m = i + 1 := ⟨m - 1, by omega⟩
        have he1 : ((es.length - (i + 1) : Nat) : Int) + 1 = ((es.length - i : Nat) : Int) := by omega
        have hstep := mlpE_step es i ed k
        have hpw := hP i
        have hpos : 1 ≤ 2 ^ i := Nat.one_le_two_pow
        generalize he : es.length - (i + 1) = e' at *
        simp (maxSteps := 1000000) (disch := omega) only [h1, h2, h3, h8, h9, S, S1, S2, S3, S4, ST, eq_self, ne_eq, not_true_eq_false, not_false_eq_true, and_self, true_and, and_true, reduceIte, reduceCtorEq, Nat.reduceEqDiff, Nat.reduceAdd, Nat.zero_add, Nat.add_zero, Option.map_none, Option.map_some, List.map_cons, List.map_nil, List.append_nil, List.cons_append, List.nil_append, List.getElem?_cons_zero, List.getElem?_cons_succ, List.getD_cons_zero, List.getD_cons_succ, List.getD_nil, Bool.not_true, Bool.not_false, decide_true, decide_false]
        refine CallH.by (l1Own_c w ed H' wH (by omega)) ?_
        rintro c D ⟨hc, pD⟩
        obtain ⟨w', H2, k1, k2, k3, k4, k5, k6⟩ := own1_22 hc pD (by omega) (e' : Int)
        have hp2 := hp.trans k3
        have cH2 := pre_at hp2 cA
        simp (maxSteps := 1000000) (disch := omega) only [h1, h2, h3, h8, h9, k1, ld_agg ag41 cs41 cH2, S, S1, S2, S3, S4, ST, eq_self, ne_eq, not_true_eq_false, not_false_eq_true, and_self, true_and, and_true, reduceIte, reduceCtorEq, Nat.reduceEqDiff, Nat.reduceAdd, Nat.zero_add, Nat.add_zero, Option.map_none, Option.map_some, List.map_cons, List.map_nil, List.append_nil, List.cons_append, List.nil_append, List.getElem?_cons_zero, List.getElem?_cons_succ, List.getD_cons_zero, List.getD_cons_succ, List.getD_nil, Bool.not_true, Bool.not_false, decide_true, decide_false]
        refine CallH.by (l8Matches_c n v w' es (ed ++ [(e' : Int)]) H2 (rA.pre hp2) k2.row (by omega) (by simp; omega)) ?_
        rintro _ H3 ⟨rfl, p3⟩
        have hp3 := hp2.trans p3
        have pH3 := k3.trans p3
        have cH3 := pre_at hp3 cA
        have hsn := mtc_snoc (e := (e' : Int)) hm (by omega) (fun h0 => by have := hlast h0; omega)
        simp (maxSteps := 1000000) (disch := omega) only [S, S1, S2, S3, S4, ST, eq_self, ne_eq, not_true_eq_false, not_false_eq_true, and_self, true_and, and_true, reduceIte, reduceCtorEq, Nat.reduceEqDiff, Nat.reduceAdd, Nat.zero_add, Nat.add_zero, Option.map_none, Option.map_some, List.map_cons, List.map_nil, List.append_nil, List.cons_append, List.nil_append, List.getElem?_cons_zero, List.getElem?_cons_succ, List.getD_cons_zero, List.getD_cons_succ, List.getD_nil, Bool.not_true, Bool.not_false, decide_true, decide_false]
        refine brD.intro (fun g4 => ?_) (fun g4 => ?_)
        · have hfe := hsn.1 g4
          rw [if_pos hfe] at hstep
          simp (maxSteps := 1000000) (disch := omega) only [g4, h1, h2, h3, h8, h9, ld_agg ag41 cs41 cH3, S, S1, S2, S3, S4, ST, eq_self, ne_eq, not_true_eq_false, not_false_eq_true, and_self, true_and, and_true, reduceIte, reduceCtorEq, Nat.reduceEqDiff, Nat.reduceAdd, Nat.zero_add, Nat.add_zero, Option.map_none, Option.map_some, List.map_cons, List.map_nil, List.append_nil, List.cons_append, List.nil_append, List.getElem?_cons_zero, List.getElem?_cons_succ, List.getD_cons_zero, List.getD_cons_succ, List.getD_nil, Bool.not_true, Bool.not_false, decide_true, decide_false]
          have hI' : InI H'.length H3.length 3 H3 w' (ed ++ [(e' : Int)]) := ((InI.of k2.mine).pre p3).wide (Nat.le_refl _) p3.length_le
          refine CallH.by (ih i (by omega) (ed ++ [(e' : Int)]) w' H'.length H3 (rA.pre hp3) hI' pH3.length_le (by omega) g4 (by simp; omega) (by simp; omega) (fun h0 => by simp at h0) (fun _ => ?_)) ?_
          · have : (ed ++ [(e' : Int)]).getD ((ed ++ [(e' : Int)]).length - 1) 0 = (e' : Int) := by
              rw [List.length_append, List.getD_eq_getElem?_getD, List.getElem?_append_right (by simp)]; simp
            rw [this]; exact he1
          rintro gL H4 ⟨hgL, hcL, p4⟩
          have lH' := hp.length_le
          have lA := pA.length_le
          have l3 := (pH3.trans p4).length_le
          obtain ⟨v', H5, o', us', q1, q2, q3, q4, q5, q6⟩ := (hin.pre (pH3.trans p4)).appL (P := Try.prog) (t2 := 47) Try.underlying47 cs22 (by rw [by22]; decide) zk22 hgL (by omega) l3 (Nat.le_refl _) (by omega)
          have f1 : A <+: H5 := prefix_of fun j x hx' => q5 j x (by have := at_lt hx'; omega) (pre_at (hp3.trans p4) hx')
          have f2 : (L ++ mext es i (ed ++ [(e' : Int)]) k) ++ mlpE es i ed k = mlpE es r ed k := by
            rw [← hL, hstep, List.append_assoc]
          have f3 : (L ++ mext es i (ed ++ [(e' : Int)]) k).length + 2 ^ i ≤ 2 ^ r := by rw [List.length_append]; omega
          simp (maxSteps := 1000000) (disch := omega) only [h1, h2, h3, h8, h9, q1, q2, he1, wrap64, S, S1, S2, S3, S4, ST, eq_self, ne_eq, not_true_eq_false, not_false_eq_true, and_self, true_and, and_true, reduceIte, reduceCtorEq, Nat.reduceEqDiff, Nat.reduceAdd, Nat.zero_add, Nat.add_zero, Option.map_none, Option.map_some, List.map_cons, List.map_nil, List.append_nil, List.cons_append, List.nil_append, List.getElem?_cons_zero, List.getElem?_cons_succ, List.getD_cons_zero, List.getD_cons_succ, List.getD_nil, Bool.not_true, Bool.not_false, decide_true, decide_false]
          have f4 : A.length ≤ o' := by have := (hp3.trans p4).length_le; omega
          refine ⟨i, by omega, o', us', L ++ mext es i (ed ++ [(e' : Int)]) k, ?_⟩
          (repeat' first | exact f1 | exact f2 | exact f3 | exact f4 | exact q3 | apply And.intro) <;> first | (simp only [Value.int.injEq, true_and]; omega) | omega | rfl | assumption | (simp; done) | (simp; omega)
        · rw [if_neg (fun h => g4 (hsn.2 h)), List.nil_append] at hstep
          rw [hstep] at hL
          have f1 := (hin.pre pH3).wide (Nat.le_refl _) pH3.length_le
          have f2 : L.length + 2 ^ i ≤ 2 ^ r := by omega
          simp (maxSteps := 1000000) (disch := omega) only [g4, h1, h2, h3, h8, h9, he1, wrap64, S, S1, S2, S3, S4, ST, eq_self, ne_eq, not_true_eq_false, not_false_eq_true, and_self, true_and, and_true, reduceIte, reduceCtorEq, Nat.reduceEqDiff, Nat.reduceAdd, Nat.zero_add, Nat.add_zero, Option.map_none, Option.map_some, List.map_cons, List.map_nil, List.append_nil, List.cons_append, List.nil_append, List.getElem?_cons_zero, List.getElem?_cons_succ, List.getD_cons_zero, List.getD_cons_succ, List.getD_nil, Bool.not_true, Bool.not_false, decide_true, decide_false]
          refine ⟨i, by omega, o, us, L, ?_⟩
          (repeat' first | exact f1 | exact f2 | exact hp3 | exact hL | apply And.intro) <;> first | (simp only [Value.int.injEq, true_and]; omega) | omega | rfl | assumption | (simp; done) | (simp; omega)
      · have hm0 : m = 0 := by omega
        subst hm0
        rw [mlpE_zero, List.append_nil] at hL
        simp (maxSteps := 1000000) (disch := omega) only [h8, S, S1, S2, S3, S4, ST, eq_self, ne_eq, not_true_eq_false, not_false_eq_true, and_self, true_and, and_true, reduceIte, reduceCtorEq, Nat.reduceEqDiff, Nat.reduceAdd, Nat.zero_add, Nat.add_zero, Option.map_none, Option.map_some, List.map_cons, List.map_nil, List.append_nil, List.cons_append, List.nil_append, List.getElem?_cons_zero, List.getElem?_cons_succ, List.getD_cons_zero, List.getD_cons_succ, List.getD_nil, Bool.not_true, Bool.not_false, decide_true, decide_false]
        refine hQ _ _ _ ?_
        simp (maxSteps := 1000000) (disch := omega) only [h8, S, S1, S2, S3, S4, ST, eq_self, ne_eq, not_true_eq_false, not_false_eq_true, and_self, true_and, and_true, reduceIte, reduceCtorEq, Nat.reduceEqDiff, Nat.reduceAdd, Nat.zero_add, Nat.add_zero, Option.map_none, Option.map_some, List.map_cons, List.map_nil, List.append_nil, List.cons_append, List.nil_append, List.getElem?_cons_zero, List.getElem?_cons_succ, List.getD_cons_zero, List.getD_cons_succ, List.getD_nil, Bool.not_true, Bool.not_false, decide_true, decide_false]
        rw [← hL]
        exact ⟨hin.inl, by omega, pA.trans hp⟩
end Go.Proofs.Ytahakecifgjcnaa.Ai
