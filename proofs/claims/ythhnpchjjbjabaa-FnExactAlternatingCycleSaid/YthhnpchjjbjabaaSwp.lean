/- Two places exchanged, both sides (spec.l1Own, l9At, l9Swap; impl.swapped). -/
import Derived.Test.YthhnpchjjbjabaaSrtP
import Derived.Test.YthhnpchjjbjabaaClone
import Derived.Test.YthhnpchjjbjabaaArr
import Derived.Test.YthhnpchjjbjabaaProg
import Derived.Test.YthhnpchjjbjabaaAiM2
import Derived.KernelRfl
/- Slim code of this translation. By the kernel. -/
namespace Go.Proofs.Ythhnpchjjbjabaa.Ai
open Go

/- loop.example/g01128/spec.l1Own -/
def ords121 : List (Nat × List (Nat × Bool)) := []
def cd121 : Cd := (.seq (.reg [⟨⟨some 2, Op.assign (Operand.const (Value.slice none 0 0)), none⟩, []⟩]) (.seq (.reg [⟨⟨some 3, Op.buildSlice 32 0 #[], none⟩, []⟩,
  ⟨⟨some 4, Op.move (Operand.tmp 0), none⟩, []⟩,
  ⟨⟨some 5, Op.call { callee := (Callee.builtin Builtin.append), args := #[(Operand.tmp 3), (Operand.tmp 4)], argTypes := #[32, 32] }, none⟩, []⟩,
  ⟨⟨some 2, Op.assign (Operand.tmp 5), none⟩, []⟩]) .ret))
theorem sl121 : slim Try.f121.ntmps ords121 (Try.f121.body.getD .skip) = some cd121 := by kernel_rfl
theorem in121 {args : List Value} {H : AH} {R : Value → AH → Prop} (hl : args.length = 1) (h : ∀ (Q : Exit → Sl → AH → Prop), (∀ e s H, endA Try.prog [ResultVar.tmp 2] R e s H → Q e s H) → wpC Try.prog cd121 Q (enterA args) H) : ACalls Try.prog 121 args H R :=
  ACalls.intro (by kernel_rfl) Try.func121 rfl (by kernel_rfl) sl121 hl (of_decide_eq_true (by kernel_rfl)) (by kernel_rfl) h

/- loop.example/g01128/spec.l9At -/
def ords99 : List (Nat × List (Nat × Bool)) := []
def cd99 : Cd := (.seq (.reg [⟨⟨some 4, Op.assign (Operand.const (Value.int IntKind.i64 0)), none⟩, []⟩]) (.seq (.reg [⟨⟨some 5, Op.assign (Operand.const (Value.int IntKind.i64 0)), none⟩, []⟩]) (.seq (.block 0 (.loop (.seq (.seq (.reg [⟨⟨some 6, Op.move (Operand.tmp 0), none⟩, []⟩,
  ⟨⟨some 7, Op.move (Operand.tmp 5), none⟩, []⟩,
  ⟨⟨some 8, Op.indexAddr 32 (Operand.tmp 6) (Operand.tmp 7), none⟩, []⟩,
  ⟨⟨some 9, Op.load 3 (Operand.tmp 8), none⟩, []⟩,
  ⟨⟨some 10, Op.move (Operand.tmp 1), none⟩, []⟩,
  ⟨⟨some 11, Op.binOp BinOp.neq 3 (Operand.tmp 9) (Operand.tmp 10) 3, none⟩, []⟩]) (.cond (Operand.tmp 11) .skip (.exit 0))) (.block 1 (.reg [⟨⟨some 12, Op.move (Operand.tmp 5), none⟩, []⟩,
  ⟨⟨some 13, Op.binOp BinOp.add 3 (Operand.tmp 12) (Operand.const (Value.int IntKind.i64 1)) 3, none⟩, []⟩,
  ⟨⟨some 5, Op.assign (Operand.tmp 13), none⟩, []⟩]))))) (.seq (.reg [⟨⟨some 14, Op.move (Operand.tmp 5), none⟩, []⟩,
  ⟨⟨some 4, Op.assign (Operand.tmp 14), none⟩, []⟩]) .ret))))
theorem sl99 : slim Try.f99.ntmps ords99 (Try.f99.body.getD .skip) = some cd99 := by kernel_rfl
theorem in99 {args : List Value} {H : AH} {R : Value → AH → Prop} (hl : args.length = 2) (h : ∀ (Q : Exit → Sl → AH → Prop), (∀ e s H, endA Try.prog [ResultVar.tmp 4] R e s H → Q e s H) → wpC Try.prog cd99 Q (enterA args) H) : ACalls Try.prog 99 args H R :=
  ACalls.intro (by kernel_rfl) Try.func99 rfl (by kernel_rfl) sl99 hl (of_decide_eq_true (by kernel_rfl)) (by kernel_rfl) h

/- loop.example/g01128/spec.l9Swap -/
def ords156 : List (Nat × List (Nat × Bool)) := []
def cd156 : Cd := (.seq (.reg [⟨⟨some 6, Op.assign (Operand.const (Value.slice none 0 0)), none⟩, []⟩]) (.seq (.reg [⟨⟨some 8, Op.move (Operand.tmp 0), none⟩, []⟩,
  ⟨⟨some 9, Op.call { callee := (Callee.value (Operand.func 121)), args := #[(Operand.tmp 8)], argTypes := #[32] }, none⟩, []⟩,
  ⟨⟨some 7, Op.assign (Operand.tmp 9), none⟩, []⟩]) (.seq (.reg [⟨⟨some 10, Op.move (Operand.tmp 7), none⟩, []⟩,
  ⟨⟨some 11, Op.move (Operand.tmp 1), none⟩, []⟩,
  ⟨⟨some 12, Op.move (Operand.tmp 0), none⟩, []⟩,
  ⟨⟨some 13, Op.move (Operand.tmp 2), none⟩, []⟩,
  ⟨⟨some 14, Op.indexAddr 32 (Operand.tmp 12) (Operand.tmp 13), none⟩, []⟩,
  ⟨⟨some 15, Op.load 3 (Operand.tmp 14), none⟩, []⟩,
  ⟨⟨some 16, Op.indexAddr 32 (Operand.tmp 10) (Operand.tmp 11), none⟩, []⟩,
  ⟨⟨none, Op.store 3 (Operand.tmp 16) (Operand.tmp 15), none⟩, []⟩]) (.seq (.reg [⟨⟨some 17, Op.move (Operand.tmp 7), none⟩, []⟩,
  ⟨⟨some 18, Op.move (Operand.tmp 2), none⟩, []⟩,
  ⟨⟨some 19, Op.move (Operand.tmp 0), none⟩, []⟩,
  ⟨⟨some 20, Op.move (Operand.tmp 1), none⟩, []⟩,
  ⟨⟨some 21, Op.indexAddr 32 (Operand.tmp 19) (Operand.tmp 20), none⟩, []⟩,
  ⟨⟨some 22, Op.load 3 (Operand.tmp 21), none⟩, []⟩,
  ⟨⟨some 23, Op.indexAddr 32 (Operand.tmp 17) (Operand.tmp 18), none⟩, []⟩,
  ⟨⟨none, Op.store 3 (Operand.tmp 23) (Operand.tmp 22), none⟩, []⟩]) (.seq (.reg [⟨⟨some 24, Op.move (Operand.tmp 7), none⟩, []⟩,
  ⟨⟨some 6, Op.assign (Operand.tmp 24), none⟩, []⟩]) .ret)))))
theorem sl156 : slim Try.f156.ntmps ords156 (Try.f156.body.getD .skip) = some cd156 := by kernel_rfl
theorem in156 {args : List Value} {H : AH} {R : Value → AH → Prop} (hl : args.length = 3) (h : ∀ (Q : Exit → Sl → AH → Prop), (∀ e s H, endA Try.prog [ResultVar.tmp 6] R e s H → Q e s H) → wpC Try.prog cd156 Q (enterA args) H) : ACalls Try.prog 156 args H R :=
  ACalls.intro (by kernel_rfl) Try.func156 rfl (by kernel_rfl) sl156 hl (of_decide_eq_true (by kernel_rfl)) (by kernel_rfl) h

/- loop.example/g01128/impl.swapped -/
def ords133 : List (Nat × List (Nat × Bool)) := [(2, [(0, false), (1, false), (2, false), (3, false), (4, false), (5, false), (6, false), (7, false), (8, false), (9, false), (10, false), (11, false), (12, false), (13, false), (14, false), (15, false), (16, false), (17, true), (18, false), (19, true)])]
def cd133 : Cd := (.seq (.reg [⟨⟨some 3, Op.box 76 (Operand.tmp 1), none⟩, []⟩,
  ⟨⟨some 4, Op.assign (Operand.const (Value.slice none 0 0)), none⟩, []⟩]) (.seq (.reg [⟨⟨some 6, Op.move (Operand.tmp 0), none⟩, []⟩,
  ⟨⟨some 7, Op.call { callee := (Callee.value (Operand.func 127)), args := #[(Operand.tmp 6)], argTypes := #[32] }, none⟩, []⟩,
  ⟨⟨some 5, Op.assign (Operand.tmp 7), none⟩, []⟩]) (.seq (.reg [⟨⟨some 8, Op.move (Operand.tmp 5), none⟩, []⟩,
  ⟨⟨some 9, Op.indexAddr 76 (Operand.tmp 3) (Operand.const (Value.int IntKind.i64 0)), none⟩, []⟩,
  ⟨⟨some 10, Op.load 3 (Operand.tmp 9), none⟩, []⟩,
  ⟨⟨some 11, Op.move (Operand.tmp 5), none⟩, []⟩,
  ⟨⟨some 12, Op.indexAddr 76 (Operand.tmp 3) (Operand.const (Value.int IntKind.i64 1)), none⟩, []⟩,
  ⟨⟨some 13, Op.load 3 (Operand.tmp 12), none⟩, []⟩,
  ⟨⟨some 14, Op.move (Operand.tmp 5), none⟩, []⟩,
  ⟨⟨some 15, Op.indexAddr 76 (Operand.tmp 3) (Operand.const (Value.int IntKind.i64 1)), none⟩, []⟩,
  ⟨⟨some 16, Op.load 3 (Operand.tmp 15), none⟩, []⟩,
  ⟨⟨some 17, Op.indexAddr 32 (Operand.tmp 14) (Operand.tmp 16), none⟩, []⟩,
  ⟨⟨some 18, Op.load 3 (Operand.tmp 17), none⟩, []⟩,
  ⟨⟨some 19, Op.move (Operand.tmp 5), none⟩, []⟩,
  ⟨⟨some 20, Op.indexAddr 76 (Operand.tmp 3) (Operand.const (Value.int IntKind.i64 0)), none⟩, []⟩,
  ⟨⟨some 21, Op.load 3 (Operand.tmp 20), none⟩, []⟩,
  ⟨⟨some 22, Op.indexAddr 32 (Operand.tmp 19) (Operand.tmp 21), none⟩, []⟩,
  ⟨⟨some 23, Op.load 3 (Operand.tmp 22), none⟩, []⟩,
  ⟨⟨some 24, Op.indexAddr 32 (Operand.tmp 8) (Operand.tmp 10), none⟩, []⟩,
  ⟨⟨none, Op.store 3 (Operand.tmp 24) (Operand.tmp 18), none⟩, [⟨some 13, Op.load 3 (Operand.tmp 12), none⟩]⟩,
  ⟨⟨some 25, Op.indexAddr 32 (Operand.tmp 11) (Operand.tmp 13), none⟩, []⟩,
  ⟨⟨none, Op.store 3 (Operand.tmp 25) (Operand.tmp 23), none⟩, []⟩]) (.seq (.reg [⟨⟨some 26, Op.move (Operand.tmp 5), none⟩, []⟩,
  ⟨⟨some 4, Op.assign (Operand.tmp 26), none⟩, []⟩]) .ret))))
theorem sl133 : slim Try.f133.ntmps ords133 (Try.f133.body.getD .skip) = some cd133 := by kernel_rfl
theorem in133 {args : List Value} {H : AH} {R : Value → AH → Prop} (hl : args.length = 2) (h : ∀ (Q : Exit → Sl → AH → Prop), (∀ e s H, endA Try.prog [ResultVar.tmp 4] R e s H → Q e s H) → wpC Try.prog cd133 Q (enterA args) H) : ACalls Try.prog 133 args H R :=
  ACalls.intro (by kernel_rfl) Try.func133 rfl (by kernel_rfl) sl133 hl (of_decide_eq_true (by kernel_rfl)) (by kernel_rfl) h
end Go.Proofs.Ythhnpchjjbjabaa.Ai

namespace Go.Proofs.Ythhnpchjjbjabaa.Ai
open Go Go.RowKit
set_option linter.unusedVariables false
set_option linter.unusedSimpArgs false

set_option maxRecDepth 20000 in
theorem l1Own_c (v : Value) (xs : List Int) (H : AH) (hr : Row 3 H v xs) (hlen : xs.length ≤ 1099511627776) : ACalls Try.prog 121 [v] H fun r H' => Own 3 H H' r xs ∧ H <+: H' := by
  refine in121 rfl ?_
  intro Q hQ
  simp (maxSteps := 1000000) (disch := omega) only [cd121, S, S1, S2, S3, S4, S5, ST, eq_self, reduceIte, reduceCtorEq, Nat.reduceEqDiff, Nat.reduceAdd]
  have hp := List.prefix_append H [AObj.cells [] 3 false]
  have ho : Own 3 H (H ++ [AObj.cells [] 3 false]) (.slice (some ⟨H.length, 0, none⟩) 0 0) [] := .inr ⟨H.length, rfl, Nat.le_refl _, at_new ..⟩
  obtain ⟨v', H2, k1, k2, k3, _⟩ := ho.app (P := Try.prog) (t := 32) Try.underlying32 cs3 (by rw [by3]; decide) zk3 (hr.pre hp) hp (by simp; omega)
  simp (maxSteps := 1000000) (disch := omega) only [k1, S, S1, S2, S3, S4, S5, ST, eq_self, reduceIte, reduceCtorEq, Nat.reduceEqDiff, Nat.reduceAdd]
  refine hQ _ _ _ ?_
  simp (maxSteps := 1000000) (disch := omega) only [k2.row.tup, S, S1, S2, S3, S4, S5, ST, eq_self, reduceIte, reduceCtorEq, Nat.reduceEqDiff, Nat.reduceAdd]
  exact ⟨k2, k3⟩

theorem l9At_c (v : Value) (xs : List Int) (x : Int) (H : AH) (hr : Row 3 H v xs) (hlen : xs.length ≤ 1099511627776) (hx : x ∈ xs) :
    ACalls Try.prog 99 [v, .int .i64 x] H fun r H' => r = .int .i64 (ax xs x) ∧ H = H' := by
  refine in99 rfl ?_
  intro Q hQ
  simp (maxSteps := 1000000) (disch := omega) only [cd99, S, S1, S2, S3, S4, S5, ST, eq_self, reduceIte, reduceCtorEq, Nat.reduceEqDiff, Nat.reduceAdd]
  have h0x : 0 ≤ ax xs x := (idxP_any (fun y => decide (x = y)) xs 0).2 (by simpa using hx)
  refine LoopH.by (fun m s H' => ∃ i, m + i = xs.length ∧ s 0 = v ∧ s 1 = .int .i64 x ∧ s 5 = .int .i64 ((i : Nat) : Int) ∧ H = H' ∧ ax xs x = idxP (fun y => decide (x = y)) (xs.drop i) i) xs.length ?_ ?_
  · exact ⟨0, by simp, rfl, rfl, rfl, rfl, by simp [ax]⟩
  · rintro m s H' ⟨i, hm, h0, h1, h5, rfl, hn⟩
    have hi : i < xs.length := by
      by_cases hi : i < xs.length
      · exact hi
      · rw [List.drop_of_length_le (by omega)] at hn
        simp only [idxP] at hn
        omega
    rw [idxP_step _ xs i hi] at hn
    simp (maxSteps := 1000000) (disch := omega) only [h0, h1, h5, hr.ix Try.underlying32 cs3, hr.cell, Int.toNat_natCast, S, S1, S2, S3, S4, S5, ST, eq_self, reduceIte, reduceCtorEq, Nat.reduceEqDiff, Nat.reduceAdd]
    refine brD.intro (fun e => ?_) (fun e => ?_) <;> simp (maxSteps := 1000000) (disch := omega) only [h0, h1, h5, wrap64, S, S1, S2, S3, S4, S5, ST, eq_self, reduceIte, reduceCtorEq, Nat.reduceEqDiff, Nat.reduceAdd]
    · rw [if_neg (by simp only [decide_eq_true_eq]; exact fun h => e h.symm)] at hn
      refine ⟨m - 1, by omega, i + 1, ?_⟩
      (repeat' apply And.intro) <;> first | exact hn | (simp only [Value.int.injEq, true_and]; omega) | omega | rfl | assumption | (simp; done) | (simp; omega)
    · rw [if_pos (by simp only [decide_eq_true_eq]; exact (Decidable.not_not.1 e).symm)] at hn
      refine hQ _ _ _ ?_
      simp (maxSteps := 1000000) (disch := omega) only [S, S1, S2, S3, S4, S5, ST, eq_self, reduceIte, reduceCtorEq, Nat.reduceEqDiff, Nat.reduceAdd]
      rw [hn]

theorem l9Swap_c (v : Value) (xs : List Int) (a b : Nat) (H : AH) (hr : Row 3 H v xs) (hlen : xs.length ≤ 1099511627776) (ha : a < xs.length) (hb : b < xs.length) :
    ACalls Try.prog 156 [v, .int .i64 ((a : Nat) : Int), .int .i64 ((b : Nat) : Int)] H fun r H' => Own 3 H H' r (swp xs a b) ∧ H <+: H' := by
  refine in156 rfl ?_
  intro Q hQ
  simp (maxSteps := 1000000) (disch := omega) only [cd156, S, S1, S2, S3, S4, S5, ST, eq_self, reduceIte, reduceCtorEq, Nat.reduceEqDiff, Nat.reduceAdd]
  refine CallH.by (l1Own_c v xs H hr hlen) ?_
  rintro w H1 ⟨ho, hp⟩
  have hr1 := hr.pre hp
  rcases ho with ⟨_, h2⟩ | ⟨o, rfl, hoo, hc⟩
  · subst h2; simp at ha
  · have hne : v = .slice none 0 0 ∨ rowO v ≠ o := by
      rcases hr.nil with g | g
      · exact .inl g.1
      · exact .inr (by omega)
    have hr2 : Row 3 (H1.set o (.cells (ints (xs.set a (xs.getD b 0))) 3 false)) v xs := by
      refine hr1.mono fun y hy => ?_
      rcases hne with g | g
      · have := hr.nilv g; subst this; simp at ha
      · rw [List.getElem?_set_ne (fun e => g e.symm)]; exact hy
    have hc2 := at_set (d := .cells (ints (xs.set a (xs.getD b 0))) 3 false) hc
    simp (maxSteps := 1000000) (disch := omega) only [hr1.ix Try.underlying32 cs3, hr1.cell, Int.toNat_natCast, Nat.zero_add, st_ints cs3 hc ha, hr2.ix Try.underlying32 cs3, hr2.cell, S, S1, S2, S3, S4, S5, ST, eq_self, reduceIte, reduceCtorEq, Nat.reduceEqDiff, Nat.reduceAdd]
    simp (maxSteps := 1000000) (disch := omega) only [Int.toNat_natCast, Nat.zero_add, st_ints cs3 hc2 (show b < (xs.set a (xs.getD b 0)).length by simpa using hb), S, S1, S2, S3, S4, S5, ST, eq_self, reduceIte, reduceCtorEq, Nat.reduceEqDiff, Nat.reduceAdd]
    refine hQ _ _ _ ?_
    simp (maxSteps := 1000000) (disch := omega) only [List.set_set, S, S1, S2, S3, S4, S5, ST, eq_self, reduceIte, reduceCtorEq, Nat.reduceEqDiff, Nat.reduceAdd]
    refine ⟨.inr ⟨o, by rw [swp_len], hoo, ?_⟩, ?_⟩
    · exact at_set hc
    · exact pre_set hp hoo _

set_option maxRecDepth 20000 in
theorem swapped_c (v : Value) (xs : List Int) (a b : Nat) (H : AH) (hr : Row 3 H v xs) (hlen : xs.length ≤ 1099511627776) (ha : a < xs.length) (hb : b < xs.length) :
    ACalls Try.prog 133 [v, .agg (List.toArray [.int .i64 ((a : Nat) : Int), .int .i64 ((b : Nat) : Int)])] H fun r H' => Own 3 H H' r (swp xs a b) ∧ H <+: H' := by
  refine in133 rfl ?_
  intro Q hQ
  simp (maxSteps := 1000000) (disch := omega) only [cd133, box_a2, S, S1, S2, S3, S4, S5, ST, eq_self, reduceIte, reduceCtorEq, Nat.reduceEqDiff, Nat.reduceAdd]
  generalize hA : H ++ [AObj.cells [.int .i64 ((a : Nat) : Int), .int .i64 ((b : Nat) : Int)] 76 false] = A
  have a0 : A[H.length]? = some (.cells [.int .i64 ((a : Nat) : Int), .int .i64 ((b : Nat) : Int)] 76 false) := by rw [← hA]; exact at_new ..
  have pA : H <+: A := by rw [← hA]; exact List.prefix_append _ _
  have lA : H.length < A.length := by rw [← hA]; simp
  refine CallH.by (Clone_c v xs A (hr.pre pA) hlen) ?_
  rintro w H1 ⟨ho, hp⟩
  rcases ho with ⟨_, h2⟩ | ⟨o, rfl, hoo, hc⟩
  · subst h2; simp at ha
  · have b0 := pre_at hp a0
    have c0 : cellA H1 H.length 0 = some (.int .i64 ((a : Nat) : Int)) := by rw [cell_of b0]; rfl
    have c1 : cellA H1 H.length 1 = some (.int .i64 ((b : Nat) : Int)) := by rw [cell_of b0]; rfl
    have b2 : (H1.set o (.cells (ints (xs.set a (xs.getD b 0))) 3 false))[H.length]? = some (.cells [.int .i64 ((a : Nat) : Int), .int .i64 ((b : Nat) : Int)] 76 false) := by
      rw [List.getElem?_set_ne (by omega)]; exact b0
    have d1 : cellA (H1.set o (.cells (ints (xs.set a (xs.getD b 0))) 3 false)) H.length 1 = some (.int .i64 ((b : Nat) : Int)) := by rw [cell_of b2]; rfl
    have hc2 := at_set (d := .cells (ints (xs.set a (xs.getD b 0))) 3 false) hc
    simp (maxSteps := 1000000) (disch := omega) only [c0, c1, Int.toNat_natCast, Nat.zero_add, cell_ints hc ha, cell_ints hc hb, st_ints cs3 hc ha, d1, st_ints cs3 hc2 (show b < (xs.set a (xs.getD b 0)).length by simpa using hb), S, S1, S2, S3, S4, S5, ST, eq_self, reduceIte, reduceCtorEq, Nat.reduceEqDiff, Nat.reduceAdd]
    refine hQ _ _ _ ?_
    simp (maxSteps := 1000000) (disch := omega) only [List.set_set, S, S1, S2, S3, S4, S5, ST, eq_self, reduceIte, reduceCtorEq, Nat.reduceEqDiff, Nat.reduceAdd]
    refine ⟨.inr ⟨o, by rw [swp_len], by omega, ?_⟩, ?_⟩
    · exact at_set hc
    · exact pre_set (pA.trans hp) (by omega) _
end Go.Proofs.Ythhnpchjjbjabaa.Ai
