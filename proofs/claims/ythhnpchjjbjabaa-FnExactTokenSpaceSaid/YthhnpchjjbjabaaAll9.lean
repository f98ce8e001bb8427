/- All permutations (spec.l9All), places where two lists differ (impl.places, spec.l5Changed), impl.orNone. -/
import Derived.Test.YthhnpchjjbjabaaDfP
import Derived.Test.YthhnpchjjbjabaaLst
import Derived.Test.YthhnpchjjbjabaaHas
import Derived.Test.YthhnpchjjbjabaaSwp
import Derived.Test.YthhnpchjjbjabaaMarkS
import Derived.Test.YthhnpchjjbjabaaProg
import Derived.Test.YthhnpchjjbjabaaAiM2
import Derived.KernelRfl
/- Slim code of this translation. By the kernel. -/
namespace Go.Proofs.Ythhnpchjjbjabaa.Ai
open Go

/- loop.example/g01128/impl.places -/
def ords80 : List (Nat × List (Nat × Bool)) := []
def cd80 : Cd := (.seq (.reg [⟨⟨some 4, Op.assign (Operand.const (Value.slice none 0 0)), none⟩, []⟩]) (.seq (.reg [⟨⟨some 8, Op.buildSlice 32 0 #[], none⟩, []⟩,
  ⟨⟨some 5, Op.assign (Operand.tmp 8), none⟩, []⟩]) (.seq (.seq (.reg [⟨⟨some 9, Op.move (Operand.tmp 0), none⟩, []⟩,
  ⟨⟨some 10, Op.call { callee := (Callee.builtin Builtin.len), args := #[(Operand.tmp 9)], argTypes := #[32] }, none⟩, []⟩,
  ⟨⟨some 11, Op.move (Operand.const (Value.int IntKind.i64 0)), none⟩, []⟩]) (.block 0 (.loop (.seq (.reg [⟨⟨some 12, Op.binOp BinOp.lss 3 (Operand.tmp 11) (Operand.tmp 10) 3, none⟩, []⟩]) (.seq (.cond (Operand.tmp 12) .skip (.exit 0)) (.seq (.block 1 (.seq (.reg [⟨⟨some 13, Op.move (Operand.tmp 11), none⟩, []⟩,
  ⟨⟨some 14, Op.indexAddr 32 (Operand.tmp 9) (Operand.tmp 11), none⟩, []⟩,
  ⟨⟨some 15, Op.load 3 (Operand.tmp 14), none⟩, []⟩,
  ⟨⟨some 6, Op.assign (Operand.tmp 13), none⟩, []⟩,
  ⟨⟨some 7, Op.assign (Operand.tmp 15), none⟩, []⟩]) (.seq (.reg [⟨⟨some 16, Op.move (Operand.tmp 1), none⟩, []⟩,
  ⟨⟨some 17, Op.move (Operand.tmp 6), none⟩, []⟩,
  ⟨⟨some 18, Op.indexAddr 32 (Operand.tmp 16) (Operand.tmp 17), none⟩, []⟩,
  ⟨⟨some 19, Op.load 3 (Operand.tmp 18), none⟩, []⟩,
  ⟨⟨some 20, Op.move (Operand.tmp 7), none⟩, []⟩,
  ⟨⟨some 21, Op.binOp BinOp.neq 3 (Operand.tmp 19) (Operand.tmp 20) 3, none⟩, []⟩]) (.cond (Operand.tmp 21) (.reg [⟨⟨some 22, Op.move (Operand.tmp 5), none⟩, []⟩,
  ⟨⟨some 23, Op.move (Operand.tmp 6), none⟩, []⟩,
  ⟨⟨some 24, Op.buildSlice 32 1 #[(0, (Operand.tmp 23))], none⟩, []⟩,
  ⟨⟨some 25, Op.call { callee := (Callee.builtin Builtin.append), args := #[(Operand.tmp 22), (Operand.tmp 24)], argTypes := #[32, 32] }, none⟩, []⟩,
  ⟨⟨some 5, Op.assign (Operand.tmp 25), none⟩, []⟩]) .skip)))) (.reg [⟨⟨some 26, Op.binOp BinOp.add 3 (Operand.tmp 11) (Operand.const (Value.int IntKind.i64 1)) 3, none⟩, []⟩,
  ⟨⟨some 11, Op.move (Operand.tmp 26), none⟩, []⟩]))))))) (.seq (.reg [⟨⟨some 27, Op.move (Operand.tmp 5), none⟩, []⟩,
  ⟨⟨some 4, Op.assign (Operand.tmp 27), none⟩, []⟩]) .ret))))
theorem sl80 : slim Try.f80.ntmps ords80 (Try.f80.body.getD .skip) = some cd80 := by kernel_rfl
theorem in80 {args : List Value} {H : AH} {R : Value → AH → Prop} (hl : args.length = 2) (h : ∀ (Q : Exit → Sl → AH → Prop), (∀ e s H, endA Try.prog [ResultVar.tmp 4] R e s H → Q e s H) → wpC Try.prog cd80 Q (enterA args) H) : ACalls Try.prog 80 args H R :=
  ACalls.intro (by kernel_rfl) Try.func80 rfl (by kernel_rfl) sl80 hl (of_decide_eq_true (by kernel_rfl)) (by kernel_rfl) h

/- loop.example/g01128/spec.l5Changed -/
def ords74 : List (Nat × List (Nat × Bool)) := [(5, [(0, false), (1, false), (2, false), (3, false), (4, false), (5, false), (6, false), (7, false), (8, false)])]
def cd74 : Cd := (.seq (.reg [⟨⟨some 4, Op.assign (Operand.const (Value.slice none 0 0)), none⟩, []⟩]) (.seq (.reg [⟨⟨some 7, Op.buildSlice 32 0 #[], none⟩, []⟩,
  ⟨⟨some 5, Op.assign (Operand.tmp 7), none⟩, []⟩]) (.seq (.seq (.reg [⟨⟨some 6, Op.assign (Operand.const (Value.int IntKind.i64 0)), none⟩, []⟩]) (.block 0 (.loop (.seq (.seq (.reg [⟨⟨some 8, Op.move (Operand.tmp 6), none⟩, []⟩,
  ⟨⟨some 9, Op.move (Operand.tmp 0), none⟩, []⟩,
  ⟨⟨some 10, Op.call { callee := (Callee.builtin Builtin.len), args := #[(Operand.tmp 9)], argTypes := #[32] }, none⟩, []⟩,
  ⟨⟨some 11, Op.binOp BinOp.lss 3 (Operand.tmp 8) (Operand.tmp 10) 3, none⟩, []⟩]) (.cond (Operand.tmp 11) .skip (.exit 0))) (.seq (.block 1 (.seq (.reg [⟨⟨some 14, Op.move (Operand.tmp 0), none⟩, []⟩,
  ⟨⟨some 15, Op.move (Operand.tmp 6), none⟩, []⟩,
  ⟨⟨some 16, Op.indexAddr 32 (Operand.tmp 14) (Operand.tmp 15), none⟩, []⟩,
  ⟨⟨some 17, Op.load 3 (Operand.tmp 16), none⟩, []⟩,
  ⟨⟨some 18, Op.move (Operand.tmp 1), none⟩, []⟩,
  ⟨⟨some 19, Op.move (Operand.tmp 6), none⟩, []⟩,
  ⟨⟨some 20, Op.indexAddr 32 (Operand.tmp 18) (Operand.tmp 19), none⟩, []⟩,
  ⟨⟨some 21, Op.load 3 (Operand.tmp 20), none⟩, []⟩,
  ⟨⟨some 22, Op.binOp BinOp.neq 3 (Operand.tmp 17) (Operand.tmp 21) 3, none⟩, []⟩]) (.cond (Operand.tmp 22) (.reg [⟨⟨some 23, Op.move (Operand.tmp 5), none⟩, []⟩,
  ⟨⟨some 24, Op.move (Operand.tmp 6), none⟩, []⟩,
  ⟨⟨some 25, Op.buildSlice 32 1 #[(0, (Operand.tmp 24))], none⟩, []⟩,
  ⟨⟨some 26, Op.call { callee := (Callee.builtin Builtin.append), args := #[(Operand.tmp 23), (Operand.tmp 25)], argTypes := #[32, 32] }, none⟩, []⟩,
  ⟨⟨some 5, Op.assign (Operand.tmp 26), none⟩, []⟩]) .skip))) (.reg [⟨⟨some 12, Op.move (Operand.tmp 6), none⟩, []⟩,
  ⟨⟨some 13, Op.binOp BinOp.add 3 (Operand.tmp 12) (Operand.const (Value.int IntKind.i64 1)) 3, none⟩, []⟩,
  ⟨⟨some 6, Op.assign (Operand.tmp 13), none⟩, []⟩])))))) (.seq (.reg [⟨⟨some 27, Op.move (Operand.tmp 5), none⟩, []⟩,
  ⟨⟨some 4, Op.assign (Operand.tmp 27), none⟩, []⟩]) .ret))))
theorem sl74 : slim Try.f74.ntmps ords74 (Try.f74.body.getD .skip) = some cd74 := by kernel_rfl
theorem in74 {args : List Value} {H : AH} {R : Value → AH → Prop} (hl : args.length = 2) (h : ∀ (Q : Exit → Sl → AH → Prop), (∀ e s H, endA Try.prog [ResultVar.tmp 4] R e s H → Q e s H) → wpC Try.prog cd74 Q (enterA args) H) : ACalls Try.prog 74 args H R :=
  ACalls.intro (by kernel_rfl) Try.func74 rfl (by kernel_rfl) sl74 hl (of_decide_eq_true (by kernel_rfl)) (by kernel_rfl) h

/- loop.example/g01128/impl.orNone -/
def ords76 : List (Nat × List (Nat × Bool)) := []
def cd76 : Cd := (.seq (.reg [⟨⟨some 1, Op.box 40 (Operand.tmp 0), none⟩, []⟩,
  ⟨⟨some 2, Op.alloc 40, none⟩, []⟩,
  ⟨⟨some 3, Op.assign (Operand.const (Value.bool false)), none⟩, []⟩]) (.seq (.seq (.reg [⟨⟨some 4, Op.fieldAddr 40 (Operand.tmp 1) 0, none⟩, []⟩,
  ⟨⟨some 5, Op.load 38 (Operand.tmp 4), none⟩, []⟩,
  ⟨⟨some 6, Op.call { callee := (Callee.builtin Builtin.len), args := #[(Operand.tmp 5)], argTypes := #[38] }, none⟩, []⟩,
  ⟨⟨some 7, Op.binOp BinOp.gtr 3 (Operand.tmp 6) (Operand.const (Value.int IntKind.i64 300)) 3, none⟩, []⟩,
  ⟨⟨some 8, Op.move (Operand.tmp 7), none⟩, []⟩,
  ⟨⟨some 9, Op.fieldAddr 40 (Operand.tmp 1) 1, some (8, false)⟩, []⟩,
  ⟨⟨some 10, Op.load 22 (Operand.tmp 9), some (8, false)⟩, []⟩,
  ⟨⟨some 11, Op.call { callee := (Callee.builtin Builtin.len), args := #[(Operand.tmp 10)], argTypes := #[22] }, some (8, false)⟩, []⟩,
  ⟨⟨some 12, Op.binOp BinOp.gtr 3 (Operand.tmp 11) (Operand.const (Value.int IntKind.i64 6000)) 3, some (8, false)⟩, []⟩,
  ⟨⟨some 13, Op.pick (Operand.tmp 8) (Operand.const (Value.bool true)) (Operand.tmp 12), none⟩, []⟩]) (.cond (Operand.tmp 13) (.seq (.reg [⟨⟨some 14, Op.build 40 #[], none⟩, []⟩,
  ⟨⟨none, Op.store 40 (Operand.tmp 2) (Operand.tmp 14), none⟩, []⟩,
  ⟨⟨some 3, Op.assign (Operand.const (Value.bool false)), none⟩, []⟩]) .ret) .skip)) (.seq (.reg [⟨⟨some 15, Op.load 40 (Operand.tmp 1), none⟩, []⟩,
  ⟨⟨none, Op.store 40 (Operand.tmp 2) (Operand.tmp 15), none⟩, []⟩,
  ⟨⟨some 3, Op.assign (Operand.const (Value.bool true)), none⟩, []⟩]) .ret)))
theorem sl76 : slim Try.f76.ntmps ords76 (Try.f76.body.getD .skip) = some cd76 := by kernel_rfl
set_option maxRecDepth 20000 in
theorem in76 {args : List Value} {H : AH} {R : Value → AH → Prop} (hl : args.length = 1) (h : ∀ (Q : Exit → Sl → AH → Prop), (∀ e s H, endA Try.prog [ResultVar.cell 2 40, ResultVar.tmp 3] R e s H → Q e s H) → wpC Try.prog cd76 Q (enterA args) H) : ACalls Try.prog 76 args H R :=
  ACalls.intro (by kernel_rfl) Try.func76 rfl (by kernel_rfl) sl76 hl (of_decide_eq_true (by kernel_rfl)) (by kernel_rfl) h

/- loop.example/g01128/spec.l9All -/
def ords73 : List (Nat × List (Nat × Bool)) := []
def cd73 : Cd := (.seq (.reg [⟨⟨some 6, Op.assign (Operand.const (Value.slice none 0 0)), none⟩, []⟩]) (.seq (.seq (.reg [⟨⟨some 8, Op.move (Operand.tmp 1), none⟩, []⟩,
  ⟨⟨some 9, Op.call { callee := (Callee.builtin Builtin.len), args := #[(Operand.tmp 8)], argTypes := #[32] }, none⟩, []⟩,
  ⟨⟨some 10, Op.move (Operand.tmp 0), none⟩, []⟩,
  ⟨⟨some 11, Op.binOp BinOp.eql 3 (Operand.tmp 9) (Operand.tmp 10) 3, none⟩, []⟩]) (.cond (Operand.tmp 11) (.seq (.reg [⟨⟨some 12, Op.move (Operand.tmp 2), none⟩, []⟩,
  ⟨⟨some 13, Op.move (Operand.tmp 1), none⟩, []⟩,
  ⟨⟨some 14, Op.call { callee := (Callee.value (Operand.func 121)), args := #[(Operand.tmp 13)], argTypes := #[32] }, none⟩, []⟩,
  ⟨⟨some 15, Op.buildSlice 38 1 #[(0, (Operand.tmp 14))], none⟩, []⟩,
  ⟨⟨some 16, Op.call { callee := (Callee.builtin Builtin.append), args := #[(Operand.tmp 12), (Operand.tmp 15)], argTypes := #[38, 38] }, none⟩, []⟩,
  ⟨⟨some 6, Op.assign (Operand.tmp 16), none⟩, []⟩]) .ret) .skip)) (.seq (.seq (.reg [⟨⟨some 7, Op.assign (Operand.const (Value.int IntKind.i64 0)), none⟩, []⟩]) (.block 0 (.loop (.seq (.seq (.reg [⟨⟨some 17, Op.move (Operand.tmp 7), none⟩, []⟩,
  ⟨⟨some 18, Op.move (Operand.tmp 0), none⟩, []⟩,
  ⟨⟨some 19, Op.binOp BinOp.lss 3 (Operand.tmp 17) (Operand.tmp 18) 3, none⟩, []⟩]) (.cond (Operand.tmp 19) .skip (.exit 0))) (.seq (.block 1 (.seq (.reg [⟨⟨some 22, Op.move (Operand.tmp 1), none⟩, []⟩,
  ⟨⟨some 23, Op.move (Operand.tmp 7), none⟩, []⟩,
  ⟨⟨some 24, Op.call { callee := (Callee.value (Operand.func 123)), args := #[(Operand.tmp 22), (Operand.tmp 23)], argTypes := #[32, 3] }, none⟩, []⟩,
  ⟨⟨some 25, Op.unOp UnOp.not 4 (Operand.tmp 24), none⟩, []⟩]) (.cond (Operand.tmp 25) (.reg [⟨⟨some 26, Op.move (Operand.tmp 0), none⟩, []⟩,
  ⟨⟨some 27, Op.move (Operand.tmp 1), none⟩, []⟩,
  ⟨⟨some 28, Op.call { callee := (Callee.value (Operand.func 121)), args := #[(Operand.tmp 27)], argTypes := #[32] }, none⟩, []⟩,
  ⟨⟨some 29, Op.move (Operand.tmp 7), none⟩, []⟩,
  ⟨⟨some 30, Op.buildSlice 32 1 #[(0, (Operand.tmp 29))], none⟩, []⟩,
  ⟨⟨some 31, Op.call { callee := (Callee.builtin Builtin.append), args := #[(Operand.tmp 28), (Operand.tmp 30)], argTypes := #[32, 32] }, none⟩, []⟩,
  ⟨⟨some 32, Op.move (Operand.tmp 2), none⟩, []⟩,
  ⟨⟨some 33, Op.call { callee := (Callee.value (Operand.func 73)), args := #[(Operand.tmp 26), (Operand.tmp 31), (Operand.tmp 32)], argTypes := #[3, 32, 38] }, none⟩, []⟩,
  ⟨⟨some 2, Op.assign (Operand.tmp 33), none⟩, []⟩]) .skip))) (.reg [⟨⟨some 20, Op.move (Operand.tmp 7), none⟩, []⟩,
  ⟨⟨some 21, Op.binOp BinOp.add 3 (Operand.tmp 20) (Operand.const (Value.int IntKind.i64 1)) 3, none⟩, []⟩,
  ⟨⟨some 7, Op.assign (Operand.tmp 21), none⟩, []⟩])))))) (.seq (.reg [⟨⟨some 34, Op.move (Operand.tmp 2), none⟩, []⟩,
  ⟨⟨some 6, Op.assign (Operand.tmp 34), none⟩, []⟩]) .ret))))
theorem sl73 : slim Try.f73.ntmps ords73 (Try.f73.body.getD .skip) = some cd73 := by kernel_rfl
theorem in73 {args : List Value} {H : AH} {R : Value → AH → Prop} (hl : args.length = 3) (h : ∀ (Q : Exit → Sl → AH → Prop), (∀ e s H, endA Try.prog [ResultVar.tmp 6] R e s H → Q e s H) → wpC Try.prog cd73 Q (enterA args) H) : ACalls Try.prog 73 args H R :=
  ACalls.intro (by kernel_rfl) Try.func73 rfl (by kernel_rfl) sl73 hl (of_decide_eq_true (by kernel_rfl)) (by kernel_rfl) h
end Go.Proofs.Ythhnpchjjbjabaa.Ai

namespace Go.Proofs.Ythhnpchjjbjabaa.Ai
open Go Go.RowKit
set_option linter.unusedVariables false
set_option linter.unusedSimpArgs false

theorem bsRow9 {H0 : AH} {v : Value} {xs : List Int} (h : Row 3 H0 v xs) (K : AH) : buildSliceA Try.prog 38 1 [(0, v)] K = some (.slice (some ⟨K.length, 0, none⟩) 1 1, K ++ [.cells [v] 32 false]) := by
  obtain ⟨q, eq⟩ := h.shape
  rw [eq]
  exact bs1 Try.underlying38 cs32 ze32 ⟨by kernel_rfl, by kernel_rfl⟩ K rfl

set_option maxRecDepth 20000 in
set_option maxHeartbeats 2000000 in
theorem places_c (v w : Value) (xs ys : List Int) (H : AH) (hr : Row 3 H v xs) (hs : Row 3 H w ys) (hlen : xs.length ≤ 1048576) (hl : ys.length = xs.length) :
    ACalls Try.prog 80 [v, w] H fun r H' => Own 3 H H' r (dfL xs ys) ∧ H <+: H' := by
  refine in80 rfl ?_
  intro Q hQ
  simp (maxSteps := 1000000) (disch := omega) only [cd80, S, S1, S2, S3, S4, S5, ST, eq_self, reduceIte, reduceCtorEq, Nat.reduceEqDiff, Nat.reduceAdd]
  generalize hA : H ++ [AObj.cells [] 3 false] = A
  have pA : H <+: A := by rw [← hA]; exact List.prefix_append _ _
  have cA : A[H.length]? = some (.cells (ints []) 3 false) := by rw [← hA]; exact at_new ..
  have own0 : Own 3 H A (.slice (some ⟨H.length, 0, none⟩) 0 0) (dfF xs ys 0) := .inr ⟨H.length, rfl, Nat.le_refl _, cA⟩
  simp (maxSteps := 1000000) (disch := omega) only [(hr.pre pA).len Try.underlying32, S, S1, S2, S3, S4, S5, ST, eq_self, reduceIte, reduceCtorEq, Nat.reduceEqDiff, Nat.reduceAdd]
  refine LoopH.by (fun m s H' => ∃ (i : Nat), m + i = xs.length ∧ s 0 = v ∧ s 1 = w ∧ s 9 = v ∧ s 10 = .int .i64 (xs.length : Int) ∧ s 11 = .int .i64 ((i : Nat) : Int) ∧ Own 3 H H' (s 5) (dfF xs ys i) ∧ H <+: H') xs.length ?_ ?_
  · refine ⟨0, ?_⟩
    simp (maxSteps := 1000000) (disch := omega) only [S, S1, S2, S3, S4, S5, ST, eq_self, reduceIte, reduceCtorEq, Nat.reduceEqDiff, Nat.reduceAdd]
    (repeat' first | exact own0 | exact pA | apply And.intro) <;> first | (simp only [Value.int.injEq, true_and]; omega) | omega | rfl | assumption | (simp; done) | (simp; omega)
  rintro m s H' ⟨i, hm, k0, k1, k9, k10, k11, ho, hp⟩
  generalize hU : s 5 = U at *
  simp (maxSteps := 1000000) (disch := omega) only [k0, k1, k9, k10, k11, hU, S, S1, S2, S3, S4, S5, ST, eq_self, reduceIte, reduceCtorEq, Nat.reduceEqDiff, Nat.reduceAdd]
  refine brD.intro (fun q => ?_) (fun q => ?_)
  · have hi : i < xs.length := by omega
    have hx := (hr.pre hp).cell hi
    have hy := (hs.pre hp).cell (show i < ys.length by omega)
    simp (maxSteps := 1000000) (disch := omega) only [k0, k1, k9, k10, k11, hU, (hr.pre hp).ix Try.underlying32 cs3, (hs.pre hp).ix Try.underlying32 cs3, Int.toNat_natCast, hx, hy, S, S1, S2, S3, S4, S5, ST, eq_self, reduceIte, reduceCtorEq, Nat.reduceEqDiff, Nat.reduceAdd]
    refine brD.intro (fun e => ?_) (fun e => ?_)
    · have hd : dfF xs ys (i + 1) = dfF xs ys i ++ [(i : Int)] := by rw [dfF, if_pos (by omega)]
      obtain ⟨U', H2, j1, j2, j3, j4, j5, j6⟩ := own1_32 ho hp (by have := dfF_len xs ys i; omega) (i : Int)
      rw [← hd] at j2
      simp (maxSteps := 1000000) (disch := omega) only [e, k0, k1, k9, k10, k11, hU, j1, wrap64, S, S1, S2, S3, S4, S5, ST, eq_self, reduceIte, reduceCtorEq, Nat.reduceEqDiff, Nat.reduceAdd]
      refine ⟨m - 1, by omega, i + 1, ?_⟩
      (repeat' first | exact j2 | exact j3 | apply And.intro) <;> first | (simp only [Value.int.injEq, true_and]; omega) | omega | rfl | assumption | (simp; done) | (simp; omega)
    · have hd : dfF xs ys (i + 1) = dfF xs ys i := by rw [dfF, if_neg (by omega), List.append_nil]
      rw [← hd] at ho
      simp (maxSteps := 1000000) (disch := omega) only [e, k0, k1, k9, k10, k11, hU, wrap64, S, S1, S2, S3, S4, S5, ST, eq_self, reduceIte, reduceCtorEq, Nat.reduceEqDiff, Nat.reduceAdd]
      refine ⟨m - 1, by omega, i + 1, ?_⟩
      (repeat' first | exact ho | exact hp | apply And.intro) <;> first | (simp only [Value.int.injEq, true_and]; omega) | omega | rfl | assumption | (simp; done) | (simp; omega)
  · simp (maxSteps := 1000000) (disch := omega) only [hU, S, S1, S2, S3, S4, S5, ST, eq_self, reduceIte, reduceCtorEq, Nat.reduceEqDiff, Nat.reduceAdd]
    refine hQ _ _ _ ?_
    simp (maxSteps := 1000000) (disch := omega) only [hU, ho.row.tup, S, S1, S2, S3, S4, S5, ST, eq_self, reduceIte, reduceCtorEq, Nat.reduceEqDiff, Nat.reduceAdd]
    have hi : i = xs.length := by omega
    subst hi
    exact ⟨ho, hp⟩

set_option maxRecDepth 20000 in
set_option maxHeartbeats 2000000 in
theorem l5Changed_c (v w : Value) (xs ys : List Int) (H : AH) (hr : Row 3 H v xs) (hs : Row 3 H w ys) (hlen : xs.length ≤ 1048576) (hl : ys.length = xs.length) :
    ACalls Try.prog 74 [v, w] H fun r H' => Own 3 H H' r (dfL xs ys) ∧ H <+: H' := by
  refine in74 rfl ?_
  intro Q hQ
  simp (maxSteps := 1000000) (disch := omega) only [cd74, S, S1, S2, S3, S4, S5, ST, eq_self, reduceIte, reduceCtorEq, Nat.reduceEqDiff, Nat.reduceAdd]
  generalize hA : H ++ [AObj.cells [] 3 false] = A
  have pA : H <+: A := by rw [← hA]; exact List.prefix_append _ _
  have cA : A[H.length]? = some (.cells (ints []) 3 false) := by rw [← hA]; exact at_new ..
  have own0 : Own 3 H A (.slice (some ⟨H.length, 0, none⟩) 0 0) (dfF xs ys 0) := .inr ⟨H.length, rfl, Nat.le_refl _, cA⟩
  refine LoopH.by (fun m s H' => ∃ (i : Nat), m + i = xs.length ∧ s 0 = v ∧ s 1 = w ∧ s 6 = .int .i64 ((i : Nat) : Int) ∧ Own 3 H H' (s 5) (dfF xs ys i) ∧ H <+: H') xs.length ?_ ?_
  · refine ⟨0, ?_⟩
    simp (maxSteps := 1000000) (disch := omega) only [S, S1, S2, S3, S4, S5, ST, eq_self, reduceIte, reduceCtorEq, Nat.reduceEqDiff, Nat.reduceAdd]
    (repeat' first | exact own0 | exact pA | apply And.intro) <;> first | (simp only [Value.int.injEq, true_and]; omega) | omega | rfl | assumption | (simp; done) | (simp; omega)
  rintro m s H' ⟨i, hm, k0, k1, k6, ho, hp⟩
  generalize hU : s 5 = U at *
  simp (maxSteps := 1000000) (disch := omega) only [k0, k1, k6, hU, (hr.pre hp).len Try.underlying32, S, S1, S2, S3, S4, S5, ST, eq_self, reduceIte, reduceCtorEq, Nat.reduceEqDiff, Nat.reduceAdd]
  refine brD.intro (fun q => ?_) (fun q => ?_)
  · have hi : i < xs.length := by omega
    have hx := (hr.pre hp).cell hi
    have hy := (hs.pre hp).cell (show i < ys.length by omega)
    simp (maxSteps := 1000000) (disch := omega) only [k0, k1, k6, hU, (hr.pre hp).ix Try.underlying32 cs3, (hs.pre hp).ix Try.underlying32 cs3, Int.toNat_natCast, hx, hy, S, S1, S2, S3, S4, S5, ST, eq_self, reduceIte, reduceCtorEq, Nat.reduceEqDiff, Nat.reduceAdd]
    refine brD.intro (fun e => ?_) (fun e => ?_)
    · have hd : dfF xs ys (i + 1) = dfF xs ys i ++ [(i : Int)] := by rw [dfF, if_pos (by omega)]
      obtain ⟨U', H2, j1, j2, j3, j4, j5, j6⟩ := own1_32 ho hp (by have := dfF_len xs ys i; omega) (i : Int)
      rw [← hd] at j2
      simp (maxSteps := 1000000) (disch := omega) only [e, k0, k1, k6, hU, j1, wrap64, S, S1, S2, S3, S4, S5, ST, eq_self, reduceIte, reduceCtorEq, Nat.reduceEqDiff, Nat.reduceAdd]
      refine ⟨m - 1, by omega, i + 1, ?_⟩
      (repeat' first | exact j2 | exact j3 | apply And.intro) <;> first | (simp only [Value.int.injEq, true_and]; omega) | omega | rfl | assumption | (simp; done) | (simp; omega)
    · have hd : dfF xs ys (i + 1) = dfF xs ys i := by rw [dfF, if_neg (by omega), List.append_nil]
      rw [← hd] at ho
      simp (maxSteps := 1000000) (disch := omega) only [e, k0, k1, k6, hU, wrap64, S, S1, S2, S3, S4, S5, ST, eq_self, reduceIte, reduceCtorEq, Nat.reduceEqDiff, Nat.reduceAdd]
      refine ⟨m - 1, by omega, i + 1, ?_⟩
      (repeat' first | exact ho | exact hp | apply And.intro) <;> first | (simp only [Value.int.injEq, true_and]; omega) | omega | rfl | assumption | (simp; done) | (simp; omega)
  · simp (maxSteps := 1000000) (disch := omega) only [hU, S, S1, S2, S3, S4, S5, ST, eq_self, reduceIte, reduceCtorEq, Nat.reduceEqDiff, Nat.reduceAdd]
    refine hQ _ _ _ ?_
    simp (maxSteps := 1000000) (disch := omega) only [hU, ho.row.tup, S, S1, S2, S3, S4, S5, ST, eq_self, reduceIte, reduceCtorEq, Nat.reduceEqDiff, Nat.reduceAdd]
    have hi : i = xs.length := by omega
    subst hi
    exact ⟨ho, hp⟩

set_option maxRecDepth 20000 in
set_option maxHeartbeats 2000000 in
theorem orNone_c (a b : Value) (ls : List (List Int)) (ps : List (Int × Int)) (H : AH) (hr : SpRow H a b ls ps) (hl : ls.length ≤ 300) (hp : ps.length ≤ 6000) :
    ACalls Try.prog 76 [.agg (List.toArray [a, b])] H fun r H' => r = .tuple (List.toArray [.agg (List.toArray [a, b]), .bool true]) ∧ H <+: H' := by
  refine in76 rfl ?_
  intro Q hQ
  simp (maxSteps := 1000000) (disch := omega) only [cd76, hr.box, S, S1, S2, S3, S4, S5, ST, eq_self, reduceIte, reduceCtorEq, Nat.reduceEqDiff, Nat.reduceAdd]
  generalize hA0 : H ++ [AObj.cells [a, b] 40 false] = A0
  have pA0 : H <+: A0 := by rw [← hA0]; exact List.prefix_append _ _
  have cA0 : A0[H.length]? = some (.cells [a, b] 40 false) := by rw [← hA0]; exact at_new ..
  simp (maxSteps := 1000000) (disch := omega) only [alloc_sp, S, S1, S2, S3, S4, S5, ST, eq_self, reduceIte, reduceCtorEq, Nat.reduceEqDiff, Nat.reduceAdd]
  generalize hA : A0 ++ [AObj.cells [.slice none 0 0, .slice none 0 0] 40 false] = A
  have pA : A0 <+: A := by rw [← hA]; exact List.prefix_append _ _
  have cA : A[A0.length]? = some (.cells [.slice none 0 0, .slice none 0 0] 40 false) := by rw [← hA]; exact at_new ..
  have cB := pre_at pA cA0
  have rA := hr.pre (pA0.trans pA)
  obtain ⟨bd, us, r1, r2, r3⟩ := rA.1
  have g1 : ¬ (300 < (us.length : Int)) := by omega
  have g2 : ¬ (6000 < (ps.length : Int)) := by omega
  have hst := rA.store cA rfl
  simp (maxSteps := 1000000) (disch := omega) only [cell_of cB, r1.len Try.underlying38, rA.2.len Try.underlying22, decide_eq_false g1, decide_eq_false g2, ld_agg ag40 cs40 cB, hst, S, S1, S2, S3, S4, S5, ST, eq_self, reduceIte, reduceCtorEq, Nat.reduceEqDiff, Nat.reduceAdd]
  have d4 := at_set (d := .cells [a, b] 40 false) cA
  refine hQ _ _ _ (end_cell2 _ _ _ _ _ _ _ (.agg (List.toArray [a, b])) (.bool true) ?_ rfl ?_ rfl ⟨rfl, ?_⟩)
  · simp (maxSteps := 1000000) (disch := omega) only [ld_agg ag40 cs40 d4, S, S1, S2, S3, S4, S5, ST, eq_self, reduceIte, reduceCtorEq, Nat.reduceEqDiff, Nat.reduceAdd]
  · simp (maxSteps := 1000000) (disch := omega) only [S, S1, S2, S3, S4, S5, ST, eq_self, reduceIte, reduceCtorEq, Nat.reduceEqDiff, Nat.reduceAdd]
  · exact pre_set (pA0.trans pA) (by have := pA0.length_le; omega) _

set_option maxRecDepth 20000 in
set_option maxHeartbeats 4000000 in
theorem l9All_c (n : Nat) (hn : n ≤ 8) (lo : Nat) : ∀ (f : Nat) (w : Value) (b : List Int) (o : Nat) (us : List Value) (ls : List (List Int)) (H : AH), b.length + f = n → Row 3 H w b →
    Apart w (.slice (some ⟨o, 0, none⟩) 0 0) → InU lo H.length 32 3 H o us ls → ls.length + n ^ f ≤ 1000000000 →
    ACalls Try.prog 73 [.int .i64 (n : Int), w, .slice (some ⟨o, 0, none⟩) ls.length ls.length] H fun r H' => ∃ o' us', r = .slice (some ⟨o', 0, none⟩) (ls ++ pmG n f b).length (ls ++ pmG n f b).length ∧ InU lo H'.length 32 3 H' o' us' (ls ++ pmG n f b) ∧
      (∀ (j : Nat) (y : AObj), j ≠ o → H[j]? = some y → H'[j]? = some y) ∧ H.length ≤ H'.length ∧ (o' = o ∨ H.length ≤ o') := by
  intro f
  induction f with
  | zero =>
    intro w b o us ls H hb hw haw hin hls
    rw [Nat.pow_zero] at hls
    refine in73 rfl ?_
    intro Q hQ
    simp (maxSteps := 1000000) (disch := omega) only [cd73, hw.len Try.underlying32, S, S1, S2, S3, S4, S5, ST, eq_self, reduceIte, reduceCtorEq, Nat.reduceEqDiff, Nat.reduceAdd]
    refine brD.intro (fun g => ?_) (fun g => absurd (show (b.length : Int) = n by omega) g)
    simp (maxSteps := 1000000) (disch := omega) only [g, S, S1, S2, S3, S4, S5, ST, eq_self, reduceIte, reduceCtorEq, Nat.reduceEqDiff, Nat.reduceAdd]
    refine CallH.by (l1Own_c w b H hw (by omega)) ?_
    rintro c C ⟨hc, pC⟩
    have hinw := InI.of hc.mine
    have hinC := hin.pre pC
    have hlo := hin.1
    have hlo2 := hin.2.1
    obtain ⟨H3, k1, k2, k3, k4⟩ := hinC.app1 (P := Try.prog) (t2 := 38) Try.underlying38 cs32 (by rw [by32]; decide) zk32 hinw (by omega) pC.length_le (Nat.le_refl _) (by omega)
    simp (maxSteps := 1000000) (disch := omega) only [bsRow9 hc.row C, k1, S, S1, S2, S3, S4, S5, ST, eq_self, reduceIte, reduceCtorEq, Nat.reduceEqDiff, Nat.reduceAdd]
    refine hQ _ _ _ ?_
    simp (maxSteps := 1000000) (disch := omega) only [S, S1, S2, S3, S4, S5, ST, eq_self, reduceIte, reduceCtorEq, Nat.reduceEqDiff, Nat.reduceAdd]
    have e : pmG n 0 b = [b] := rfl
    have hl2 := pC.length_le
    rw [e]
    refine ⟨C.length + 1, us.take ls.length ++ [c], by simp, by rw [k3]; exact k2, fun j y hj hy => k4 j y hj (pre_at pC hy), by omega, by omega⟩
  | succ f ih =>
    intro w b o us ls H hb hw haw hin hls
    refine in73 rfl ?_
    intro Q hQ
    simp (maxSteps := 1000000) (disch := omega) only [cd73, hw.len Try.underlying32, S, S1, S2, S3, S4, S5, ST, eq_self, reduceIte, reduceCtorEq, Nat.reduceEqDiff, Nat.reduceAdd]
    refine brD.intro (fun g => absurd g (by omega)) (fun g => ?_)
    simp (maxSteps := 1000000) (disch := omega) only [g, S, S1, S2, S3, S4, S5, ST, eq_self, reduceIte, reduceCtorEq, Nat.reduceEqDiff, Nat.reduceAdd]
    have eM : pmG n (f + 1) b = pmT (pmG n f) b n 0 := rfl
    rw [eM] at hQ
    rw [Nat.pow_succ, Nat.mul_comm] at hls
    have hlo := hin.1
    have hlo2 := hin.2.1
    refine LoopH.by (fun m s H' => ∃ (c o' : Nat) (us' : List Value) (ls' : List (List Int)), m + c = n ∧ s 0 = .int .i64 (n : Int) ∧ s 1 = w ∧ s 2 = .slice (some ⟨o', 0, none⟩) ls'.length ls'.length ∧ s 7 = .int .i64 ((c : Nat) : Int) ∧
      ls' ++ pmT (pmG n f) b m c = ls ++ pmT (pmG n f) b n 0 ∧ ls'.length + m * n ^ f ≤ 1000000000 ∧ InU lo H'.length 32 3 H' o' us' ls' ∧ (o' = o ∨ H.length ≤ o') ∧ (∀ (j : Nat) (y : AObj), j ≠ o → H[j]? = some y → H'[j]? = some y) ∧ H.length ≤ H'.length) n ?_ ?_
    · exact ⟨0, o, us, ls, rfl, rfl, rfl, rfl, rfl, rfl, hls, hin, .inl rfl, fun j y _ hy => hy, Nat.le_refl _⟩
    rintro m s H' ⟨c, o', us', ls', hm, h0, h1, h2, h7, hT, hl', hin', ho', hk, hAl⟩
    have hkA : Kept (.slice (some ⟨o, 0, none⟩) 0 0) H H' := fun j y hj hy => by
      rcases hj with hj | hj
      · cases hj
      · exact hk j y hj hy
    have hw' : Row 3 H' w b := hw.kept haw hkA
    simp (maxSteps := 1000000) (disch := omega) only [h0, h1, h2, h7, S, S1, S2, S3, S4, S5, ST, eq_self, reduceIte, reduceCtorEq, Nat.reduceEqDiff, Nat.reduceAdd]
    refine brD.intro (fun g1 => ?_) (fun g1 => ?_)
    rotate_left
    · simp (maxSteps := 1000000) (disch := omega) only [g1, h2, S, S1, S2, S3, S4, S5, ST, eq_self, reduceIte, reduceCtorEq, Nat.reduceEqDiff, Nat.reduceAdd]
      refine hQ _ _ _ ?_
      simp (maxSteps := 1000000) (disch := omega) only [h2, S, S1, S2, S3, S4, S5, ST, eq_self, reduceIte, reduceCtorEq, Nat.reduceEqDiff, Nat.reduceAdd]
      have hm0 : m = 0 := by omega
      subst hm0
      have e0 : ls' = ls ++ pmT (pmG n f) b n 0 := by rw [← hT]; simp [pmT]
      rw [← e0]
      exact ⟨o', us', rfl, hin', hk, hAl, ho'⟩
    obtain ⟨d, rfl⟩ : ∃ d, m = d + 1 := ⟨m - 1, by omega⟩
    have hstep : pmT (pmG n f) b (d + 1) c = (if (c : Int) ∈ b then [] else pmG n f (b ++ [(c : Int)])) ++ pmT (pmG n f) b d (c + 1) := rfl
    have hP : (d + 1) * n ^ f = d * n ^ f + n ^ f := Nat.succ_mul _ _
    simp (maxSteps := 1000000) (disch := omega) only [g1, h0, h1, h2, h7, S, S1, S2, S3, S4, S5, ST, eq_self, reduceIte, reduceCtorEq, Nat.reduceEqDiff, Nat.reduceAdd]
    refine CallH.by (l1Has_c w b (c : Int) H' hw' (by omega)) ?_
    rintro _ _ ⟨rfl, rfl⟩
    by_cases q : (c : Int) ∈ b
    · rw [if_pos q, List.nil_append] at hstep
      rw [hstep] at hT
      have f2 : ls'.length + d * n ^ f ≤ 1000000000 := by omega
      simp (maxSteps := 1000000) (disch := omega) only [decide_eq_true q, h0, h1, h2, h7, wrap64, S, S1, S2, S3, S4, S5, ST, eq_self, reduceIte, reduceCtorEq, Nat.reduceEqDiff, Nat.reduceAdd]
      refine ⟨d, by omega, c + 1, o', us', ls', ?_⟩
      (repeat' first | exact hT | exact f2 | exact hin' | exact ho' | exact hk | exact hAl | apply And.intro) <;> first | (simp only [Value.int.injEq, true_and]; omega) | omega | rfl | assumption | (simp; done) | (simp; omega)
    · rw [if_neg q] at hstep
      rw [hstep] at hT
      simp (maxSteps := 1000000) (disch := omega) only [decide_eq_false q, h0, h1, h2, h7, S, S1, S2, S3, S4, S5, ST, eq_self, reduceIte, reduceCtorEq, Nat.reduceEqDiff, Nat.reduceAdd]
      refine CallH.by (l1Own_c w b H' hw' (by omega)) ?_
      rintro w1 C ⟨hc, pC⟩
      obtain ⟨v', H2, j1, j2, j3, j4, j5, j6⟩ := own1_32 hc pC (by omega) (c : Int)
      have lH2 := j3.length_le
      have hinH := (hin'.pre j3).wide (Nat.le_refl _) lH2
      have ho1 := hin'.2.1
      have hap1 : Apart v' (.slice (some ⟨o', 0, none⟩) 0 0) := by
        rcases InI.of j2.mine with q1 | ⟨oo, zs, q1, q2, _⟩
        · exact .inr (.inl q1.1)
        · refine .inr (.inr ?_)
          rw [q1]
          show oo ≠ o'
          omega
      have hrec := ih v' (b ++ [(c : Int)]) o' us' ls' H2 (by simp; omega) j2.row hap1 hinH (by omega)
      simp (maxSteps := 1000000) (disch := omega) only [h0, h1, h2, h7, j1, S, S1, S2, S3, S4, S5, ST, eq_self, reduceIte, reduceCtorEq, Nat.reduceEqDiff, Nat.reduceAdd]
      refine CallH.by hrec ?_
      rintro _ H3 ⟨o2, us2, rfl, i1, i2, i3, i4⟩
      have hml := pmG_len n f (b ++ [(c : Int)])
      have f1 : o2 = o ∨ H.length ≤ o2 := by omega
      have f2 : ∀ (j : Nat) (y : AObj), j ≠ o → H[j]? = some y → H3[j]? = some y := fun j y hj hy => by
        refine i2 j y ?_ (pre_at j3 (hk j y hj hy))
        rcases ho' with q1 | q1
        · rw [q1]; exact hj
        · have := at_lt hy; omega
      have f3 : (ls' ++ pmG n f (b ++ [(c : Int)])).length + d * n ^ f ≤ 1000000000 := by rw [List.length_append]; omega
      have f4 : (ls' ++ pmG n f (b ++ [(c : Int)])) ++ pmT (pmG n f) b d (c + 1) = ls ++ pmT (pmG n f) b n 0 := by rw [← hT, List.append_assoc]
      have f5 : H.length ≤ H3.length := by omega
      simp (maxSteps := 1000000) (disch := omega) only [h0, h1, h2, h7, wrap64, S, S1, S2, S3, S4, S5, ST, eq_self, reduceIte, reduceCtorEq, Nat.reduceEqDiff, Nat.reduceAdd]
      refine ⟨d, by omega, c + 1, o2, us2, ls' ++ pmG n f (b ++ [(c : Int)]), ?_⟩
      (repeat' first | exact f4 | exact f3 | exact i1 | exact f1 | exact f2 | exact f5 | apply And.intro) <;> first | (simp only [Value.int.injEq, true_and]; omega) | omega | rfl | assumption | (simp; done) | (simp; omega)
end Go.Proofs.Ythhnpchjjbjabaa.Ai
