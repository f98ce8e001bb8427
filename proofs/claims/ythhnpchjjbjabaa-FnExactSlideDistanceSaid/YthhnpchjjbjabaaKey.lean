/- Boards as numbers, both sides (impl.key, home; spec.l9Code, l9Many, l9Home). -/
import Derived.Test.YthhnpchjjbjabaaBrdP
import Derived.Test.YthhnpchjjbjabaaMapK
import Derived.Test.YthhnpchjjbjabaaProg
import Derived.Test.YthhnpchjjbjabaaAiM2
import Derived.KernelRfl
/- Slim code of this translation. By the kernel. -/
namespace Go.Proofs.Ythhnpchjjbjabaa.Ai
open Go

/- loop.example/g01128/impl.key -/
def ords86 : List (Nat × List (Nat × Bool)) := []
def cd86 : Cd := (.seq (.reg [⟨⟨some 2, Op.assign (Operand.const (Value.int IntKind.i64 0)), none⟩, []⟩]) (.seq (.reg [⟨⟨some 3, Op.assign (Operand.const (Value.int IntKind.i64 1)), none⟩, []⟩]) (.seq (.seq (.reg [⟨⟨some 6, Op.move (Operand.tmp 0), none⟩, []⟩,
  ⟨⟨some 7, Op.call { callee := (Callee.builtin Builtin.len), args := #[(Operand.tmp 6)], argTypes := #[32] }, none⟩, []⟩,
  ⟨⟨some 8, Op.move (Operand.const (Value.int IntKind.i64 0)), none⟩, []⟩]) (.block 0 (.loop (.seq (.reg [⟨⟨some 9, Op.binOp BinOp.lss 3 (Operand.tmp 8) (Operand.tmp 7) 3, none⟩, []⟩]) (.seq (.cond (Operand.tmp 9) .skip (.exit 0)) (.seq (.block 1 (.seq (.reg [⟨⟨some 10, Op.indexAddr 32 (Operand.tmp 6) (Operand.tmp 8), none⟩, []⟩,
  ⟨⟨some 11, Op.load 3 (Operand.tmp 10), none⟩, []⟩,
  ⟨⟨some 5, Op.assign (Operand.tmp 11), none⟩, []⟩]) (.reg [⟨⟨some 12, Op.move (Operand.tmp 3), none⟩, []⟩,
  ⟨⟨some 13, Op.binOp BinOp.mul 3 (Operand.const (Value.int IntKind.i64 10)) (Operand.tmp 12) 3, none⟩, []⟩,
  ⟨⟨some 14, Op.move (Operand.tmp 5), none⟩, []⟩,
  ⟨⟨some 15, Op.binOp BinOp.add 3 (Operand.tmp 13) (Operand.tmp 14) 3, none⟩, []⟩,
  ⟨⟨some 3, Op.assign (Operand.tmp 15), none⟩, []⟩]))) (.reg [⟨⟨some 16, Op.binOp BinOp.add 3 (Operand.tmp 8) (Operand.const (Value.int IntKind.i64 1)) 3, none⟩, []⟩,
  ⟨⟨some 8, Op.move (Operand.tmp 16), none⟩, []⟩]))))))) (.seq (.reg [⟨⟨some 17, Op.move (Operand.tmp 3), none⟩, []⟩,
  ⟨⟨some 2, Op.assign (Operand.tmp 17), none⟩, []⟩]) .ret))))
theorem sl86 : slim Try.f86.ntmps ords86 (Try.f86.body.getD .skip) = some cd86 := by kernel_rfl
theorem in86 {args : List Value} {H : AH} {R : Value → AH → Prop} (hl : args.length = 1) (h : ∀ (Q : Exit → Sl → AH → Prop), (∀ e s H, endA Try.prog [ResultVar.tmp 2] R e s H → Q e s H) → wpC Try.prog cd86 Q (enterA args) H) : ACalls Try.prog 86 args H R :=
  ACalls.intro (by kernel_rfl) Try.func86 rfl (by kernel_rfl) sl86 hl (of_decide_eq_true (by kernel_rfl)) (by kernel_rfl) h

/- loop.example/g01128/spec.l9Code -/
def ords68 : List (Nat × List (Nat × Bool)) := [(9, [(0, false), (1, false), (2, false), (3, false), (4, false), (5, false), (6, false), (7, false), (8, false)])]
def cd68 : Cd := (.seq (.reg [⟨⟨some 2, Op.assign (Operand.const (Value.int IntKind.i64 0)), none⟩, []⟩]) (.seq (.reg [⟨⟨some 3, Op.assign (Operand.const (Value.int IntKind.i64 0)), none⟩, []⟩]) (.seq (.seq (.reg [⟨⟨some 4, Op.assign (Operand.const (Value.int IntKind.i64 0)), none⟩, []⟩]) (.block 0 (.loop (.seq (.seq (.reg [⟨⟨some 7, Op.move (Operand.tmp 4), none⟩, []⟩,
  ⟨⟨some 8, Op.move (Operand.tmp 0), none⟩, []⟩,
  ⟨⟨some 9, Op.call { callee := (Callee.builtin Builtin.len), args := #[(Operand.tmp 8)], argTypes := #[32] }, none⟩, []⟩,
  ⟨⟨some 10, Op.binOp BinOp.lss 3 (Operand.tmp 7) (Operand.tmp 9) 3, none⟩, []⟩]) (.cond (Operand.tmp 10) .skip (.exit 0))) (.seq (.block 1 (.seq (.reg [⟨⟨some 5, Op.assign (Operand.const (Value.int IntKind.i64 0)), none⟩, []⟩]) (.seq (.seq (.reg [⟨⟨some 13, Op.move (Operand.tmp 4), none⟩, []⟩,
  ⟨⟨some 14, Op.binOp BinOp.add 3 (Operand.tmp 13) (Operand.const (Value.int IntKind.i64 1)) 3, none⟩, []⟩,
  ⟨⟨some 6, Op.assign (Operand.tmp 14), none⟩, []⟩]) (.block 2 (.loop (.seq (.seq (.reg [⟨⟨some 15, Op.move (Operand.tmp 6), none⟩, []⟩,
  ⟨⟨some 16, Op.move (Operand.tmp 0), none⟩, []⟩,
  ⟨⟨some 17, Op.call { callee := (Callee.builtin Builtin.len), args := #[(Operand.tmp 16)], argTypes := #[32] }, none⟩, []⟩,
  ⟨⟨some 18, Op.binOp BinOp.lss 3 (Operand.tmp 15) (Operand.tmp 17) 3, none⟩, []⟩]) (.cond (Operand.tmp 18) .skip (.exit 2))) (.seq (.block 3 (.seq (.reg [⟨⟨some 21, Op.move (Operand.tmp 0), none⟩, []⟩,
  ⟨⟨some 22, Op.move (Operand.tmp 6), none⟩, []⟩,
  ⟨⟨some 23, Op.indexAddr 32 (Operand.tmp 21) (Operand.tmp 22), none⟩, []⟩,
  ⟨⟨some 24, Op.load 3 (Operand.tmp 23), none⟩, []⟩,
  ⟨⟨some 25, Op.move (Operand.tmp 0), none⟩, []⟩,
  ⟨⟨some 26, Op.move (Operand.tmp 4), none⟩, []⟩,
  ⟨⟨some 27, Op.indexAddr 32 (Operand.tmp 25) (Operand.tmp 26), none⟩, []⟩,
  ⟨⟨some 28, Op.load 3 (Operand.tmp 27), none⟩, []⟩,
  ⟨⟨some 29, Op.binOp BinOp.lss 3 (Operand.tmp 24) (Operand.tmp 28) 3, none⟩, []⟩]) (.cond (Operand.tmp 29) (.reg [⟨⟨some 30, Op.move (Operand.tmp 5), none⟩, []⟩,
  ⟨⟨some 31, Op.binOp BinOp.add 3 (Operand.tmp 30) (Operand.const (Value.int IntKind.i64 1)) 3, none⟩, []⟩,
  ⟨⟨some 5, Op.assign (Operand.tmp 31), none⟩, []⟩]) .skip))) (.reg [⟨⟨some 19, Op.move (Operand.tmp 6), none⟩, []⟩,
  ⟨⟨some 20, Op.binOp BinOp.add 3 (Operand.tmp 19) (Operand.const (Value.int IntKind.i64 1)) 3, none⟩, []⟩,
  ⟨⟨some 6, Op.assign (Operand.tmp 20), none⟩, []⟩])))))) (.reg [⟨⟨some 32, Op.move (Operand.tmp 3), none⟩, []⟩,
  ⟨⟨some 33, Op.move (Operand.tmp 0), none⟩, []⟩,
  ⟨⟨some 34, Op.call { callee := (Callee.builtin Builtin.len), args := #[(Operand.tmp 33)], argTypes := #[32] }, none⟩, []⟩,
  ⟨⟨some 35, Op.move (Operand.tmp 4), none⟩, []⟩,
  ⟨⟨some 36, Op.binOp BinOp.sub 3 (Operand.tmp 34) (Operand.tmp 35) 3, none⟩, []⟩,
  ⟨⟨some 37, Op.binOp BinOp.mul 3 (Operand.tmp 32) (Operand.tmp 36) 3, none⟩, []⟩,
  ⟨⟨some 38, Op.move (Operand.tmp 5), none⟩, []⟩,
  ⟨⟨some 39, Op.binOp BinOp.add 3 (Operand.tmp 37) (Operand.tmp 38) 3, none⟩, []⟩,
  ⟨⟨some 3, Op.assign (Operand.tmp 39), none⟩, []⟩])))) (.reg [⟨⟨some 11, Op.move (Operand.tmp 4), none⟩, []⟩,
  ⟨⟨some 12, Op.binOp BinOp.add 3 (Operand.tmp 11) (Operand.const (Value.int IntKind.i64 1)) 3, none⟩, []⟩,
  ⟨⟨some 4, Op.assign (Operand.tmp 12), none⟩, []⟩])))))) (.seq (.reg [⟨⟨some 40, Op.move (Operand.tmp 3), none⟩, []⟩,
  ⟨⟨some 2, Op.assign (Operand.tmp 40), none⟩, []⟩]) .ret))))
theorem sl68 : slim Try.f68.ntmps ords68 (Try.f68.body.getD .skip) = some cd68 := by kernel_rfl
theorem in68 {args : List Value} {H : AH} {R : Value → AH → Prop} (hl : args.length = 1) (h : ∀ (Q : Exit → Sl → AH → Prop), (∀ e s H, endA Try.prog [ResultVar.tmp 2] R e s H → Q e s H) → wpC Try.prog cd68 Q (enterA args) H) : ACalls Try.prog 68 args H R :=
  ACalls.intro (by kernel_rfl) Try.func68 rfl (by kernel_rfl) sl68 hl (of_decide_eq_true (by kernel_rfl)) (by kernel_rfl) h

/- loop.example/g01128/spec.l9Many -/
def ords88 : List (Nat × List (Nat × Bool)) := []
def cd88 : Cd := (.seq (.reg [⟨⟨some 2, Op.assign (Operand.const (Value.int IntKind.i64 0)), none⟩, []⟩]) (.seq (.reg [⟨⟨some 3, Op.assign (Operand.const (Value.int IntKind.i64 1)), none⟩, []⟩]) (.seq (.seq (.reg [⟨⟨some 4, Op.assign (Operand.const (Value.int IntKind.i64 2)), none⟩, []⟩]) (.block 0 (.loop (.seq (.seq (.reg [⟨⟨some 5, Op.move (Operand.tmp 4), none⟩, []⟩,
  ⟨⟨some 6, Op.move (Operand.tmp 0), none⟩, []⟩,
  ⟨⟨some 7, Op.binOp BinOp.leq 3 (Operand.tmp 5) (Operand.tmp 6) 3, none⟩, []⟩]) (.cond (Operand.tmp 7) .skip (.exit 0))) (.seq (.block 1 (.reg [⟨⟨some 10, Op.move (Operand.tmp 3), none⟩, []⟩,
  ⟨⟨some 11, Op.move (Operand.tmp 4), none⟩, []⟩,
  ⟨⟨some 12, Op.binOp BinOp.mul 3 (Operand.tmp 10) (Operand.tmp 11) 3, none⟩, []⟩,
  ⟨⟨some 3, Op.assign (Operand.tmp 12), none⟩, []⟩])) (.reg [⟨⟨some 8, Op.move (Operand.tmp 4), none⟩, []⟩,
  ⟨⟨some 9, Op.binOp BinOp.add 3 (Operand.tmp 8) (Operand.const (Value.int IntKind.i64 1)) 3, none⟩, []⟩,
  ⟨⟨some 4, Op.assign (Operand.tmp 9), none⟩, []⟩])))))) (.seq (.reg [⟨⟨some 13, Op.move (Operand.tmp 3), none⟩, []⟩,
  ⟨⟨some 2, Op.assign (Operand.tmp 13), none⟩, []⟩]) .ret))))
theorem sl88 : slim Try.f88.ntmps ords88 (Try.f88.body.getD .skip) = some cd88 := by kernel_rfl
theorem in88 {args : List Value} {H : AH} {R : Value → AH → Prop} (hl : args.length = 1) (h : ∀ (Q : Exit → Sl → AH → Prop), (∀ e s H, endA Try.prog [ResultVar.tmp 2] R e s H → Q e s H) → wpC Try.prog cd88 Q (enterA args) H) : ACalls Try.prog 88 args H R :=
  ACalls.intro (by kernel_rfl) Try.func88 rfl (by kernel_rfl) sl88 hl (of_decide_eq_true (by kernel_rfl)) (by kernel_rfl) h

/- loop.example/g01128/impl.home -/
def ords84 : List (Nat × List (Nat × Bool)) := []
def cd84 : Cd := (.seq (.reg [⟨⟨some 2, Op.assign (Operand.const (Value.slice none 0 0)), none⟩, []⟩]) (.seq (.reg [⟨⟨some 5, Op.buildSlice 32 0 #[], none⟩, []⟩,
  ⟨⟨some 3, Op.assign (Operand.tmp 5), none⟩, []⟩]) (.seq (.seq (.reg [⟨⟨some 6, Op.move (Operand.tmp 0), none⟩, []⟩,
  ⟨⟨some 7, Op.move (Operand.const (Value.int IntKind.i64 0)), none⟩, []⟩]) (.block 0 (.loop (.seq (.reg [⟨⟨some 8, Op.binOp BinOp.lss 3 (Operand.tmp 7) (Operand.tmp 6) 3, none⟩, []⟩]) (.seq (.cond (Operand.tmp 8) .skip (.exit 0)) (.seq (.block 1 (.seq (.reg [⟨⟨some 9, Op.move (Operand.tmp 7), none⟩, []⟩,
  ⟨⟨some 4, Op.assign (Operand.tmp 9), none⟩, []⟩]) (.reg [⟨⟨some 10, Op.move (Operand.tmp 3), none⟩, []⟩,
  ⟨⟨some 11, Op.move (Operand.tmp 4), none⟩, []⟩,
  ⟨⟨some 12, Op.buildSlice 32 1 #[(0, (Operand.tmp 11))], none⟩, []⟩,
  ⟨⟨some 13, Op.call { callee := (Callee.builtin Builtin.append), args := #[(Operand.tmp 10), (Operand.tmp 12)], argTypes := #[32, 32] }, none⟩, []⟩,
  ⟨⟨some 3, Op.assign (Operand.tmp 13), none⟩, []⟩]))) (.reg [⟨⟨some 14, Op.binOp BinOp.add 3 (Operand.tmp 7) (Operand.const (Value.int IntKind.i64 1)) 3, none⟩, []⟩,
  ⟨⟨some 7, Op.move (Operand.tmp 14), none⟩, []⟩]))))))) (.seq (.reg [⟨⟨some 15, Op.move (Operand.tmp 3), none⟩, []⟩,
  ⟨⟨some 2, Op.assign (Operand.tmp 15), none⟩, []⟩]) .ret))))
theorem sl84 : slim Try.f84.ntmps ords84 (Try.f84.body.getD .skip) = some cd84 := by kernel_rfl
theorem in84 {args : List Value} {H : AH} {R : Value → AH → Prop} (hl : args.length = 1) (h : ∀ (Q : Exit → Sl → AH → Prop), (∀ e s H, endA Try.prog [ResultVar.tmp 2] R e s H → Q e s H) → wpC Try.prog cd84 Q (enterA args) H) : ACalls Try.prog 84 args H R :=
  ACalls.intro (by kernel_rfl) Try.func84 rfl (by kernel_rfl) sl84 hl (of_decide_eq_true (by kernel_rfl)) (by kernel_rfl) h
end Go.Proofs.Ythhnpchjjbjabaa.Ai

namespace Go.Proofs.Ythhnpchjjbjabaa.Ai
open Go Go.RowKit
set_option linter.unusedVariables false
set_option linter.unusedSimpArgs false

theorem keyF_step (p : List Int) (i : Nat) (hi : i < p.length) (a : Int) : keyF a (p.drop i) = keyF (10 * a + p.getD i 0) (p.drop (i + 1)) := by
  rw [List.drop_eq_getElem_cons hi]
  have : p.getD i 0 = p[i] := by simp [hi]
  rw [this]; rfl
theorem ten_le {i : Nat} (h : i ≤ 8) : (10 : Int) ^ i ≤ 100000000 := by
  have : i = 0 ∨ i = 1 ∨ i = 2 ∨ i = 3 ∨ i = 4 ∨ i = 5 ∨ i = 6 ∨ i = 7 ∨ i = 8 := by omega
  rcases this with rfl | rfl | rfl | rfl | rfl | rfl | rfl | rfl | rfl <;> decide

set_option maxHeartbeats 1000000 in
theorem key_c (v : Value) (p : List Int) (H : AH) (hr : Row 3 H v p) (hp : Prm p) : ACalls Try.prog 86 [v] H fun r H' => r = .int .i64 (keyL p) ∧ H = H' := by
  have h8 := hp.1
  have hrg := prm_rng hp
  refine in86 rfl ?_
  intro Q hQ
  simp (maxSteps := 1000000) (disch := omega) only [cd86, hr.len Try.underlying32, S, S1, S2, S3, S4, S5, ST, eq_self, reduceIte, reduceCtorEq, Nat.reduceEqDiff, Nat.reduceAdd]
  refine LoopH.by (fun m s H' => ∃ (i : Nat) (a : Int), m + i = p.length ∧ s 6 = v ∧ s 3 = .int .i64 a ∧ s 7 = .int .i64 (p.length : Int) ∧ s 8 = .int .i64 ((i : Nat) : Int) ∧ keyF a (p.drop i) = keyL p ∧ 0 ≤ a ∧ a < 2 * 10 ^ i ∧ H = H') p.length ?_ ?_
  · exact ⟨0, 1, by simp, rfl, rfl, rfl, rfl, rfl, by decide, by decide, rfl⟩
  rintro m s H' ⟨i, a, hm, h0, h3, h7, h8', hk, ha, hb, rfl⟩
  simp (maxSteps := 1000000) (disch := omega) only [h0, h3, h7, h8', S, S1, S2, S3, S4, S5, ST, eq_self, reduceIte, reduceCtorEq, Nat.reduceEqDiff, Nat.reduceAdd]
  refine brD.intro (fun g => ?_) (fun g => ?_)
  · have hi : i < p.length := by omega
    have hx := hrg (p.getD i 0) (by simp [hi])
    rw [keyF_step p i hi] at hk
    have ht := ten_le (i := i) (by omega)
    have hpw : (10 : Int) ^ (i + 1) = 10 * 10 ^ i := by rw [Int.pow_succ]; omega
    have f2 : 10 * a + p.getD i 0 < 2 * 10 ^ (i + 1) := by omega
    simp (maxSteps := 1000000) (disch := omega) only [h0, h3, h7, h8', hr.ix Try.underlying32 cs3, hr.cell, Int.toNat_natCast, wrap64, S, S1, S2, S3, S4, S5, ST, eq_self, reduceIte, reduceCtorEq, Nat.reduceEqDiff, Nat.reduceAdd]
    refine ⟨m - 1, by omega, i + 1, 10 * a + p.getD i 0, ?_⟩
    (repeat' apply And.intro) <;> first | exact hk | exact f2 | (simp only [Value.int.injEq, true_and]; omega) | omega | rfl | assumption | (simp; done) | (simp; omega)
  · simp (maxSteps := 1000000) (disch := omega) only [h3, S, S1, S2, S3, S4, S5, ST, eq_self, reduceIte, reduceCtorEq, Nat.reduceEqDiff, Nat.reduceAdd]
    refine hQ _ _ _ ?_
    simp (maxSteps := 1000000) (disch := omega) only [h3, S, S1, S2, S3, S4, S5, ST, eq_self, reduceIte, reduceCtorEq, Nat.reduceEqDiff, Nat.reduceAdd]
    rw [List.drop_of_length_le (by omega)] at hk
    rw [← hk]; rfl

theorem nine_le {i : Nat} (h : i ≤ 8) : (9 : Int) ^ i ≤ 43046721 := by
  have : i = 0 ∨ i = 1 ∨ i = 2 ∨ i = 3 ∨ i = 4 ∨ i = 5 ∨ i = 6 ∨ i = 7 ∨ i = 8 := by omega
  rcases this with rfl | rfl | rfl | rfl | rfl | rfl | rfl | rfl | rfl <;> decide
theorem cdF_step (p : List Int) (i : Nat) (hi : i < p.length) (c : Int) : cdF c (p.drop i) = cdF (c * ((p.length : Int) - (i : Int)) + (((p.drop (i + 1)).countP fun y => decide (y < p.getD i 0) : Nat) : Int)) (p.drop (i + 1)) := by
  rw [List.drop_eq_getElem_cons hi]
  have e1 : p.getD i 0 = p[i] := by simp [hi]
  have e2 : (((p.drop (i + 1)).length : Nat) : Int) + 1 = (p.length : Int) - (i : Int) := by simp; omega
  rw [e1, ← e2]; rfl
theorem countP_take (q : Int → Bool) (l : List Int) (j : Nat) (hj : j < l.length) : (l.take (j + 1)).countP q = (l.take j).countP q + if q (l.getD j 0) = true then 1 else 0 := by
  rw [List.take_add_one, List.getElem?_eq_getElem hj, List.countP_append]
  have : l.getD j 0 = l[j] := by simp [hj]
  rw [this]
  simp [List.countP_cons]

set_option maxHeartbeats 2000000 in
theorem l9Code_c (v : Value) (p : List Int) (H : AH) (hr : Row 3 H v p) (hl : p.length ≤ 8) : ACalls Try.prog 68 [v] H fun r H' => r = .int .i64 (cod p) ∧ H = H' := by
  refine in68 rfl ?_
  intro Q hQ
  simp (maxSteps := 1000000) (disch := omega) only [cd68, S, S1, S2, S3, S4, S5, ST, eq_self, reduceIte, reduceCtorEq, Nat.reduceEqDiff, Nat.reduceAdd]
  refine LoopH.by (fun m s H' => ∃ (i : Nat) (c : Int), m + i = p.length ∧ s 0 = v ∧ s 3 = .int .i64 c ∧ s 4 = .int .i64 ((i : Nat) : Int) ∧ cdF c (p.drop i) = cod p ∧ 0 ≤ c ∧ c < 9 ^ i ∧ H = H') p.length ?_ ?_
  · exact ⟨0, 0, by simp, rfl, rfl, rfl, rfl, by decide, by decide, rfl⟩
  rintro m s H' ⟨i, c, hm, h0, h3, h4, hk, ha, hb, rfl⟩
  simp (maxSteps := 1000000) (disch := omega) only [h0, h3, h4, hr.len Try.underlying32, S, S1, S2, S3, S4, S5, ST, eq_self, reduceIte, reduceCtorEq, Nat.reduceEqDiff, Nat.reduceAdd]
  refine brD.intro (fun g => ?_) (fun g => ?_)
  rotate_left
  · simp (maxSteps := 1000000) (disch := omega) only [h3, S, S1, S2, S3, S4, S5, ST, eq_self, reduceIte, reduceCtorEq, Nat.reduceEqDiff, Nat.reduceAdd]
    refine hQ _ _ _ ?_
    simp (maxSteps := 1000000) (disch := omega) only [h3, S, S1, S2, S3, S4, S5, ST, eq_self, reduceIte, reduceCtorEq, Nat.reduceEqDiff, Nat.reduceAdd]
    rw [List.drop_of_length_le (by omega)] at hk
    rw [← hk]; rfl
  have hi : i < p.length := by omega
  rw [cdF_step p i hi] at hk
  have ht := nine_le (i := i) (by omega)
  have hpw : (9 : Int) ^ (i + 1) = 9 * 9 ^ i := by rw [Int.pow_succ]; omega
  have hdl : (p.drop (i + 1)).length = p.length - (i + 1) := by simp
  simp (maxSteps := 1000000) (disch := omega) only [h0, h3, h4, wrap64, S, S1, S2, S3, S4, S5, ST, eq_self, reduceIte, reduceCtorEq, Nat.reduceEqDiff, Nat.reduceAdd]
  refine LoopH.by (fun m' s' H' => ∃ j : Nat, m' + j = p.length - (i + 1) ∧ s' 0 = v ∧ s' 3 = .int .i64 c ∧ s' 4 = .int .i64 ((i : Nat) : Int) ∧ s' 5 = .int .i64 (((((p.drop (i + 1)).take j).countP fun y => decide (y < p.getD i 0) : Nat)) : Int) ∧ s' 6 = .int .i64 ((i + 1 + j : Nat) : Int) ∧ H = H') (p.length - (i + 1)) ?_ ?_
  · refine ⟨0, by omega, ?_⟩
    simp (maxSteps := 1000000) (disch := omega) only [h0, h3, h4, S, S1, S2, S3, S4, S5, ST, eq_self, reduceIte, reduceCtorEq, Nat.reduceEqDiff, Nat.reduceAdd]
    (repeat' apply And.intro) <;> first | (simp only [Value.int.injEq, true_and]; omega) | omega | rfl | assumption | (simp; done) | (simp; omega)
  rintro m' s' H' ⟨j, hm', k0, k3, k4, k5, k6, rfl⟩
  have hcl : ((p.drop (i + 1)).take j).countP (fun y => decide (y < p.getD i 0)) ≤ j := Nat.le_trans List.countP_le_length (by simp; omega)
  simp (maxSteps := 1000000) (disch := omega) only [k0, k3, k4, k5, k6, hr.len Try.underlying32, S, S1, S2, S3, S4, S5, ST, eq_self, reduceIte, reduceCtorEq, Nat.reduceEqDiff, Nat.reduceAdd]
  refine brD.intro (fun q => ?_) (fun q => ?_)
  · have hj : j < (p.drop (i + 1)).length := by omega
    have hst := countP_take (fun y => decide (y < p.getD i 0)) (p.drop (i + 1)) j hj
    have hge : (p.drop (i + 1)).getD j 0 = p.getD (i + 1 + j) 0 := by
      rw [List.getD_eq_getElem?_getD, List.getElem?_drop, ← List.getD_eq_getElem?_getD]
    rw [hge] at hst
    simp (maxSteps := 1000000) (disch := omega) only [k0, k3, k4, k5, k6, hr.ix Try.underlying32 cs3, hr.cell, Int.toNat_natCast, S, S1, S2, S3, S4, S5, ST, eq_self, reduceIte, reduceCtorEq, Nat.reduceEqDiff, Nat.reduceAdd]
    have e6 : ((i + 1 + j : Nat) : Int) + 1 = ((i + 1 + (j + 1) : Nat) : Int) := by omega
    refine brD.intro (fun e => ?_) (fun e => ?_)
    · rw [if_pos (decide_eq_true e)] at hst
      simp (maxSteps := 1000000) (disch := omega) only [k0, k3, k4, k5, k6, wrap64, S, S1, S2, S3, S4, S5, ST, eq_self, reduceIte, reduceCtorEq, Nat.reduceEqDiff, Nat.reduceAdd]
      refine ⟨m' - 1, by omega, j + 1, ?_⟩
      rw [hst]
      (repeat' apply And.intro) <;> first | (simp only [Value.int.injEq, true_and]; omega) | omega | rfl | assumption | (simp; done) | (simp; omega)
    · rw [if_neg (by simpa using e)] at hst
      simp (maxSteps := 1000000) (disch := omega) only [k0, k3, k4, k5, k6, wrap64, S, S1, S2, S3, S4, S5, ST, eq_self, reduceIte, reduceCtorEq, Nat.reduceEqDiff, Nat.reduceAdd]
      refine ⟨m' - 1, by omega, j + 1, ?_⟩
      rw [hst]
      (repeat' apply And.intro) <;> first | (simp only [Value.int.injEq, true_and]; omega) | omega | rfl | assumption | (simp; done) | (simp; omega)
  · have hj : j = p.length - (i + 1) := by omega
    subst hj
    rw [List.take_of_length_le (by simp)] at k5 hcl
    generalize hct : (p.drop (i + 1)).countP (fun y => decide (y < p.getD i 0)) = ct at *
    have hm1 : c * ((p.length : Int) - (i : Int)) ≤ c * 8 := Int.mul_le_mul_of_nonneg_left (by omega) ha
    have hm0 : 0 ≤ c * ((p.length : Int) - (i : Int)) := Int.mul_nonneg ha (by omega)
    generalize hcm : c * ((p.length : Int) - (i : Int)) = cm at *
    have e1 : IntKind.i64.wrap ((p.length : Int) - (i : Int)) = (p.length : Int) - (i : Int) := wrap64 (by omega) (by omega)
    simp (maxSteps := 1000000) (disch := omega) only [k0, k3, k4, k5, k6, hr.len Try.underlying32, e1, hcm, wrap64, S, S1, S2, S3, S4, S5, ST, eq_self, reduceIte, reduceCtorEq, Nat.reduceEqDiff, Nat.reduceAdd]
    have f2 : cm + (ct : Int) < 9 ^ (i + 1) := by omega
    refine ⟨m - 1, by omega, i + 1, cm + ct, ?_⟩
    (repeat' apply And.intro) <;> first | exact hk | exact f2 | (simp only [Value.int.injEq, true_and]; omega) | omega | rfl | assumption | (simp; done) | (simp; omega)

theorem mny_le8 {n : Nat} (hn : n ≤ 8) : 1 ≤ mny n ∧ mny n ≤ 40320 := by
  have : n = 0 ∨ n = 1 ∨ n = 2 ∨ n = 3 ∨ n = 4 ∨ n = 5 ∨ n = 6 ∨ n = 7 ∨ n = 8 := by omega
  rcases this with rfl | rfl | rfl | rfl | rfl | rfl | rfl | rfl | rfl <;> decide
set_option maxHeartbeats 1000000 in
theorem l9Many_c (n : Nat) (H : AH) (hn : n ≤ 8) : ACalls Try.prog 88 [.int .i64 (n : Int)] H fun r H' => r = .int .i64 (mny n : Int) ∧ H = H' := by
  refine in88 rfl ?_
  intro Q hQ
  simp (maxSteps := 1000000) (disch := omega) only [cd88, S, S1, S2, S3, S4, S5, ST, eq_self, reduceIte, reduceCtorEq, Nat.reduceEqDiff, Nat.reduceAdd]
  refine LoopH.by (fun m s H' => ∃ i, m + i = n + 1 ∧ s 0 = .int .i64 (n : Int) ∧ s 3 = .int .i64 (mny i : Int) ∧ s 4 = .int .i64 ((i : Nat) + 1 : Int) ∧ 1 ≤ i ∧ (i ≤ n ∨ (i = 1 ∧ n = 0)) ∧ H = H') n ?_ ?_
  · exact ⟨1, by omega, rfl, rfl, rfl, by omega, by omega, rfl⟩
  rintro m s H' ⟨i, hm, h0, h3, h4, h1, hi, rfl⟩
  simp (maxSteps := 1000000) (disch := omega) only [h0, h3, h4, S, S1, S2, S3, S4, S5, ST, eq_self, reduceIte, reduceCtorEq, Nat.reduceEqDiff, Nat.reduceAdd]
  refine brD.intro (fun g => ?_) (fun g => ?_)
  · have hb := mny_le8 (n := i) (by omega)
    have hb2 := mny_le8 (n := i + 1) (by omega)
    have e : (mny i : Int) * ((i : Int) + 1) = ((mny (i + 1) : Nat) : Int) := by
      show _ = ((mny i * (i + 1) : Nat) : Int)
      rw [Int.natCast_mul]; rfl
    simp (maxSteps := 1000000) (disch := omega) only [h0, h3, h4, e, wrap64, S, S1, S2, S3, S4, S5, ST, eq_self, reduceIte, reduceCtorEq, Nat.reduceEqDiff, Nat.reduceAdd]
    refine ⟨m - 1, by omega, i + 1, ?_⟩
    (repeat' apply And.intro) <;> first | (simp only [Value.int.injEq, true_and]; omega) | omega | rfl | assumption | (simp; done) | (simp; omega)
  · simp (maxSteps := 1000000) (disch := omega) only [h3, S, S1, S2, S3, S4, S5, ST, eq_self, reduceIte, reduceCtorEq, Nat.reduceEqDiff, Nat.reduceAdd]
    refine hQ _ _ _ ?_
    simp (maxSteps := 1000000) (disch := omega) only [h3, S, S1, S2, S3, S4, S5, ST, eq_self, reduceIte, reduceCtorEq, Nat.reduceEqDiff, Nat.reduceAdd]
    rcases hi with hi | ⟨rfl, rfl⟩
    · have : i = n := by omega
      rw [this]
    · rfl

/-- all tokens at home -/
def hom (n : Nat) : List Int := (List.range n).map fun z : Nat => (z : Int)
theorem hom_len (n : Nat) : (hom n).length = n := by simp [hom]
theorem hom_succ (n : Nat) : hom (n + 1) = hom n ++ [(n : Int)] := by
  unfold hom; rw [List.range_succ, List.map_append]; rfl
theorem hom_prm {n : Nat} (hn : n ≤ 8) : Prm (hom n) := by
  refine ⟨by rw [hom_len]; exact hn, fun x hx => ?_⟩
  rw [hom_len] at hx
  exact List.mem_map.2 ⟨x, List.mem_range.2 hx, rfl⟩
set_option maxHeartbeats 1000000 in
theorem home_c (n : Nat) (H : AH) (hn : n ≤ 8) : ACalls Try.prog 84 [.int .i64 (n : Int)] H fun r H' => Own 3 H H' r (hom n) ∧ H <+: H' := by
  refine in84 rfl ?_
  intro Q hQ
  simp (maxSteps := 1000000) (disch := omega) only [cd84, S, S1, S2, S3, S4, S5, ST, eq_self, reduceIte, reduceCtorEq, Nat.reduceEqDiff, Nat.reduceAdd]
  refine LoopH.by (fun m s H' => ∃ i, m + i = n ∧ s 6 = .int .i64 (n : Int) ∧ s 7 = .int .i64 ((i : Nat) : Int) ∧ Own 3 H H' (s 3) (hom i) ∧ H <+: H') n ?_ ?_
  · exact ⟨0, by simp, rfl, rfl, .inr ⟨H.length, rfl, Nat.le_refl _, at_new ..⟩, List.prefix_append _ _⟩
  rintro m s H' ⟨i, hm, h0, h7, ho, hp⟩
  have hl := hom_len i
  generalize hw : s 3 = w at *
  simp (maxSteps := 1000000) (disch := omega) only [h0, h7, hw, S, S1, S2, S3, S4, S5, ST, eq_self, reduceIte, reduceCtorEq, Nat.reduceEqDiff, Nat.reduceAdd]
  refine brD.intro (fun g => ?_) (fun g => ?_)
  · have hi : i < n := by omega
    obtain ⟨w', H2, k1, k2, k3, k4, k5, k6⟩ := own1_32 ho hp (by omega) (i : Int)
    rw [← hom_succ] at k2
    simp (maxSteps := 1000000) (disch := omega) only [h0, h7, hw, k1, wrap64, S, S1, S2, S3, S4, S5, ST, eq_self, reduceIte, reduceCtorEq, Nat.reduceEqDiff, Nat.reduceAdd]
    refine ⟨m - 1, by omega, i + 1, ?_⟩
    (repeat' apply And.intro) <;> first | exact k2 | exact k3 | (simp only [Value.int.injEq, true_and]; omega) | omega | rfl | assumption | (simp; done) | (simp; omega)
  · simp (maxSteps := 1000000) (disch := omega) only [hw, S, S1, S2, S3, S4, S5, ST, eq_self, reduceIte, reduceCtorEq, Nat.reduceEqDiff, Nat.reduceAdd]
    refine hQ _ _ _ ?_
    simp (maxSteps := 1000000) (disch := omega) only [hw, ho.row.tup, S, S1, S2, S3, S4, S5, ST, eq_self, reduceIte, reduceCtorEq, Nat.reduceEqDiff, Nat.reduceAdd]
    have : i = n := by omega
    subst this
    exact ⟨ho, hp⟩
end Go.Proofs.Ythhnpchjjbjabaa.Ai
