/- All numbers below one (spec.l2Bits). -/
import Derived.Test.YthhnpchjjbjabaaTy
import Derived.Test.YthhnpchjjbjabaaProg
import Derived.Test.YthhnpchjjbjabaaAiM2
import Derived.KernelRfl
/- Slim code of this translation. By the kernel. -/
namespace Go.Proofs.Ythhnpchjjbjabaa.Ai
open Go

/- loop.example/g01128/spec.l2Bits -/
def ords108 : List (Nat × List (Nat × Bool)) := []
def cd108 : Cd := (.seq (.reg [⟨⟨some 4, Op.assign (Operand.const (Value.slice none 0 0)), none⟩, []⟩]) (.seq (.reg [⟨⟨some 7, Op.buildSlice 32 0 #[], none⟩, []⟩,
  ⟨⟨some 5, Op.assign (Operand.tmp 7), none⟩, []⟩]) (.seq (.seq (.reg [⟨⟨some 6, Op.assign (Operand.const (Value.int IntKind.i64 0)), none⟩, []⟩]) (.block 0 (.loop (.seq (.seq (.reg [⟨⟨some 8, Op.move (Operand.tmp 6), none⟩, []⟩,
  ⟨⟨some 9, Op.move (Operand.tmp 0), none⟩, []⟩,
  ⟨⟨some 10, Op.binOp BinOp.lss 3 (Operand.tmp 8) (Operand.tmp 9) 3, none⟩, []⟩]) (.cond (Operand.tmp 10) .skip (.exit 0))) (.seq (.block 1 (.seq (.reg [⟨⟨some 13, Op.move (Operand.tmp 1), none⟩, []⟩,
  ⟨⟨some 14, Op.move (Operand.tmp 6), none⟩, []⟩,
  ⟨⟨some 15, Op.binOp BinOp.shr 3 (Operand.tmp 13) (Operand.tmp 14) 3, none⟩, []⟩,
  ⟨⟨some 16, Op.binOp BinOp.and 3 (Operand.tmp 15) (Operand.const (Value.int IntKind.i64 1)) 3, none⟩, []⟩,
  ⟨⟨some 17, Op.binOp BinOp.eql 3 (Operand.tmp 16) (Operand.const (Value.int IntKind.i64 1)) 3, none⟩, []⟩]) (.cond (Operand.tmp 17) (.reg [⟨⟨some 18, Op.move (Operand.tmp 5), none⟩, []⟩,
  ⟨⟨some 19, Op.move (Operand.tmp 6), none⟩, []⟩,
  ⟨⟨some 20, Op.buildSlice 32 1 #[(0, (Operand.tmp 19))], none⟩, []⟩,
  ⟨⟨some 21, Op.call { callee := (Callee.builtin Builtin.append), args := #[(Operand.tmp 18), (Operand.tmp 20)], argTypes := #[32, 32] }, none⟩, []⟩,
  ⟨⟨some 5, Op.assign (Operand.tmp 21), none⟩, []⟩]) .skip))) (.reg [⟨⟨some 11, Op.move (Operand.tmp 6), none⟩, []⟩,
  ⟨⟨some 12, Op.binOp BinOp.add 3 (Operand.tmp 11) (Operand.const (Value.int IntKind.i64 1)) 3, none⟩, []⟩,
  ⟨⟨some 6, Op.assign (Operand.tmp 12), none⟩, []⟩])))))) (.seq (.reg [⟨⟨some 22, Op.move (Operand.tmp 5), none⟩, []⟩,
  ⟨⟨some 4, Op.assign (Operand.tmp 22), none⟩, []⟩]) .ret))))
theorem sl108 : slim Try.f108.ntmps ords108 (Try.f108.body.getD .skip) = some cd108 := by kernel_rfl
theorem in108 {args : List Value} {H : AH} {R : Value → AH → Prop} (hl : args.length = 2) (h : ∀ (Q : Exit → Sl → AH → Prop), (∀ e s H, endA Try.prog [ResultVar.tmp 4] R e s H → Q e s H) → wpC Try.prog cd108 Q (enterA args) H) : ACalls Try.prog 108 args H R :=
  ACalls.intro (by kernel_rfl) Try.func108 rfl (by kernel_rfl) sl108 hl (of_decide_eq_true (by kernel_rfl)) (by kernel_rfl) h
end Go.Proofs.Ythhnpchjjbjabaa.Ai

namespace Go.Proofs.Ythhnpchjjbjabaa.Ai
open Go Go.RowKit
set_option linter.unusedVariables false
set_option linter.unusedSimpArgs false

/-- all numbers below one -/
def alls (n : Nat) : List Int := (List.range n).map fun z : Nat => (z : Int)
theorem alls_len (n : Nat) : (alls n).length = n := by simp [alls]
theorem alls_mem (n : Nat) (z : Int) : z ∈ alls n ↔ 0 ≤ z ∧ z < n := by
  unfold alls
  rw [List.mem_map]
  constructor
  · rintro ⟨a, ha, rfl⟩
    have := List.mem_range.1 ha
    omega
  · rintro ⟨h1, h2⟩
    exact ⟨z.toNat, List.mem_range.2 (by omega), by omega⟩
theorem alls_srt (n : Nat) : (alls n).Pairwise (· < ·) := by
  unfold alls
  refine List.Pairwise.map _ ?_ List.pairwise_lt_range
  intro a b hab
  omega
theorem alls_succ (n : Nat) : alls (n + 1) = alls n ++ [(n : Int)] := by
  unfold alls; rw [List.range_succ, List.map_append]; rfl
theorem shl1 (P : Program) (t : TypeId) (n : Nat) (h : n ≤ 8) : binA P .shl t (.int .i64 1) (.int .i64 (n : Int)) = some (.int .i64 ((2 ^ n : Nat) : Int)) := by
  have : n = 0 ∨ n = 1 ∨ n = 2 ∨ n = 3 ∨ n = 4 ∨ n = 5 ∨ n = 6 ∨ n = 7 ∨ n = 8 := by omega
  rcases this with rfl | rfl | rfl | rfl | rfl | rfl | rfl | rfl | rfl <;> rfl
def bitOk (n x : Nat) : Bool := decide (((((2 ^ n - 1 : Nat) : Int).fdiv (2 ^ (min (x : Int).toNat 64))) = ((2 ^ n - 1) / 2 ^ x : Nat)) ∧ (((2 ^ n - 1) / 2 ^ x : Nat) &&& 1 = 1))
theorem bits1 (P : Program) (t : TypeId) (n x : Nat) (h : n ≤ 8) (hx : x < n) : ∃ z, binA P .shr t (.int .i64 (((2 ^ n : Nat) : Int) - 1)) (.int .i64 (x : Int)) = some (.int .i64 z) ∧ binA P .and t (.int .i64 z) (.int .i64 1) = some (.int .i64 1) := by
  have : n = 1 ∨ n = 2 ∨ n = 3 ∨ n = 4 ∨ n = 5 ∨ n = 6 ∨ n = 7 ∨ n = 8 := by omega
  have hx8 : x = 0 ∨ x = 1 ∨ x = 2 ∨ x = 3 ∨ x = 4 ∨ x = 5 ∨ x = 6 ∨ x = 7 := by omega
  rcases this with rfl | rfl | rfl | rfl | rfl | rfl | rfl | rfl <;> rcases hx8 with rfl | rfl | rfl | rfl | rfl | rfl | rfl | rfl <;> first | exact ⟨_, rfl, rfl⟩ | exact absurd hx (by decide)

set_option maxRecDepth 20000 in
set_option maxHeartbeats 1000000 in
theorem l2Bits_c (n : Nat) (c : Int) (H : AH) (hn : n ≤ 8) (hc : c = ((2 ^ n : Nat) : Int) - 1) :
    ACalls Try.prog 108 [.int .i64 (n : Int), .int .i64 c] H fun r H' => Own 3 H H' r (alls n) ∧ H <+: H' := by
  refine in108 rfl ?_
  intro Q hQ
  subst hc
  simp (maxSteps := 1000000) (disch := omega) only [cd108, S, S1, S2, S3, S4, S5, ST, eq_self, reduceIte, reduceCtorEq, Nat.reduceEqDiff, Nat.reduceAdd]
  refine LoopH.by (fun m s H' => ∃ i, m + i = n ∧ s 0 = .int .i64 (n : Int) ∧ s 1 = .int .i64 (((2 ^ n : Nat) : Int) - 1) ∧ s 6 = .int .i64 ((i : Nat) : Int) ∧ Own 3 H H' (s 5) (alls i) ∧ H <+: H') n ?_ ?_
  · exact ⟨0, by simp, rfl, rfl, rfl, .inr ⟨H.length, rfl, Nat.le_refl _, at_new ..⟩, List.prefix_append _ _⟩
  · rintro m s H' ⟨i, hm, h0, h1, h6, ho, hp⟩
    have hl := alls_len i
    generalize hw : s 5 = w at *
    simp (maxSteps := 1000000) (disch := omega) only [h0, h1, h6, hw, S, S1, S2, S3, S4, S5, ST, eq_self, reduceIte, reduceCtorEq, Nat.reduceEqDiff, Nat.reduceAdd]
    refine brD.intro (fun g => ?_) (fun g => ?_)
    · have hi : i < n := by omega
      obtain ⟨z, z1, z2⟩ := bits1 Try.prog 3 n i hn hi
      simp (maxSteps := 1000000) (disch := omega) only [h0, h1, h6, hw, z1, z2, S, S1, S2, S3, S4, S5, ST, eq_self, reduceIte, reduceCtorEq, Nat.reduceEqDiff, Nat.reduceAdd]
      obtain ⟨w', H2, k1, k2, k3, k4, k5, k6⟩ := own1_32 ho hp (by omega) (i : Int)
      simp (maxSteps := 1000000) (disch := omega) only [h0, h1, h6, hw, k1, wrap64, S, S1, S2, S3, S4, S5, ST, eq_self, reduceIte, reduceCtorEq, Nat.reduceEqDiff, Nat.reduceAdd]
      rw [← alls_succ] at k2
      refine ⟨m - 1, by omega, i + 1, ?_⟩
      (repeat' first | exact k2 | exact k3 | apply And.intro) <;> first | (simp only [Value.int.injEq, true_and]; omega) | omega | rfl | assumption | (simp; done) | (simp; omega)
    · simp (maxSteps := 1000000) (disch := omega) only [hw, S, S1, S2, S3, S4, S5, ST, eq_self, reduceIte, reduceCtorEq, Nat.reduceEqDiff, Nat.reduceAdd]
      refine hQ _ _ _ ?_
      simp (maxSteps := 1000000) (disch := omega) only [hw, ho.row.tup, S, S1, S2, S3, S4, S5, ST, eq_self, reduceIte, reduceCtorEq, Nat.reduceEqDiff, Nat.reduceAdd]
      have : i = n := by omega
      subst this
      exact ⟨ho, hp⟩
end Go.Proofs.Ythhnpchjjbjabaa.Ai
