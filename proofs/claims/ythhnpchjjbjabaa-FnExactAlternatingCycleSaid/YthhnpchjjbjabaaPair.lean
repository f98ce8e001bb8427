/- Pairs of ints as one value (impl.pair). -/
import Derived.Test.YthhnpchjjbjabaaTy
import Derived.Test.YthhnpchjjbjabaaArr
import Derived.Test.YthhnpchjjbjabaaProg
import Derived.Test.YthhnpchjjbjabaaAiM2
import Derived.KernelRfl
/- Slim code of this translation. By the kernel. -/
namespace Go.Proofs.Ythhnpchjjbjabaa.Ai
open Go

/- loop.example/g01128/impl.pair -/
def ords130 : List (Nat × List (Nat × Bool)) := []
def cd130 : Cd := (.seq (.reg [⟨⟨some 4, Op.alloc 76, none⟩, []⟩]) (.seq (.reg [⟨⟨some 5, Op.move (Operand.tmp 0), none⟩, []⟩,
  ⟨⟨some 6, Op.move (Operand.tmp 1), none⟩, []⟩,
  ⟨⟨some 7, Op.call { callee := (Callee.builtin Builtin.min), args := #[(Operand.tmp 5), (Operand.tmp 6)], argTypes := #[3, 3] }, none⟩, []⟩,
  ⟨⟨some 8, Op.move (Operand.tmp 0), none⟩, []⟩,
  ⟨⟨some 9, Op.move (Operand.tmp 1), none⟩, []⟩,
  ⟨⟨some 10, Op.call { callee := (Callee.builtin Builtin.max), args := #[(Operand.tmp 8), (Operand.tmp 9)], argTypes := #[3, 3] }, none⟩, []⟩,
  ⟨⟨some 11, Op.build 76 #[(0, (Operand.tmp 7)), (1, (Operand.tmp 10))], none⟩, []⟩,
  ⟨⟨none, Op.store 76 (Operand.tmp 4) (Operand.tmp 11), none⟩, []⟩]) .ret))
theorem sl130 : slim Try.f130.ntmps ords130 (Try.f130.body.getD .skip) = some cd130 := by kernel_rfl
set_option maxRecDepth 20000 in
theorem in130 {args : List Value} {H : AH} {R : Value → AH → Prop} (hl : args.length = 2) (h : ∀ (Q : Exit → Sl → AH → Prop), (∀ e s H, endA Try.prog [ResultVar.cell 4 76] R e s H → Q e s H) → wpC Try.prog cd130 Q (enterA args) H) : ACalls Try.prog 130 args H R :=
  ACalls.intro (by kernel_rfl) Try.func130 rfl (by kernel_rfl) sl130 hl (of_decide_eq_true (by kernel_rfl)) (by kernel_rfl) h
end Go.Proofs.Ythhnpchjjbjabaa.Ai

namespace Go.Proofs.Ythhnpchjjbjabaa.Ai
open Go Go.RowKit
set_option linter.unusedVariables false
set_option linter.unusedSimpArgs false

theorem pair_c (a b : Int) (H : AH) : ACalls Try.prog 130 [.int .i64 a, .int .i64 b] H fun r H' => r = .agg (List.toArray [.int .i64 (minI a b), .int .i64 (maxI a b)]) ∧ H <+: H' := by
  refine in130 rfl ?_
  intro Q hQ
  have st := store_a2 H [.int .i64 0, .int .i64 0] rfl
  simp (maxSteps := 1000000) (disch := omega) only [cd130, alloc_a2, build_a2, st, S, S1, S2, S3, S4, S5, ST, eq_self, reduceIte, reduceCtorEq, Nat.reduceEqDiff, Nat.reduceAdd]
  refine hQ _ _ _ (end_cell _ _ _ _ _ _ (.agg (List.toArray [.int .i64 (minI a b), .int .i64 (maxI a b)])) ?_ rfl ⟨rfl, List.prefix_append _ _⟩)
  simp only [S, S1, S2, S3, S4, S5, ST, eq_self, reduceIte, reduceCtorEq, Nat.reduceEqDiff, Nat.reduceAdd]
  exact load_a2 ..

end Go.Proofs.Ythhnpchjjbjabaa.Ai
