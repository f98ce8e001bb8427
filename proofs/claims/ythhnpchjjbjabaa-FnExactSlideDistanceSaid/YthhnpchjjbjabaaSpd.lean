/- The distances of all boards from one (spec.l9Spread, l9Home, l9Told). -/
import Derived.Test.YthhnpchjjbjabaaMvs
import Derived.Test.YthhnpchjjbjabaaBits
import Derived.Test.YthhnpchjjbjabaaProg
import Derived.Test.YthhnpchjjbjabaaAiM2
import Derived.KernelRfl
/- Slim code of this translation. By the kernel. -/
namespace Go.Proofs.Ythhnpchjjbjabaa.Ai
open Go

/- loop.example/g01128/spec.l1Most -/
def ords120 : List (Nat × List (Nat × Bool)) := []
def cd120 : Cd := (.seq (.reg [⟨⟨some 4, Op.assign (Operand.const (Value.int IntKind.i64 0)), none⟩, []⟩]) (.seq (.seq (.reg [⟨⟨some 5, Op.move (Operand.tmp 0), none⟩, []⟩,
  ⟨⟨some 6, Op.move (Operand.tmp 1), none⟩, []⟩,
  ⟨⟨some 7, Op.binOp BinOp.gtr 3 (Operand.tmp 5) (Operand.tmp 6) 3, none⟩, []⟩]) (.cond (Operand.tmp 7) (.seq (.reg [⟨⟨some 8, Op.move (Operand.tmp 0), none⟩, []⟩,
  ⟨⟨some 4, Op.assign (Operand.tmp 8), none⟩, []⟩]) .ret) .skip)) (.seq (.reg [⟨⟨some 9, Op.move (Operand.tmp 1), none⟩, []⟩,
  ⟨⟨some 4, Op.assign (Operand.tmp 9), none⟩, []⟩]) .ret)))
theorem sl120 : slim Try.f120.ntmps ords120 (Try.f120.body.getD .skip) = some cd120 := by kernel_rfl
theorem in120 {args : List Value} {H : AH} {R : Value → AH → Prop} (hl : args.length = 2) (h : ∀ (Q : Exit → Sl → AH → Prop), (∀ e s H, endA Try.prog [ResultVar.tmp 4] R e s H → Q e s H) → wpC Try.prog cd120 Q (enterA args) H) : ACalls Try.prog 120 args H R :=
  ACalls.intro (by kernel_rfl) Try.func120 rfl (by kernel_rfl) sl120 hl (of_decide_eq_true (by kernel_rfl)) (by kernel_rfl) h

/- loop.example/g01128/spec.l9Spread -/
def ords66 : List (Nat × List (Nat × Bool)) := [(11, [(0, false), (1, false), (2, false), (3, false), (4, false), (5, false), (6, true), (7, false), (8, false), (9, false), (10, false), (11, false)]), (16, [(0, false), (1, false), (2, false), (3, false), (4, false), (6, false), (7, false), (8, false), (9, false), (10, false), (5, true), (11, true), (12, false), (13, false), (14, false), (15, false), (16, true)])]
def cd66 : Cd := (.seq (.reg [⟨⟨some 3, Op.box 28 (Operand.tmp 0), none⟩, []⟩,
  ⟨⟨some 6, Op.assign (Operand.const (Value.slice none 0 0)), none⟩, []⟩]) (.seq (.reg [⟨⟨some 14, Op.move (Operand.tmp 1), none⟩, []⟩,
  ⟨⟨some 15, Op.call { callee := (Callee.builtin Builtin.len), args := #[(Operand.tmp 14)], argTypes := #[32] }, none⟩, []⟩,
  ⟨⟨some 16, Op.call { callee := (Callee.value (Operand.func 88)), args := #[(Operand.tmp 15)], argTypes := #[3] }, none⟩, []⟩,
  ⟨⟨some 17, Op.makeSlice 32 (Operand.tmp 16) (Operand.tmp 16), none⟩, []⟩,
  ⟨⟨some 7, Op.assign (Operand.tmp 17), none⟩, []⟩]) (.seq (.seq (.reg [⟨⟨some 8, Op.assign (Operand.const (Value.int IntKind.i64 0)), none⟩, []⟩]) (.block 0 (.loop (.seq (.seq (.reg [⟨⟨some 18, Op.move (Operand.tmp 8), none⟩, []⟩,
  ⟨⟨some 19, Op.move (Operand.tmp 7), none⟩, []⟩,
  ⟨⟨some 20, Op.call { callee := (Callee.builtin Builtin.len), args := #[(Operand.tmp 19)], argTypes := #[32] }, none⟩, []⟩,
  ⟨⟨some 21, Op.binOp BinOp.lss 3 (Operand.tmp 18) (Operand.tmp 20) 3, none⟩, []⟩]) (.cond (Operand.tmp 21) .skip (.exit 0))) (.seq (.block 1 (.reg [⟨⟨some 24, Op.move (Operand.tmp 7), none⟩, []⟩,
  ⟨⟨some 25, Op.move (Operand.tmp 8), none⟩, []⟩,
  ⟨⟨some 26, Op.indexAddr 32 (Operand.tmp 24) (Operand.tmp 25), none⟩, []⟩,
  ⟨⟨none, Op.store 3 (Operand.tmp 26) (Operand.const (Value.int IntKind.i64 (-1))), none⟩, []⟩])) (.reg [⟨⟨some 22, Op.move (Operand.tmp 8), none⟩, []⟩,
  ⟨⟨some 23, Op.binOp BinOp.add 3 (Operand.tmp 22) (Operand.const (Value.int IntKind.i64 1)) 3, none⟩, []⟩,
  ⟨⟨some 8, Op.assign (Operand.tmp 23), none⟩, []⟩])))))) (.seq (.reg [⟨⟨some 27, Op.move (Operand.tmp 7), none⟩, []⟩,
  ⟨⟨some 28, Op.move (Operand.tmp 1), none⟩, []⟩,
  ⟨⟨some 29, Op.call { callee := (Callee.value (Operand.func 68)), args := #[(Operand.tmp 28)], argTypes := #[32] }, none⟩, []⟩,
  ⟨⟨some 30, Op.indexAddr 32 (Operand.tmp 27) (Operand.tmp 29), none⟩, []⟩,
  ⟨⟨none, Op.store 3 (Operand.tmp 30) (Operand.const (Value.int IntKind.i64 0)), none⟩, []⟩]) (.seq (.reg [⟨⟨some 31, Op.move (Operand.tmp 1), none⟩, []⟩,
  ⟨⟨some 32, Op.call { callee := (Callee.value (Operand.func 121)), args := #[(Operand.tmp 31)], argTypes := #[32] }, none⟩, []⟩,
  ⟨⟨some 33, Op.buildSlice 38 1 #[(0, (Operand.tmp 32))], none⟩, []⟩,
  ⟨⟨some 9, Op.assign (Operand.tmp 33), none⟩, []⟩]) (.seq (.seq (.reg [⟨⟨some 10, Op.assign (Operand.const (Value.int IntKind.i64 0)), none⟩, []⟩]) (.block 2 (.loop (.seq (.seq (.reg [⟨⟨some 34, Op.move (Operand.tmp 10), none⟩, []⟩,
  ⟨⟨some 35, Op.move (Operand.tmp 9), none⟩, []⟩,
  ⟨⟨some 36, Op.call { callee := (Callee.builtin Builtin.len), args := #[(Operand.tmp 35)], argTypes := #[38] }, none⟩, []⟩,
  ⟨⟨some 37, Op.binOp BinOp.lss 3 (Operand.tmp 34) (Operand.tmp 36) 3, none⟩, []⟩]) (.cond (Operand.tmp 37) .skip (.exit 2))) (.seq (.block 3 (.seq (.reg [⟨⟨some 41, Op.load 28 (Operand.tmp 3), none⟩, []⟩,
  ⟨⟨some 42, Op.move (Operand.tmp 9), none⟩, []⟩,
  ⟨⟨some 43, Op.move (Operand.tmp 10), none⟩, []⟩,
  ⟨⟨some 44, Op.indexAddr 38 (Operand.tmp 42) (Operand.tmp 43), none⟩, []⟩,
  ⟨⟨some 45, Op.load 32 (Operand.tmp 44), none⟩, []⟩,
  ⟨⟨some 46, Op.move (Operand.tmp 2), none⟩, []⟩,
  ⟨⟨some 47, Op.call { callee := (Callee.value (Operand.func 122)), args := #[(Operand.tmp 41), (Operand.tmp 45), (Operand.tmp 46)], argTypes := #[28, 32, 4] }, none⟩, []⟩,
  ⟨⟨some 40, Op.move (Operand.tmp 47), none⟩, []⟩,
  ⟨⟨some 48, Op.extract (Operand.tmp 40) 0, none⟩, []⟩,
  ⟨⟨some 49, Op.extract (Operand.tmp 40) 1, none⟩, []⟩,
  ⟨⟨some 11, Op.assign (Operand.tmp 48), none⟩, []⟩,
  ⟨⟨some 12, Op.assign (Operand.tmp 49), none⟩, []⟩]) (.seq (.reg [⟨⟨some 13, Op.assign (Operand.const (Value.int IntKind.i64 0)), none⟩, []⟩]) (.block 4 (.loop (.seq (.seq (.reg [⟨⟨some 50, Op.move (Operand.tmp 13), none⟩, []⟩,
  ⟨⟨some 51, Op.move (Operand.tmp 11), none⟩, []⟩,
  ⟨⟨some 52, Op.call { callee := (Callee.builtin Builtin.len), args := #[(Operand.tmp 51)], argTypes := #[38] }, none⟩, []⟩,
  ⟨⟨some 53, Op.binOp BinOp.lss 3 (Operand.tmp 50) (Operand.tmp 52) 3, none⟩, []⟩]) (.cond (Operand.tmp 53) .skip (.exit 4))) (.seq (.block 5 (.seq (.reg [⟨⟨some 56, Op.move (Operand.tmp 7), none⟩, []⟩,
  ⟨⟨some 57, Op.move (Operand.tmp 11), none⟩, []⟩,
  ⟨⟨some 58, Op.move (Operand.tmp 13), none⟩, []⟩,
  ⟨⟨some 59, Op.indexAddr 38 (Operand.tmp 57) (Operand.tmp 58), none⟩, []⟩,
  ⟨⟨some 60, Op.load 32 (Operand.tmp 59), none⟩, []⟩,
  ⟨⟨some 61, Op.call { callee := (Callee.value (Operand.func 68)), args := #[(Operand.tmp 60)], argTypes := #[32] }, none⟩, []⟩,
  ⟨⟨some 62, Op.indexAddr 32 (Operand.tmp 56) (Operand.tmp 61), none⟩, []⟩,
  ⟨⟨some 63, Op.load 3 (Operand.tmp 62), none⟩, []⟩,
  ⟨⟨some 64, Op.binOp BinOp.lss 3 (Operand.tmp 63) (Operand.const (Value.int IntKind.i64 0)) 3, none⟩, []⟩]) (.cond (Operand.tmp 64) (.seq (.reg [⟨⟨some 65, Op.move (Operand.tmp 7), none⟩, []⟩,
  ⟨⟨some 66, Op.move (Operand.tmp 11), none⟩, []⟩,
  ⟨⟨some 67, Op.move (Operand.tmp 13), none⟩, []⟩,
  ⟨⟨some 68, Op.indexAddr 38 (Operand.tmp 66) (Operand.tmp 67), none⟩, []⟩,
  ⟨⟨some 69, Op.load 32 (Operand.tmp 68), none⟩, []⟩,
  ⟨⟨some 71, Op.move (Operand.tmp 7), none⟩, []⟩,
  ⟨⟨some 72, Op.move (Operand.tmp 9), none⟩, []⟩,
  ⟨⟨some 73, Op.move (Operand.tmp 10), none⟩, []⟩,
  ⟨⟨some 74, Op.indexAddr 38 (Operand.tmp 72) (Operand.tmp 73), none⟩, []⟩,
  ⟨⟨some 75, Op.load 32 (Operand.tmp 74), none⟩, []⟩,
  ⟨⟨some 70, Op.call { callee := (Callee.value (Operand.func 68)), args := #[(Operand.tmp 69)], argTypes := #[32] }, none⟩, [⟨some 75, Op.load 32 (Operand.tmp 74), none⟩]⟩,
  ⟨⟨some 76, Op.call { callee := (Callee.value (Operand.func 68)), args := #[(Operand.tmp 75)], argTypes := #[32] }, none⟩, []⟩,
  ⟨⟨some 77, Op.indexAddr 32 (Operand.tmp 71) (Operand.tmp 76), none⟩, []⟩,
  ⟨⟨some 78, Op.load 3 (Operand.tmp 77), none⟩, []⟩,
  ⟨⟨some 79, Op.binOp BinOp.add 3 (Operand.tmp 78) (Operand.const (Value.int IntKind.i64 1)) 3, none⟩, []⟩,
  ⟨⟨some 80, Op.indexAddr 32 (Operand.tmp 65) (Operand.tmp 70), none⟩, []⟩,
  ⟨⟨none, Op.store 3 (Operand.tmp 80) (Operand.tmp 79), none⟩, []⟩]) (.reg [⟨⟨some 81, Op.move (Operand.tmp 9), none⟩, []⟩,
  ⟨⟨some 82, Op.move (Operand.tmp 11), none⟩, []⟩,
  ⟨⟨some 83, Op.move (Operand.tmp 13), none⟩, []⟩,
  ⟨⟨some 84, Op.indexAddr 38 (Operand.tmp 82) (Operand.tmp 83), none⟩, []⟩,
  ⟨⟨some 85, Op.load 32 (Operand.tmp 84), none⟩, []⟩,
  ⟨⟨some 86, Op.buildSlice 38 1 #[(0, (Operand.tmp 85))], none⟩, []⟩,
  ⟨⟨some 87, Op.call { callee := (Callee.builtin Builtin.append), args := #[(Operand.tmp 81), (Operand.tmp 86)], argTypes := #[38, 38] }, none⟩, []⟩,
  ⟨⟨some 9, Op.assign (Operand.tmp 87), none⟩, []⟩])) .skip))) (.reg [⟨⟨some 54, Op.move (Operand.tmp 13), none⟩, []⟩,
  ⟨⟨some 55, Op.binOp BinOp.add 3 (Operand.tmp 54) (Operand.const (Value.int IntKind.i64 1)) 3, none⟩, []⟩,
  ⟨⟨some 13, Op.assign (Operand.tmp 55), none⟩, []⟩])))))))) (.reg [⟨⟨some 38, Op.move (Operand.tmp 10), none⟩, []⟩,
  ⟨⟨some 39, Op.binOp BinOp.add 3 (Operand.tmp 38) (Operand.const (Value.int IntKind.i64 1)) 3, none⟩, []⟩,
  ⟨⟨some 10, Op.assign (Operand.tmp 39), none⟩, []⟩])))))) (.seq (.reg [⟨⟨some 88, Op.move (Operand.tmp 7), none⟩, []⟩,
  ⟨⟨some 6, Op.assign (Operand.tmp 88), none⟩, []⟩]) .ret)))))))
theorem sl66 : slim Try.f66.ntmps ords66 (Try.f66.body.getD .skip) = some cd66 := by kernel_rfl
theorem in66 {args : List Value} {H : AH} {R : Value → AH → Prop} (hl : args.length = 3) (h : ∀ (Q : Exit → Sl → AH → Prop), (∀ e s H, endA Try.prog [ResultVar.tmp 6] R e s H → Q e s H) → wpC Try.prog cd66 Q (enterA args) H) : ACalls Try.prog 66 args H R :=
  ACalls.intro (by kernel_rfl) Try.func66 rfl (by kernel_rfl) sl66 hl (of_decide_eq_true (by kernel_rfl)) (by kernel_rfl) h

/- loop.example/g01128/spec.l9Home -/
def ords67 : List (Nat × List (Nat × Bool)) := []
def cd67 : Cd := (.seq (.reg [⟨⟨some 2, Op.assign (Operand.const (Value.slice none 0 0)), none⟩, []⟩]) (.seq (.reg [⟨⟨some 3, Op.move (Operand.tmp 0), none⟩, []⟩,
  ⟨⟨some 4, Op.move (Operand.tmp 0), none⟩, []⟩,
  ⟨⟨some 5, Op.binOp BinOp.shl 3 (Operand.const (Value.int IntKind.i64 1)) (Operand.tmp 4) 3, none⟩, []⟩,
  ⟨⟨some 6, Op.binOp BinOp.sub 3 (Operand.tmp 5) (Operand.const (Value.int IntKind.i64 1)) 3, none⟩, []⟩,
  ⟨⟨some 7, Op.call { callee := (Callee.value (Operand.func 108)), args := #[(Operand.tmp 3), (Operand.tmp 6)], argTypes := #[3, 3] }, none⟩, []⟩,
  ⟨⟨some 2, Op.assign (Operand.tmp 7), none⟩, []⟩]) .ret))
theorem sl67 : slim Try.f67.ntmps ords67 (Try.f67.body.getD .skip) = some cd67 := by kernel_rfl
theorem in67 {args : List Value} {H : AH} {R : Value → AH → Prop} (hl : args.length = 1) (h : ∀ (Q : Exit → Sl → AH → Prop), (∀ e s H, endA Try.prog [ResultVar.tmp 2] R e s H → Q e s H) → wpC Try.prog cd67 Q (enterA args) H) : ACalls Try.prog 67 args H R :=
  ACalls.intro (by kernel_rfl) Try.func67 rfl (by kernel_rfl) sl67 hl (of_decide_eq_true (by kernel_rfl)) (by kernel_rfl) h

/- loop.example/g01128/spec.l9Told -/
def ords65 : List (Nat × List (Nat × Bool)) := []
def cd65 : Cd := (.seq (.reg [⟨⟨some 2, Op.assign (Operand.const (Value.int IntKind.i64 0)), none⟩, []⟩,
  ⟨⟨some 3, Op.assign (Operand.const (Value.bool false)), none⟩, []⟩]) (.seq (.reg [⟨⟨some 4, Op.move (Operand.tmp 0), none⟩, []⟩,
  ⟨⟨some 5, Op.call { callee := (Callee.value (Operand.func 120)), args := #[(Operand.tmp 4), (Operand.const (Value.int IntKind.i64 0))], argTypes := #[3, 3] }, none⟩, []⟩,
  ⟨⟨some 6, Op.move (Operand.tmp 0), none⟩, []⟩,
  ⟨⟨some 7, Op.binOp BinOp.geq 3 (Operand.tmp 6) (Operand.const (Value.int IntKind.i64 0)) 3, none⟩, []⟩,
  ⟨⟨some 2, Op.assign (Operand.tmp 5), none⟩, []⟩,
  ⟨⟨some 3, Op.assign (Operand.tmp 7), none⟩, []⟩]) .ret))
theorem sl65 : slim Try.f65.ntmps ords65 (Try.f65.body.getD .skip) = some cd65 := by kernel_rfl
theorem in65 {args : List Value} {H : AH} {R : Value → AH → Prop} (hl : args.length = 1) (h : ∀ (Q : Exit → Sl → AH → Prop), (∀ e s H, endA Try.prog [ResultVar.tmp 2, ResultVar.tmp 3] R e s H → Q e s H) → wpC Try.prog cd65 Q (enterA args) H) : ACalls Try.prog 65 args H R :=
  ACalls.intro (by kernel_rfl) Try.func65 rfl (by kernel_rfl) sl65 hl (of_decide_eq_true (by kernel_rfl)) (by kernel_rfl) h
end Go.Proofs.Ythhnpchjjbjabaa.Ai

namespace Go.Proofs.Ythhnpchjjbjabaa.Ai
open Go Go.RowKit
set_option linter.unusedVariables false
set_option linter.unusedSimpArgs false

theorem l1MostK_c (a b : Int) (H : AH) : ACalls Try.prog 120 [.int .i64 a, .int .i64 b] H fun r H' => r = .int .i64 (if b < a then a else b) ∧ H = H' := by
  refine in120 rfl ?_
  intro Q hQ
  simp (maxSteps := 1000000) (disch := omega) only [cd120, S, S1, S2, S3, S4, S5, ST, eq_self, reduceIte, reduceCtorEq, Nat.reduceEqDiff, Nat.reduceAdd]
  refine brD.intro (fun e => ?_) (fun e => ?_) <;> simp (maxSteps := 1000000) (disch := omega) only [S, S1, S2, S3, S4, S5, ST, eq_self, reduceIte, reduceCtorEq, Nat.reduceEqDiff, Nat.reduceAdd]
  · refine hQ _ _ _ ?_
    simp (maxSteps := 1000000) (disch := omega) only [if_pos e, S, S1, S2, S3, S4, S5, ST, eq_self, reduceIte, reduceCtorEq, Nat.reduceEqDiff, Nat.reduceAdd]
  · refine hQ _ _ _ ?_
    simp (maxSteps := 1000000) (disch := omega) only [if_neg e, S, S1, S2, S3, S4, S5, ST, eq_self, reduceIte, reduceCtorEq, Nat.reduceEqDiff, Nat.reduceAdd]
theorem bds_len {n : Nat} (hn : n ≤ 6) {st : List (List Int × Int)} (hok : ∀ e ∈ st, Bd n e.1) (hnd : (st.map (·.1)).Nodup) : st.length ≤ 720 := by
  have := nodupI_le (mny n) ((st.map (·.1)).map cod) (by
    rw [List.Nodup, List.pairwise_map]
    refine List.Pairwise.imp_of_mem ?_ hnd
    intro x y hx hy hxy q
    obtain ⟨s1, hs1, rfl⟩ := List.mem_map.1 hx
    obtain ⟨s2, hs2, rfl⟩ := List.mem_map.1 hy
    have g1 := hok s1 hs1
    have g2 := hok s2 hs2
    exact hxy (cod_inj g1.1 g2.1 (by rw [g1.2]; exact hn) (by rw [g1.2, g2.2]) q)) (fun y hy => by
    obtain ⟨z, hz, rfl⟩ := List.mem_map.1 hy
    obtain ⟨s1, hs1, rfl⟩ := List.mem_map.1 hz
    have g1 := hok s1 hs1
    have := cod_rng g1.1 (by rw [g1.2]; exact hn)
    rw [g1.2] at this; exact this)
  have hm := mny_le hn
  simp only [List.length_map] at this
  omega
/-- the list of distances, by places -/
def spL (N : Nat) (st : List (List Int × Int)) : List Int := (List.range N).map fun z : Nat => match st.find? (fun e => decide (cod e.1 = (z : Int))) with | some e => e.2 | none => -1
theorem spL_len (N : Nat) (st : List (List Int × Int)) : (spL N st).length = N := by simp [spL]
theorem spL_get (N : Nat) (st : List (List Int × Int)) (z : Nat) (hz : z < N) : (spL N st).getD z 0 = match st.find? (fun e => decide (cod e.1 = (z : Int))) with | some e => e.2 | none => -1 := by
  unfold spL
  rw [List.getD_eq_getElem?_getD, List.getElem?_map, List.getElem?_range hz]; rfl
theorem spL_nil (N : Nat) : spL N [] = List.replicate N (-1) := by
  apply List.ext_getElem
  · simp [spL]
  · intro i h1 h2
    simp [spL]
theorem find_bd {n : Nat} (hn : n ≤ 6) {b : List Int} (hb : Bd n b) : ∀ (st : List (List Int × Int)), (∀ e ∈ st, Bd n e.1) → (match st.find? (fun e => decide (cod e.1 = cod b)) with | some e => e.2 | none => -1) = (bdD st b).getD (-1)
  | [], _ => rfl
  | e :: st, h => by
    have ih := find_bd hn hb st (fun x hx => h x (by simp [hx]))
    have he := h e (by simp)
    unfold bdD at *
    rw [List.find?_cons, List.find?_cons]
    by_cases g : e.1 = b
    · rw [decide_eq_true (show cod e.1 = cod b by rw [g]), decide_eq_true g]; rfl
    · rw [decide_eq_false (fun q => g (cod_inj he.1 hb.1 (by rw [he.2]; exact hn) (by rw [he.2, hb.2]) q)), decide_eq_false g]
      exact ih
theorem cod_nat {n : Nat} (hn : n ≤ 6) {b : List Int} (hb : Bd n b) : ∃ z : Nat, cod b = (z : Int) ∧ z < mny n := by
  have h := cod_rng hb.1 (by rw [hb.2]; exact hn)
  rw [hb.2] at h
  exact ⟨(cod b).toNat, by omega, by omega⟩
theorem spL_at {n : Nat} (hn : n ≤ 6) {b : List Int} (hb : Bd n b) {st : List (List Int × Int)} (h : ∀ e ∈ st, Bd n e.1) : (spL (mny n) st).getD (cod b).toNat 0 = (bdD st b).getD (-1) := by
  obtain ⟨z, hz, hlt⟩ := cod_nat hn hb
  rw [hz, Int.toNat_natCast, spL_get _ _ z hlt, ← hz]
  exact find_bd hn hb st h
theorem spL_snoc {n : Nat} (hn : n ≤ 6) {b : List Int} (hb : Bd n b) {st : List (List Int × Int)} (h : ∀ e ∈ st, Bd n e.1) (hnew : b ∉ st.map (·.1)) (d : Int) : (spL (mny n) st).set (cod b).toNat d = spL (mny n) (st ++ [(b, d)]) := by
  obtain ⟨z, hz, hlt⟩ := cod_nat hn hb
  rw [hz, Int.toNat_natCast]
  apply List.ext_getElem?
  intro i
  rw [List.getElem?_set]
  by_cases hi : i < mny n
  · have e1 := spL_get (mny n) st i hi
    have e2 := spL_get (mny n) (st ++ [(b, d)]) i hi
    have l1 : i < (spL (mny n) st).length := by rw [spL_len]; exact hi
    have l2 : i < (spL (mny n) (st ++ [(b, d)])).length := by rw [spL_len]; exact hi
    rw [List.getD_eq_getElem?_getD, List.getElem?_eq_getElem l2] at e2
    rw [List.getD_eq_getElem?_getD, List.getElem?_eq_getElem l1] at e1
    simp only [Option.getD_some] at e1 e2
    rw [List.getElem?_eq_getElem l2, e2]
    by_cases hzi : z = i
    · subst hzi
      rw [if_pos rfl, if_pos l1]
      have hno : st.find? (fun e => decide (cod e.1 = (z : Int))) = none := by
        rw [List.find?_eq_none]
        intro e he
        simp only [decide_eq_true_eq]
        intro q
        have h1 := h e he
        have := cod_inj h1.1 hb.1 (by rw [h1.2]; exact hn) (by rw [h1.2, hb.2]) (q.trans hz.symm)
        exact hnew (List.mem_map.2 ⟨e, he, this⟩)
      rw [List.find?_append, hno]
      simp [List.find?_cons, hz]
    · rw [if_neg hzi, List.getElem?_eq_getElem l1, e1, List.find?_append]
      have hno : [(b, d)].find? (fun e => decide (cod e.1 = (i : Int))) = none := by
        rw [List.find?_eq_none]
        intro e he
        simp only [List.mem_cons, List.not_mem_nil, or_false] at he
        subst he
        simp only [decide_eq_true_eq]
        omega
      rw [hno, Option.or_none]
  · rw [List.getElem?_eq_none (by rw [spL_len]; omega), List.getElem?_eq_none (by rw [spL_len]; omega)]
    split
    · rw [if_neg (by rw [spL_len]; omega)]
    · rfl

/-- a queue of boards, none of which lies in an object -/
def QA (H : AH) (so oq nq : Nat) (bs : List (List Int)) : Prop :=
  ∃ zs, H[oq]? = some (.cells zs 32 false) ∧ nq ≤ zs.length ∧ nq = bs.length ∧ ∀ j, j < nq → Row 3 H (zs.getD j undef) (bs.getD j []) ∧ (zs.getD j undef = .slice none 0 0 ∨ rowO (zs.getD j undef) ≠ so)
theorem QA.qv {H : AH} {so oq nq : Nat} {bs : List (List Int)} (h : QA H so oq nq bs) : QV H oq 0 nq bs := by
  obtain ⟨zs, h1, h2, h3, h4⟩ := h
  exact ⟨zs, h1, by omega, h3, fun j hj => by rw [Nat.zero_add]; exact (h4 j hj).1⟩
theorem QA.pre {H H' : AH} {so oq nq : Nat} {bs : List (List Int)} (h : QA H so oq nq bs) (hp : H <+: H') : QA H' so oq nq bs := by
  obtain ⟨zs, h1, h2, h3, h4⟩ := h
  exact ⟨zs, pre_at hp h1, h2, h3, fun j hj => ⟨(h4 j hj).1.pre hp, (h4 j hj).2⟩⟩
theorem QA.set {H H' : AH} {so oq nq : Nat} {bs : List (List Int)} (h : QA H so oq nq bs) (hq : oq ≠ so) (hk : ∀ (j : Nat) (y : AObj), j ≠ so → H[j]? = some y → H'[j]? = some y) : QA H' so oq nq bs := by
  obtain ⟨zs, h1, h2, h3, h4⟩ := h
  refine ⟨zs, hk _ _ hq h1, h2, h3, fun j hj => ?_⟩
  obtain ⟨g1, g2⟩ := h4 j hj
  refine ⟨?_, g2⟩
  rcases g2 with g | g
  · exact .inl ⟨g, g1.nilv g⟩
  · exact g1.mono fun y hy => hk _ _ g hy
theorem QA.at_ {H : AH} {so oq nq : Nat} {bs : List (List Int)} (h : QA H so oq nq bs) {j : Nat} (hj : j < nq) : ∃ u, cellA H oq j = some u ∧ Row 3 H u (bs.getD j []) := by
  obtain ⟨zs, h1, h2, h3, h4⟩ := h
  refine ⟨zs.getD j undef, ?_, (h4 j hj).1⟩
  rw [cell_of h1]
  have : j < zs.length := by omega
  simp [this]
theorem QA.push {H : AH} {so oq nq : Nat} {bs : List (List Int)} (h : QA H so oq nq bs) {x : Value} {b : List Int} (hx : Row 3 H x b) (hxs : x = .slice none 0 0 ∨ rowO x ≠ so) (hb : nq ≤ 1099511627775) :
    ∃ H2, appendA Try.prog 38 38 (.slice (some ⟨oq, 0, none⟩) nq nq) (.slice (some ⟨H.length, 0, none⟩) 1 1) (H ++ [.cells [x] 32 false]) = some (.slice (some ⟨H.length + 1, 0, none⟩) (nq + 1) (nq + 1), H2) ∧
      QA H2 so (H.length + 1) (nq + 1) (bs ++ [b]) ∧ H2.length = H.length + 2 ∧ (∀ (j : Nat) (y : AObj), j ≠ oq → H[j]? = some y → H2[j]? = some y) := by
  obtain ⟨zs, h1, h2, h3, h4⟩ := h
  have k1 := app_qV (P := Try.prog) (t := 38) (k := 0) (n := nq) (c := nq) (x := x) Try.underlying38 cs32 (by rw [by32]; decide) zk32 h1 (by omega) hb
  have keep : ∀ (j : Nat) (y : AObj), j ≠ oq → H[j]? = some y → (H.set oq .dead ++ [AObj.cells [x] 32 false, .cells ((zs.drop 0).take nq ++ [x]) 32 false])[j]? = some y := fun j y hj hy => at_old hy (fun e => hj e.symm) _
  refine ⟨_, k1, ⟨(zs.drop 0).take nq ++ [x], at_new1 .., by simp; omega, by simp; omega, fun j hj => ?_⟩, by simp, keep⟩
  rw [List.drop_zero]
  have hl : (zs.take nq).length = nq := by simp; omega
  rw [List.getD_eq_getElem?_getD, List.getElem?_append, hl]
  by_cases hj2 : j < nq
  · obtain ⟨g1, g2⟩ := h4 j hj2
    rw [if_pos hj2, List.getElem?_take, if_pos hj2, ← List.getD_eq_getElem?_getD]
    have e : (bs ++ [b]).getD j [] = bs.getD j [] := by
      rw [List.getD_eq_getElem?_getD, List.getElem?_append_left (by omega), ← List.getD_eq_getElem?_getD]
    rw [e]
    exact ⟨g1.but h1 (noInt_ll _ _) (by simpa using keep), g2⟩
  · have e : (bs ++ [b]).getD j [] = b := by
      rw [List.getD_eq_getElem?_getD, List.getElem?_append_right (by omega), show j - bs.length = 0 by omega]; rfl
    rw [if_neg hj2, e, show j - nq = 0 by omega]
    exact ⟨hx.but h1 (noInt_ll _ _) (by simpa using keep), hxs⟩

set_option maxRecDepth 20000 in
set_option maxHeartbeats 8000000 in
theorem l9Spread_c (n : Nat) (v w : Value) (es : List (Int × Int)) (p : List Int) (sl : Bool) (H : AH) (hr : RowP 76 H v es) (hlen : es.length ≤ 1000000) (hx : Row 3 H w p) (hg : Grd (n : Int) es) (hp : Bd n p) (hn : n ≤ 6) :
    ACalls Try.prog 66 [.agg (List.toArray [.int .i64 (n : Int), v]), w, .bool sl] H fun r H' => Own 3 H H' r (spL (mny n) (bdR es sl p)) ∧ H <+: H' := by
  have hpl := hp.2
  have hmn := mny_le hn
  refine in66 rfl ?_
  intro Q hQ
  simp (maxSteps := 1000000) (disch := omega) only [cd66, hr.boxG, S, S1, S2, S3, S4, S5, ST, eq_self, reduceIte, reduceCtorEq, Nat.reduceEqDiff, Nat.reduceAdd]
  generalize hA : H ++ [AObj.cells [.int .i64 ↑n, v] 28 false] = A
  have pA : H <+: A := by rw [← hA]; exact List.prefix_append _ _
  have cA : A[H.length]? = some (.cells [.int .i64 ↑n, v] 28 false) := by rw [← hA]; exact at_new ..
  have rA := hr.pre pA
  have lA : A.length = H.length + 1 := by rw [← hA]; simp
  have hxA := hx.pre pA
  have hlw := hxA.len (P := Try.prog) Try.underlying32
  rw [hpl] at hlw
  simp (maxSteps := 1000000) (disch := omega) only [hlw, S, S1, S2, S3, S4, S5, ST, eq_self, reduceIte, reduceCtorEq, Nat.reduceEqDiff, Nat.reduceAdd]
  refine CallH.by (l9Many_c n A (by omega)) ?_
  rintro _ _ ⟨rfl, rfl⟩
  obtain ⟨N, hN⟩ : ∃ N, N = mny n := ⟨_, rfl⟩
  rw [← hN] at hmn ⊢
  have mk := mks32 (n := (N : Int)) (by omega) (by omega) A
  rw [Int.toNat_natCast] at mk
  simp (maxSteps := 1000000) (disch := omega) only [mk, S, S1, S2, S3, S4, S5, ST, eq_self, reduceIte, reduceCtorEq, Nat.reduceEqDiff, Nat.reduceAdd]
  generalize hZ : A ++ [AObj.cells (ints (List.replicate N 0)) 3 false] = Z
  have pZ : A <+: Z := by rw [← hZ]; exact List.prefix_append _ _
  have cZ : Z[A.length]? = some (.cells (ints (List.replicate N 0)) 3 false) := by rw [← hZ]; exact at_new ..
  have lZ : Z.length = A.length + 1 := by rw [← hZ]; simp
  refine LoopH.by (fun m s H' => ∃ j, m + j = N ∧ s 1 = w ∧ s 2 = .bool sl ∧ s 3 = .pointer (some ⟨H.length, 0, none⟩) ∧ s 7 = .slice (some ⟨A.length, 0, none⟩) N N ∧ s 8 = .int .i64 ((j : Nat) : Int) ∧ H' = Z.set A.length (.cells (ints (rpN N j)) 3 false)) N ?_ ?_
  · refine ⟨0, by omega, rfl, rfl, rfl, rfl, rfl, ?_⟩
    have : rpN N 0 = List.replicate N 0 := by simp [rpN]
    rw [this]
    apply List.ext_getElem?
    intro j
    rw [List.getElem?_set]
    by_cases hj : A.length = j
    · subst hj; rw [if_pos rfl, if_pos (at_lt cZ), cZ]
    · rw [if_neg hj]
  rintro m s H' ⟨j, hm, h1, h2, h3, h7, h8, rfl⟩
  have cJ : (Z.set A.length (.cells (ints (rpN N j)) 3 false))[A.length]? = some (.cells (ints (rpN N j)) 3 false) := at_set cZ
  simp (maxSteps := 1000000) (disch := omega) only [h1, h2, h3, h7, h8, S, S1, S2, S3, S4, S5, ST, eq_self, reduceIte, reduceCtorEq, Nat.reduceEqDiff, Nat.reduceAdd]
  refine brD.intro (fun g => ?_) (fun g => ?_)
  · have hj : j < (rpN N j).length := by rw [rpN_len _ _ (by omega)]; omega
    simp (maxSteps := 1000000) (disch := omega) only [h1, h2, h3, h7, h8, Int.toNat_natCast, Nat.zero_add, st_ints cs3 cJ hj, wrap64, S, S1, S2, S3, S4, S5, ST, eq_self, reduceIte, reduceCtorEq, Nat.reduceEqDiff, Nat.reduceAdd]
    rw [List.set_set, rpN_set _ _ (by omega)]
    refine ⟨m - 1, by omega, j + 1, ?_⟩
    (repeat' apply And.intro) <;> first | (simp only [Value.int.injEq, true_and]; omega) | omega | rfl | assumption | (simp; done) | (simp; omega)
  have hjN : j = N := by omega
  subst hjN
  have e3 : rpN j j = List.replicate j (-1) := by simp [rpN]
  rw [e3] at cJ
  rw [e3]
  have lJ : (Z.set A.length (.cells (ints (List.replicate j (-1))) 3 false)).length = Z.length := by simp
  have pJ : A <+: Z.set A.length (.cells (ints (List.replicate j (-1))) 3 false) := pre_set pZ (Nat.le_refl _) _
  generalize hJ : Z.set A.length (.cells (ints (List.replicate j (-1))) 3 false) = J at *
  have hok0 : ∀ e ∈ [(p, (0 : Int))], Bd n e.1 := fun e he => by
    simp only [List.mem_cons, List.not_mem_nil, or_false] at he
    subst he; exact hp
  have h0 := spL_snoc hn hp (st := []) (fun e he => by simp at he) (by simp) 0
  rw [List.nil_append, spL_nil, ← hN] at h0
  obtain ⟨z, hz, hzl⟩ := cod_nat hn hp
  rw [hz, Int.toNat_natCast] at h0
  have hsto := st_ints (P := Try.prog) (t := 3) (x := 0) cs3 cJ (show z < (List.replicate j (-1 : Int)).length by simp; omega)
  rw [h0] at hsto
  simp (maxSteps := 1000000) (disch := omega) only [h1, h2, h3, h7, h8, S, S1, S2, S3, S4, S5, ST, eq_self, reduceIte, reduceCtorEq, Nat.reduceEqDiff, Nat.reduceAdd]
  refine CallH.by (l9Code_c w p J (hxA.pre pJ) (by omega)) ?_
  rintro _ _ ⟨rfl, rfl⟩
  rw [hz]
  simp (maxSteps := 1000000) (disch := omega) only [h1, h2, h3, h7, h8, Int.toNat_natCast, Nat.zero_add, hsto, S, S1, S2, S3, S4, S5, ST, eq_self, reduceIte, reduceCtorEq, Nat.reduceEqDiff, Nat.reduceAdd]
  generalize hB : J.set A.length (.cells (ints (spL j [(p, 0)])) 3 false) = B
  have lB : B.length = Z.length := by rw [← hB, List.length_set]; exact lJ
  have cB : B[A.length]? = some (.cells (ints (spL j [(p, 0)])) 3 false) := by rw [← hB]; exact at_set cJ
  have pB : A <+: B := by rw [← hB]; exact pre_set pJ (Nat.le_refl _) _
  refine CallH.by (l1Own_c w p B (hxA.pre pB) (by omega)) ?_
  rintro c C ⟨hc, pC⟩
  have lC := pC.length_le
  simp (maxSteps := 1000000) (disch := omega) only [h1, h2, h3, h7, h8, bsRowQ hc.row, S, S1, S2, S3, S4, S5, ST, eq_self, reduceIte, reduceCtorEq, Nat.reduceEqDiff, Nat.reduceAdd]
  generalize hD : C ++ [AObj.cells [c] 32 false] = D
  have pD : C <+: D := by rw [← hD]; exact List.prefix_append _ _
  have cD : D[C.length]? = some (.cells [c] 32 false) := by rw [← hD]; exact at_new ..
  have lD : D.length = C.length + 1 := by rw [← hD]; simp
  have hcs : c = .slice none 0 0 ∨ rowO c ≠ A.length := by
    rcases hc with q | ⟨oo, q1, q2, _⟩
    · exact .inl q.1
    · refine .inr ?_
      rw [q1]
      show oo ≠ A.length
      omega
  have q0 : QA D A.length C.length 1 [p] := ⟨[c], cD, by simp, rfl, fun i hi => by
    obtain rfl : i = 0 := by omega
    exact ⟨hc.row.pre pD, hcs⟩⟩
  refine LoopH.by (fun m s H' => ∃ (st : List (List Int × Int)) (k oq : Nat), m + k = 721 ∧ s 2 = .bool sl ∧ s 3 = .pointer (some ⟨H.length, 0, none⟩) ∧ s 7 = .slice (some ⟨A.length, 0, none⟩) j j ∧ s 9 = .slice (some ⟨oq, 0, none⟩) st.length st.length ∧ s 10 = .int .i64 ((k : Nat) : Int) ∧ BdI n (nxt es sl) p st k ∧ bdF (nxt es sl) m st k = bdR es sl p ∧
    H'[A.length]? = some (.cells (ints (spL j st)) 3 false) ∧ QA H' A.length oq st.length (st.map (·.1)) ∧ A.length < oq ∧ A <+: H') 721 ?_ ?_
  · refine ⟨[(p, 0)], 0, C.length, rfl, ?_⟩
    have f1 := BdI.zero (nx := nxt es sl) hp
    have f2 : bdF (nxt es sl) 721 [(p, 0)] 0 = bdR es sl p := rfl
    have f3 := pre_at (pC.trans pD) cB
    have f4 : A.length < C.length := by omega
    have f5 : A <+: D := pB.trans (pC.trans pD)
    simp (maxSteps := 1000000) (disch := omega) only [h2, h3, h7, S, S1, S2, S3, S4, S5, ST, eq_self, reduceIte, reduceCtorEq, Nat.reduceEqDiff, Nat.reduceAdd]
    (repeat' first | exact f1 | exact f2 | exact f3 | exact q0 | exact f4 | exact f5 | apply And.intro) <;> first | (simp only [Value.int.injEq, true_and]; omega) | omega | rfl | assumption | (simp; done) | (simp; omega)
  clear h1 h2 h3 h7 h8 hsto h0
  rintro m s H' ⟨st, k, oq, hm, h2, h3, h7, h9, h10, hI, hF, hS, hQ', hoq, hpA⟩
  have hle := hI.len_le hn
  have hrH := hr.pre (pA.trans hpA)
  have cG := pre_at hpA cA
  simp (maxSteps := 1000000) (disch := omega) only [h2, h3, h7, h9, h10, S, S1, S2, S3, S4, S5, ST, eq_self, reduceIte, reduceCtorEq, Nat.reduceEqDiff, Nat.reduceAdd]
  refine brD.intro (fun g => ?_) (fun g => ?_)
  rotate_left
  · simp (maxSteps := 1000000) (disch := omega) only [h7, S, S1, S2, S3, S4, S5, ST, eq_self, reduceIte, reduceCtorEq, Nat.reduceEqDiff, Nat.reduceAdd]
    refine hQ _ _ _ ?_
    simp (maxSteps := 1000000) (disch := omega) only [h7, S, S1, S2, S3, S4, S5, ST, eq_self, reduceIte, reduceCtorEq, Nat.reduceEqDiff, Nat.reduceAdd]
    rw [bdF_done (nxt es sl) m st k (by omega)] at hF
    rw [← hF, ← hN]
    exact ⟨.inr ⟨A.length, by rw [spL_len], by omega, hS⟩, pA.trans hpA⟩
  have hk : k < st.length := by omega
  obtain ⟨f, rfl⟩ : ∃ f, m = f + 1 := ⟨m - 1, by omega⟩
  rw [bdF_step (nxt es sl) f st k hk] at hF
  have hum : st.getD k ([], 0) ∈ st := by simp [hk]
  have hnx := fun b (hb : Bd n b) => nxt_bd hg sl hb
  have hstep := hI.step hnx hk
  have hur := hI.rng _ hum
  have hbd := hI.ok _ hum
  obtain ⟨u, hcu, hru⟩ := hQ'.at_ hk
  have hmk : (st.map (·.1)).getD k [] = (st.getD k ([], 0)).1 := by
    rw [List.getD_eq_getElem?_getD, List.getElem?_map, List.getElem?_eq_getElem hk]
    simp [hk]
  rw [hmk] at hru
  generalize hu : st.getD k ([], 0) = e0 at *
  obtain ⟨b, d0⟩ := e0
  have hst0 : st[k]? = some (b, d0) := by
    rw [List.getElem?_eq_getElem hk]
    have : st.getD k ([], 0) = st[k] := by simp [hk]
    rw [← this, hu]
  simp (maxSteps := 1000000) (disch := omega) only [h2, h3, h7, h9, h10, ld_agg ag28 cs28 cG, Int.toNat_natCast, Nat.zero_add, hcu, S, S1, S2, S3, S4, S5, ST, eq_self, reduceIte, reduceCtorEq, Nat.reduceEqDiff, Nat.reduceAdd]
  refine CallH.by (l9Next_c n v u es b sl H' hrH hlen hru hg hbd) ?_
  rintro _ G ⟨r, M, rfl, hL, hM, pG⟩
  have hGl := pG.length_le
  simp (maxSteps := 1000000) (disch := omega) only [h2, h3, h7, h9, h10, S, S1, S2, S3, S4, S5, ST, eq_self, reduceIte, reduceCtorEq, Nat.reduceEqDiff, Nat.reduceAdd]
  have hnb := nxt_le hg hlen sl b
  generalize hNx : nxt es sl b = N2 at *
  have hNb : ∀ c ∈ N2, Bd n c := fun c hc => hnx b hbd c (by rw [hNx]; exact hc)
  have hAl : A.length < H'.length := at_lt hS
  have hoql : oq < H'.length := by obtain ⟨zs, g1, _⟩ := hQ'; exact at_lt g1
  refine LoopH.by (fun m' s' H2 => ∃ (i : Nat) (st' : List (List Int × Int)) (oq' : Nat), m' + i = N2.length ∧ s' 2 = .bool sl ∧ s' 3 = .pointer (some ⟨H.length, 0, none⟩) ∧ s' 7 = .slice (some ⟨A.length, 0, none⟩) j j ∧ s' 9 = .slice (some ⟨oq', 0, none⟩) st'.length st'.length ∧ s' 10 = .int .i64 ((k : Nat) : Int) ∧ s' 11 = r ∧ s' 13 = .int .i64 ((i : Nat) : Int) ∧
    bdIn (d0 + 1) (N2.drop i) st' = bdIn (d0 + 1) N2 st ∧ st <+: st' ∧ (∀ e ∈ st', Bd n e.1) ∧ (∀ e ∈ st', 0 ≤ e.2) ∧ (st'.map (·.1)).Nodup ∧ st'.length ≤ 720 ∧
    H2[A.length]? = some (.cells (ints (spL j st')) 3 false) ∧ QA H2 A.length oq' st'.length (st'.map (·.1)) ∧ (oq' = oq ∨ G.length ≤ oq') ∧ InL H'.length G.length 32 3 H2 r N2 ∧ G.length ≤ H2.length ∧ A <+: H2) N2.length ?_ ?_
  · refine ⟨0, st, oq, by simp, ?_⟩
    simp (maxSteps := 1000000) (disch := omega) only [h2, h3, h7, h9, h10, S, S1, S2, S3, S4, S5, ST, eq_self, reduceIte, reduceCtorEq, Nat.reduceEqDiff, Nat.reduceAdd]
    have f1 := hQ'.pre pG
    have f2 := pre_at pG hS
    have f4 := hpA.trans pG
    have f5 := hI.ok
    have f6 := hI.nd
    have f9 : ∀ e ∈ st, 0 ≤ e.2 := fun e he => (hI.rng e he).1
    have f7 : bdIn (d0 + 1) (N2.drop 0) st = bdIn (d0 + 1) N2 st := rfl
    have f8 : st <+: st := List.prefix_refl _
    (repeat' first | exact f1 | exact f2 | exact f4 | exact f5 | exact f6 | exact f7 | exact f8 | exact f9 | exact hL | apply And.intro) <;> first | (simp only [Value.int.injEq, true_and]; omega) | omega | rfl | assumption | (simp; done) | (simp; omega)
  rintro m' s' H2 ⟨i, st', oq', hm', k2, k3, k7, k9, k10, k11, k13, hIn, hsp, hok, hnn, hnd, hsl', hS2, hQ2, hoq2, hL2, hGl2, hpA2⟩
  obtain ⟨us2, hus2, hul2, heach⟩ := hL2.parts
  simp (maxSteps := 1000000) (disch := omega) only [k2, k3, k7, k9, k10, k11, k13, hus2.len Try.underlying38, hul2, S, S1, S2, S3, S4, S5, ST, eq_self, reduceIte, reduceCtorEq, Nat.reduceEqDiff, Nat.reduceAdd]
  refine brD.intro (fun q => ?_) (fun q => ?_)
  rotate_left
  · have hj : N2.length ≤ i := by omega
    rw [List.drop_of_length_le hj] at hIn
    have hIn' : st' = bdIn (d0 + 1) N2 st := hIn
    rw [← hIn'] at hF hstep
    have f1 : A.length < oq' := by omega
    simp (maxSteps := 1000000) (disch := omega) only [k2, k3, k7, k9, k10, wrap64, S, S1, S2, S3, S4, S5, ST, eq_self, reduceIte, reduceCtorEq, Nat.reduceEqDiff, Nat.reduceAdd]
    refine ⟨f, by omega, st', k + 1, oq', ?_⟩
    (repeat' first | exact hF | exact hstep | exact hS2 | exact hQ2 | exact hpA2 | exact f1 | apply And.intro) <;> first | (simp only [Value.int.injEq, true_and]; omega) | omega | rfl | assumption | (simp; done) | (simp; omega)
  have hi : i < N2.length := by omega
  have hrowI := heach i hi
  have hrow := hrowI.row.1
  have hcell := hus2.cell (show i < us2.length by omega)
  have hcm : N2.getD i [] ∈ N2 := by simp [hi]
  have hcb := hNb _ hcm
  rw [bdIn_drop (d0 + 1) N2 i hi] at hIn
  generalize hc : N2.getD i [] = c2 at *
  generalize hx2 : us2.getD i undef = x at *
  have hcbl := hcb.2
  obtain ⟨zc, hzc, hzcl⟩ := cod_nat hn hcb
  have hat := spL_at hn hcb hok
  rw [hzc, Int.toNat_natCast, ← hN] at hat
  have hlsp := spL_len j st'
  have hcz : cellA H2 A.length zc = some (.int .i64 ((bdD st' c2).getD (-1))) := by
    rw [cell_of hS2, ints_at _ (by rw [hlsp]; omega), hat]
  simp (maxSteps := 1000000) (disch := omega) only [k2, k3, k7, k9, k10, k11, k13, hus2.ix Try.underlying38 cs32, hcell, Int.toNat_natCast, S, S1, S2, S3, S4, S5, ST, eq_self, reduceIte, reduceCtorEq, Nat.reduceEqDiff, Nat.reduceAdd]
  refine CallH.by (l9Code_c x c2 H2 hrow (by omega)) ?_
  rintro _ _ ⟨rfl, rfl⟩
  rw [hzc]
  simp (maxSteps := 1000000) (disch := omega) only [k2, k3, k7, k9, k10, k11, k13, Int.toNat_natCast, Nat.zero_add, hcz, S, S1, S2, S3, S4, S5, ST, eq_self, reduceIte, reduceCtorEq, Nat.reduceEqDiff, Nat.reduceAdd]
  have hsome : ((bdD st' c2).getD (-1) < 0) ↔ c2 ∉ st'.map (·.1) := by
    constructor
    · intro h hm2
      obtain ⟨e, he1, he2⟩ := List.mem_map.1 hm2
      have h5 := bdD_some hnd he1
      rw [he2] at h5
      rw [h5] at h
      simp only [Option.getD_some] at h
      have := hnn e he1
      omega
    · intro h
      rw [bdD_none h]; decide
  refine brD.intro (fun e => ?_) (fun e => ?_)
  rotate_left
  · rw [hsome] at e
    rw [if_pos (Decidable.not_not.1 e)] at hIn
    simp (maxSteps := 1000000) (disch := omega) only [k2, k3, k7, k9, k10, k11, k13, wrap64, S, S1, S2, S3, S4, S5, ST, eq_self, reduceIte, reduceCtorEq, Nat.reduceEqDiff, Nat.reduceAdd]
    refine ⟨m' - 1, by omega, i + 1, st', oq', ?_⟩
    (repeat' first | exact hIn | exact hsp | exact hok | exact hnn | exact hnd | exact hS2 | exact hQ2 | exact hoq2 | exact hL2 | exact hpA2 | apply And.intro) <;> first | (simp only [Value.int.injEq, true_and]; omega) | omega | rfl | assumption | (simp; done) | (simp; omega)
  have e' := hsome.1 e
  rw [if_neg e'] at hIn
  have hbm : (b, d0) ∈ st' := hsp.subset hum
  have hdb : bdD st' b = some d0 := bdD_some hnd hbm
  have hbl : b.length = n := hbd.2
  have hkl : k < st'.length := by have := hsp.length_le; omega
  obtain ⟨u2, hcu2, hru2⟩ := hQ2.at_ hkl
  have hstk : (st'.map (·.1)).getD k [] = b := by
    obtain ⟨t, ht⟩ := hsp
    rw [← ht, List.map_append, List.getD_eq_getElem?_getD, List.getElem?_append_left (by simpa using hk), List.getElem?_map, hst0]; rfl
  rw [hstk] at hru2
  obtain ⟨zb, hzb, hzbl⟩ := cod_nat hn hbd
  have hatb := spL_at hn hbd hok
  rw [hzb, Int.toNat_natCast, ← hN, hdb] at hatb
  have hcb2 : cellA H2 A.length zb = some (.int .i64 d0) := by
    rw [cell_of hS2, ints_at _ (by rw [hlsp]; omega), hatb]; rfl
  have hst2 := st_ints (P := Try.prog) (t := 3) (x := d0 + 1) cs3 hS2 (show zc < (spL j st').length by rw [hlsp]; omega)
  have hsn := spL_snoc hn hcb hok e' (d0 + 1)
  rw [hzc, Int.toNat_natCast, ← hN] at hsn
  rw [hsn] at hst2
  have hbnd : d0 < 720 := by have : d0 < (st.length : Int) := hur.2; omega
  have hbn0 : 0 ≤ d0 := hur.1
  simp (maxSteps := 1000000) (disch := omega) only [e, k2, k3, k7, k9, k10, k11, k13, hus2.ix Try.underlying38 cs32, hcell, Int.toNat_natCast, Nat.zero_add, hcu2, S, S1, S2, S3, S4, S5, ST, eq_self, reduceIte, reduceCtorEq, Nat.reduceEqDiff, Nat.reduceAdd]
  refine CallH.by (l9Code_c x c2 H2 hrow (by omega)) ?_
  rintro _ _ ⟨rfl, rfl⟩
  simp (maxSteps := 1000000) (disch := omega) only [e, k2, k3, k7, k9, k10, k11, k13, Nat.zero_add, hcu2, S, S1, S2, S3, S4, S5, ST, eq_self, reduceIte, reduceCtorEq, Nat.reduceEqDiff, Nat.reduceAdd]
  refine CallH.by (l9Code_c u2 b H2 hru2 (by omega)) ?_
  rintro _ _ ⟨rfl, rfl⟩
  rw [hzb, hzc]
  simp (maxSteps := 1000000) (disch := omega) only [e, k2, k3, k7, k9, k10, k11, k13, Int.toNat_natCast, Nat.zero_add, hcb2, wrap64, hst2, S, S1, S2, S3, S4, S5, ST, eq_self, reduceIte, reduceCtorEq, Nat.reduceEqDiff, Nat.reduceAdd]
  generalize hH3 : H2.set A.length (.cells (ints (spL j (st' ++ [(c2, d0 + 1)]))) 3 false) = H3
  have l3 : H3.length = H2.length := by rw [← hH3]; simp
  have k3' : ∀ (j : Nat) (y : AObj), j ≠ A.length → H2[j]? = some y → H3[j]? = some y := fun j y hj hy => by rw [← hH3, List.getElem?_set_ne (fun e => hj e.symm)]; exact hy
  have m3 : H3[A.length]? = some (.cells (ints (spL j (st' ++ [(c2, d0 + 1)]))) 3 false) := by rw [← hH3]; exact at_set hS2
  have hoH : oq' ≠ A.length := by omega
  have hQ3 := hQ2.set hoH k3'
  have hxs : x = .slice none 0 0 ∨ rowO x ≠ A.length := by
    rcases hrowI.at_ with q1 | q1
    · exact .inl q1
    · exact .inr (by omega)
  have hrow3 : Row 3 H3 x c2 := by
    rcases hxs with q1 | q1
    · exact .inl ⟨q1, hrow.nilv q1⟩
    · exact hrow.mono fun y hy => k3' _ _ q1 hy
  have hL3 := hL2.frameQ (q := A.length) (.inl hAl) k3'
  have p3 : A <+: H3 := by rw [← hH3]; exact pre_set hpA2 (Nat.le_refl _) _
  obtain ⟨us3, hus3, hul3, heach3⟩ := hL3.parts
  have hcell3 := hus3.cell (show i < us3.length by omega)
  have hst'' : ∀ e ∈ st' ++ [(c2, d0 + 1)], Bd n e.1 := fun e he => by
    rcases List.mem_append.1 he with he | he
    · exact hok e he
    · simp only [List.mem_cons, List.not_mem_nil, or_false] at he
      rw [he]; exact hcb
  have hnn'' : ∀ e ∈ st' ++ [(c2, d0 + 1)], 0 ≤ e.2 := fun e he => by
    rcases List.mem_append.1 he with he | he
    · exact hnn e he
    · simp only [List.mem_cons, List.not_mem_nil, or_false] at he
      rw [he]; show 0 ≤ d0 + 1; omega
  have hnd'' : ((st' ++ [(c2, d0 + 1)]).map (·.1)).Nodup := by
    rw [List.map_append, List.Nodup, List.pairwise_append]
    refine ⟨hnd, by simp, fun y hy z hz q => ?_⟩
    simp only [List.map_cons, List.map_nil, List.mem_cons, List.not_mem_nil, or_false] at hz
    subst hz; subst q; exact e' hy
  have hlen'' := bds_len hn hst'' hnd''
  have hrow3' := (heach3 i hi).row.1
  rw [hc] at hrow3'
  obtain ⟨H4, j1, j2, j3, j4⟩ := hQ3.push hrow3' (by
    rcases (heach3 i hi).at_ with q1 | q1
    · exact .inl q1
    · exact .inr (by omega)) (by omega)
  have hlm : (st' ++ [(c2, d0 + 1)]).length = st'.length + 1 := by simp
  have hmm : (st' ++ [(c2, d0 + 1)]).map (·.1) = st'.map (·.1) ++ [c2] := by simp
  rw [← hmm] at j2
  rw [← hlm] at j1 j2
  have f1 := j4 _ _ (fun h => hoH h.symm) m3
  have f3 := hL3.frameQ (q := oq') (by omega) j4
  have f4 : st <+: st' ++ [(c2, d0 + 1)] := hsp.trans (List.prefix_append _ _)
  have f6 : H3.length + 1 = oq ∨ G.length ≤ H3.length + 1 := .inr (by omega)
  have f7 : A <+: H4 := prefix_of fun i y hy => j4 i y (by have := at_lt hy; omega) (pre_at p3 hy)
  simp (maxSteps := 1000000) (disch := omega) only [k2, k3, k7, k9, k10, k11, k13, hus3.ix Try.underlying38 cs32, hcell3, Int.toNat_natCast, bsRowQ hrow3', j1, wrap64, S, S1, S2, S3, S4, S5, ST, eq_self, reduceIte, reduceCtorEq, Nat.reduceEqDiff, Nat.reduceAdd]
  refine ⟨m' - 1, by omega, i + 1, st' ++ [(c2, d0 + 1)], H3.length + 1, ?_⟩
  (repeat' first | exact hIn | exact f4 | exact hst'' | exact hnn'' | exact hnd'' | exact hlen'' | exact f1 | exact j2 | exact f6 | exact f3 | exact f7 | apply And.intro) <;> first | (simp only [Value.int.injEq, true_and]; omega) | omega | rfl | assumption | (simp; done) | (simp; omega)

set_option maxHeartbeats 1000000 in
theorem l9Home_c (n : Nat) (H : AH) (hn : n ≤ 8) : ACalls Try.prog 67 [.int .i64 (n : Int)] H fun r H' => Own 3 H H' r (hom n) ∧ H <+: H' := by
  refine in67 rfl ?_
  intro Q hQ
  have k1 := shl1 Try.prog 3 n hn
  have hp2 : 2 ^ n ≤ 256 := Nat.pow_le_pow_right (n := 2) (by decide) hn
  obtain ⟨E, hE⟩ : ∃ E : Nat, E = 2 ^ n := ⟨_, rfl⟩
  rw [← hE] at k1 hp2
  simp (maxSteps := 1000000) (disch := omega) only [cd67, k1, wrap64, S, S1, S2, S3, S4, S5, ST, eq_self, reduceIte, reduceCtorEq, Nat.reduceEqDiff, Nat.reduceAdd]
  refine CallH.by (l2Bits_c n _ H hn (by rw [hE])) ?_
  rintro w B ⟨ho, pB⟩
  simp (maxSteps := 1000000) (disch := omega) only [S, S1, S2, S3, S4, S5, ST, eq_self, reduceIte, reduceCtorEq, Nat.reduceEqDiff, Nat.reduceAdd]
  refine hQ _ _ _ ?_
  simp (maxSteps := 1000000) (disch := omega) only [ho.row.tup, S, S1, S2, S3, S4, S5, ST, eq_self, reduceIte, reduceCtorEq, Nat.reduceEqDiff, Nat.reduceAdd]
  exact ⟨ho, pB⟩
theorem l9Told_c (d : Int) (H : AH) : ACalls Try.prog 65 [.int .i64 d] H fun r H' => r = .tuple (List.toArray [.int .i64 (if 0 < d then d else 0), .bool (decide (0 ≤ d))]) ∧ H = H' := by
  refine in65 rfl ?_
  intro Q hQ
  simp (maxSteps := 1000000) (disch := omega) only [cd65, S, S1, S2, S3, S4, S5, ST, eq_self, reduceIte, reduceCtorEq, Nat.reduceEqDiff, Nat.reduceAdd]
  refine CallH.by (l1MostK_c d 0 H) ?_
  rintro _ _ ⟨rfl, rfl⟩
  simp (maxSteps := 1000000) (disch := omega) only [S, S1, S2, S3, S4, S5, ST, eq_self, reduceIte, reduceCtorEq, Nat.reduceEqDiff, Nat.reduceAdd]
  refine hQ _ _ _ ?_
  simp (maxSteps := 1000000) (disch := omega) only [S, S1, S2, S3, S4, S5, ST, eq_self, reduceIte, reduceCtorEq, Nat.reduceEqDiff, Nat.reduceAdd]
end Go.Proofs.Ythhnpchjjbjabaa.Ai
