/- Neighbors in a graph, both sides. -/
import Derived.Test.YthhnpchjjbjabaaGood
import Derived.Test.YthhnpchjjbjabaaPair
import Derived.Test.YthhnpchjjbjabaaProg
import Derived.Test.YthhnpchjjbjabaaAiM2
import Derived.KernelRfl
/- Slim code of this translation. By the kernel. -/
namespace Go.Proofs.Ythhnpchjjbjabaa.Ai
open Go

/- slices.Index[[][2]int,[2]int] -/
def ords160 : List (Nat × List (Nat × Bool)) := [(4, [(0, false), (1, false), (2, false), (3, false), (4, false), (5, false)])]
def cd160 : Cd := (.seq (.reg [⟨⟨some 3, Op.box 76 (Operand.tmp 1), none⟩, []⟩,
  ⟨⟨some 4, Op.assign (Operand.const (Value.int IntKind.i64 0)), none⟩, []⟩]) (.seq (.seq (.reg [⟨⟨some 6, Op.move (Operand.tmp 0), none⟩, []⟩,
  ⟨⟨some 7, Op.call { callee := (Callee.builtin Builtin.len), args := #[(Operand.tmp 6)], argTypes := #[22] }, none⟩, []⟩,
  ⟨⟨some 8, Op.move (Operand.const (Value.int IntKind.i64 0)), none⟩, []⟩]) (.block 0 (.loop (.seq (.reg [⟨⟨some 9, Op.binOp BinOp.lss 3 (Operand.tmp 8) (Operand.tmp 7) 3, none⟩, []⟩]) (.seq (.cond (Operand.tmp 9) .skip (.exit 0)) (.seq (.block 1 (.seq (.reg [⟨⟨some 10, Op.move (Operand.tmp 8), none⟩, []⟩,
  ⟨⟨some 5, Op.assign (Operand.tmp 10), none⟩, []⟩]) (.seq (.reg [⟨⟨some 11, Op.load 76 (Operand.tmp 3), none⟩, []⟩,
  ⟨⟨some 12, Op.move (Operand.tmp 0), none⟩, []⟩,
  ⟨⟨some 13, Op.move (Operand.tmp 5), none⟩, []⟩,
  ⟨⟨some 14, Op.indexAddr 22 (Operand.tmp 12) (Operand.tmp 13), none⟩, []⟩,
  ⟨⟨some 15, Op.load 76 (Operand.tmp 14), none⟩, []⟩,
  ⟨⟨some 16, Op.binOp BinOp.eql 76 (Operand.tmp 11) (Operand.tmp 15) 76, none⟩, []⟩]) (.cond (Operand.tmp 16) (.seq (.reg [⟨⟨some 17, Op.move (Operand.tmp 5), none⟩, []⟩,
  ⟨⟨some 4, Op.assign (Operand.tmp 17), none⟩, []⟩]) .ret) .skip)))) (.reg [⟨⟨some 18, Op.binOp BinOp.add 3 (Operand.tmp 8) (Operand.const (Value.int IntKind.i64 1)) 3, none⟩, []⟩,
  ⟨⟨some 8, Op.move (Operand.tmp 18), none⟩, []⟩]))))))) (.seq (.reg [⟨⟨some 4, Op.assign (Operand.const (Value.int IntKind.i64 (-1))), none⟩, []⟩]) .ret)))
theorem sl160 : slim Try.f160.ntmps ords160 (Try.f160.body.getD .skip) = some cd160 := by kernel_rfl
theorem in160 {args : List Value} {H : AH} {R : Value → AH → Prop} (hl : args.length = 2) (h : ∀ (Q : Exit → Sl → AH → Prop), (∀ e s H, endA Try.prog [ResultVar.tmp 4] R e s H → Q e s H) → wpC Try.prog cd160 Q (enterA args) H) : ACalls Try.prog 160 args H R :=
  ACalls.intro (by kernel_rfl) Try.func160 rfl (by kernel_rfl) sl160 hl (of_decide_eq_true (by kernel_rfl)) (by kernel_rfl) h

/- slices.Contains[[][2]int,[2]int] -/
def ords129 : List (Nat × List (Nat × Bool)) := []
def cd129 : Cd := (.seq (.reg [⟨⟨some 3, Op.box 76 (Operand.tmp 1), none⟩, []⟩,
  ⟨⟨some 4, Op.assign (Operand.const (Value.bool false)), none⟩, []⟩]) (.seq (.reg [⟨⟨some 5, Op.move (Operand.tmp 0), none⟩, []⟩,
  ⟨⟨some 6, Op.load 76 (Operand.tmp 3), none⟩, []⟩,
  ⟨⟨some 7, Op.call { callee := (Callee.value (Operand.func 160)), args := #[(Operand.tmp 5), (Operand.tmp 6)], argTypes := #[22, 76] }, none⟩, []⟩,
  ⟨⟨some 8, Op.binOp BinOp.geq 3 (Operand.tmp 7) (Operand.const (Value.int IntKind.i64 0)) 3, none⟩, []⟩,
  ⟨⟨some 4, Op.assign (Operand.tmp 8), none⟩, []⟩]) .ret))
theorem sl129 : slim Try.f129.ntmps ords129 (Try.f129.body.getD .skip) = some cd129 := by kernel_rfl
theorem in129 {args : List Value} {H : AH} {R : Value → AH → Prop} (hl : args.length = 2) (h : ∀ (Q : Exit → Sl → AH → Prop), (∀ e s H, endA Try.prog [ResultVar.tmp 4] R e s H → Q e s H) → wpC Try.prog cd129 Q (enterA args) H) : ACalls Try.prog 129 args H R :=
  ACalls.intro (by kernel_rfl) Try.func129 rfl (by kernel_rfl) sl129 hl (of_decide_eq_true (by kernel_rfl)) (by kernel_rfl) h

/- (loop.example/g01128/impl.Graph).has -/
def ords81 : List (Nat × List (Nat × Bool)) := [(1, [(0, false), (1, false), (2, false), (3, false), (4, true), (5, true), (6, false)])]
def cd81 : Cd := (.seq (.reg [⟨⟨some 3, Op.box 28 (Operand.tmp 0), none⟩, []⟩,
  ⟨⟨some 6, Op.assign (Operand.const (Value.bool false)), none⟩, []⟩]) (.seq (.reg [⟨⟨some 7, Op.fieldAddr 28 (Operand.tmp 3) 1, none⟩, []⟩,
  ⟨⟨some 8, Op.load 22 (Operand.tmp 7), none⟩, []⟩,
  ⟨⟨some 9, Op.move (Operand.tmp 1), none⟩, []⟩,
  ⟨⟨some 10, Op.move (Operand.tmp 2), none⟩, []⟩,
  ⟨⟨some 11, Op.call { callee := (Callee.value (Operand.func 130)), args := #[(Operand.tmp 9), (Operand.tmp 10)], argTypes := #[3, 3] }, none⟩, [⟨some 8, Op.load 22 (Operand.tmp 7), none⟩]⟩,
  ⟨⟨some 12, Op.call { callee := (Callee.value (Operand.func 129)), args := #[(Operand.tmp 8), (Operand.tmp 11)], argTypes := #[22, 76] }, none⟩, []⟩,
  ⟨⟨some 6, Op.assign (Operand.tmp 12), none⟩, []⟩]) .ret))
theorem sl81 : slim Try.f81.ntmps ords81 (Try.f81.body.getD .skip) = some cd81 := by kernel_rfl
theorem in81 {args : List Value} {H : AH} {R : Value → AH → Prop} (hl : args.length = 3) (h : ∀ (Q : Exit → Sl → AH → Prop), (∀ e s H, endA Try.prog [ResultVar.tmp 6] R e s H → Q e s H) → wpC Try.prog cd81 Q (enterA args) H) : ACalls Try.prog 81 args H R :=
  ACalls.intro (by kernel_rfl) Try.func81 rfl (by kernel_rfl) sl81 hl (of_decide_eq_true (by kernel_rfl)) (by kernel_rfl) h

/- loop.example/g01128/spec.l2Near -/
def ords75 : List (Nat × List (Nat × Bool)) := []
def cd75 : Cd := (.seq (.reg [⟨⟨some 3, Op.box 28 (Operand.tmp 0), none⟩, []⟩,
  ⟨⟨some 6, Op.assign (Operand.const (Value.bool false)), none⟩, []⟩]) (.seq (.seq (.reg [⟨⟨some 7, Op.assign (Operand.const (Value.int IntKind.i64 0)), none⟩, []⟩]) (.block 0 (.loop (.seq (.seq (.reg [⟨⟨some 9, Op.move (Operand.tmp 7), none⟩, []⟩,
  ⟨⟨some 10, Op.fieldAddr 28 (Operand.tmp 3) 1, none⟩, []⟩,
  ⟨⟨some 11, Op.load 22 (Operand.tmp 10), none⟩, []⟩,
  ⟨⟨some 12, Op.call { callee := (Callee.builtin Builtin.len), args := #[(Operand.tmp 11)], argTypes := #[22] }, none⟩, []⟩,
  ⟨⟨some 13, Op.binOp BinOp.lss 3 (Operand.tmp 9) (Operand.tmp 12) 3, none⟩, []⟩]) (.cond (Operand.tmp 13) .skip (.exit 0))) (.seq (.block 1 (.seq (.reg [⟨⟨some 16, Op.fieldAddr 28 (Operand.tmp 3) 1, none⟩, []⟩,
  ⟨⟨some 17, Op.load 22 (Operand.tmp 16), none⟩, []⟩,
  ⟨⟨some 18, Op.move (Operand.tmp 7), none⟩, []⟩,
  ⟨⟨some 19, Op.indexAddr 22 (Operand.tmp 17) (Operand.tmp 18), none⟩, []⟩,
  ⟨⟨some 20, Op.load 76 (Operand.tmp 19), none⟩, []⟩,
  ⟨⟨some 8, Op.alloc 76, none⟩, []⟩,
  ⟨⟨none, Op.store 76 (Operand.tmp 8) (Operand.tmp 20), none⟩, []⟩]) (.seq (.reg [⟨⟨some 21, Op.indexAddr 76 (Operand.tmp 8) (Operand.const (Value.int IntKind.i64 0)), none⟩, []⟩,
  ⟨⟨some 22, Op.load 3 (Operand.tmp 21), none⟩, []⟩,
  ⟨⟨some 23, Op.move (Operand.tmp 1), none⟩, []⟩,
  ⟨⟨some 24, Op.binOp BinOp.eql 3 (Operand.tmp 22) (Operand.tmp 23) 3, none⟩, []⟩,
  ⟨⟨some 25, Op.move (Operand.tmp 24), none⟩, []⟩,
  ⟨⟨some 26, Op.indexAddr 76 (Operand.tmp 8) (Operand.const (Value.int IntKind.i64 1)), some (25, true)⟩, []⟩,
  ⟨⟨some 27, Op.load 3 (Operand.tmp 26), some (25, true)⟩, []⟩,
  ⟨⟨some 28, Op.move (Operand.tmp 2), some (25, true)⟩, []⟩,
  ⟨⟨some 29, Op.binOp BinOp.eql 3 (Operand.tmp 27) (Operand.tmp 28) 3, some (25, true)⟩, []⟩,
  ⟨⟨some 30, Op.pick (Operand.tmp 25) (Operand.tmp 29) (Operand.const (Value.bool false)), none⟩, []⟩,
  ⟨⟨some 31, Op.move (Operand.tmp 30), none⟩, []⟩,
  ⟨⟨some 32, Op.indexAddr 76 (Operand.tmp 8) (Operand.const (Value.int IntKind.i64 0)), some (31, false)⟩, []⟩,
  ⟨⟨some 33, Op.load 3 (Operand.tmp 32), some (31, false)⟩, []⟩,
  ⟨⟨some 34, Op.move (Operand.tmp 2), some (31, false)⟩, []⟩,
  ⟨⟨some 35, Op.binOp BinOp.eql 3 (Operand.tmp 33) (Operand.tmp 34) 3, some (31, false)⟩, []⟩,
  ⟨⟨some 36, Op.move (Operand.tmp 35), some (31, false)⟩, []⟩,
  ⟨⟨some 37, Op.indexAddr 76 (Operand.tmp 8) (Operand.const (Value.int IntKind.i64 1)), some (36, true)⟩, []⟩,
  ⟨⟨some 38, Op.load 3 (Operand.tmp 37), some (36, true)⟩, []⟩,
  ⟨⟨some 39, Op.move (Operand.tmp 1), some (36, true)⟩, []⟩,
  ⟨⟨some 40, Op.binOp BinOp.eql 3 (Operand.tmp 38) (Operand.tmp 39) 3, some (36, true)⟩, []⟩,
  ⟨⟨some 41, Op.pick (Operand.tmp 36) (Operand.tmp 40) (Operand.const (Value.bool false)), some (31, false)⟩, []⟩,
  ⟨⟨some 42, Op.pick (Operand.tmp 31) (Operand.const (Value.bool true)) (Operand.tmp 41), none⟩, []⟩]) (.cond (Operand.tmp 42) (.seq (.reg [⟨⟨some 6, Op.assign (Operand.const (Value.bool true)), none⟩, []⟩]) .ret) .skip)))) (.reg [⟨⟨some 14, Op.move (Operand.tmp 7), none⟩, []⟩,
  ⟨⟨some 15, Op.binOp BinOp.add 3 (Operand.tmp 14) (Operand.const (Value.int IntKind.i64 1)) 3, none⟩, []⟩,
  ⟨⟨some 7, Op.assign (Operand.tmp 15), none⟩, []⟩])))))) (.seq (.reg [⟨⟨some 6, Op.assign (Operand.const (Value.bool false)), none⟩, []⟩]) .ret)))
theorem sl75 : slim Try.f75.ntmps ords75 (Try.f75.body.getD .skip) = some cd75 := by kernel_rfl
theorem in75 {args : List Value} {H : AH} {R : Value → AH → Prop} (hl : args.length = 3) (h : ∀ (Q : Exit → Sl → AH → Prop), (∀ e s H, endA Try.prog [ResultVar.tmp 6] R e s H → Q e s H) → wpC Try.prog cd75 Q (enterA args) H) : ACalls Try.prog 75 args H R :=
  ACalls.intro (by kernel_rfl) Try.func75 rfl (by kernel_rfl) sl75 hl (of_decide_eq_true (by kernel_rfl)) (by kernel_rfl) h

/- (loop.example/g01128/impl.Graph).neighbors -/
def ords148 : List (Nat × List (Nat × Bool)) := []
def cd148 : Cd := (.seq (.reg [⟨⟨some 2, Op.box 28 (Operand.tmp 0), none⟩, []⟩,
  ⟨⟨some 4, Op.assign (Operand.const (Value.slice none 0 0)), none⟩, []⟩]) (.seq (.reg [⟨⟨some 7, Op.buildSlice 32 0 #[], none⟩, []⟩,
  ⟨⟨some 5, Op.assign (Operand.tmp 7), none⟩, []⟩]) (.seq (.seq (.reg [⟨⟨some 8, Op.fieldAddr 28 (Operand.tmp 2) 0, none⟩, []⟩,
  ⟨⟨some 9, Op.load 3 (Operand.tmp 8), none⟩, []⟩,
  ⟨⟨some 10, Op.move (Operand.const (Value.int IntKind.i64 0)), none⟩, []⟩]) (.block 0 (.loop (.seq (.reg [⟨⟨some 11, Op.binOp BinOp.lss 3 (Operand.tmp 10) (Operand.tmp 9) 3, none⟩, []⟩]) (.seq (.cond (Operand.tmp 11) .skip (.exit 0)) (.seq (.block 1 (.seq (.reg [⟨⟨some 12, Op.move (Operand.tmp 10), none⟩, []⟩,
  ⟨⟨some 6, Op.assign (Operand.tmp 12), none⟩, []⟩]) (.seq (.reg [⟨⟨some 13, Op.move (Operand.tmp 6), none⟩, []⟩,
  ⟨⟨some 14, Op.move (Operand.tmp 1), none⟩, []⟩,
  ⟨⟨some 15, Op.binOp BinOp.neq 3 (Operand.tmp 13) (Operand.tmp 14) 3, none⟩, []⟩,
  ⟨⟨some 16, Op.move (Operand.tmp 15), none⟩, []⟩,
  ⟨⟨some 17, Op.load 28 (Operand.tmp 2), some (16, true)⟩, []⟩,
  ⟨⟨some 18, Op.move (Operand.tmp 1), some (16, true)⟩, []⟩,
  ⟨⟨some 19, Op.move (Operand.tmp 6), some (16, true)⟩, []⟩,
  ⟨⟨some 20, Op.call { callee := (Callee.value (Operand.func 81)), args := #[(Operand.tmp 17), (Operand.tmp 18), (Operand.tmp 19)], argTypes := #[28, 3, 3] }, some (16, true)⟩, []⟩,
  ⟨⟨some 21, Op.pick (Operand.tmp 16) (Operand.tmp 20) (Operand.const (Value.bool false)), none⟩, []⟩]) (.cond (Operand.tmp 21) (.reg [⟨⟨some 22, Op.move (Operand.tmp 5), none⟩, []⟩,
  ⟨⟨some 23, Op.move (Operand.tmp 6), none⟩, []⟩,
  ⟨⟨some 24, Op.buildSlice 32 1 #[(0, (Operand.tmp 23))], none⟩, []⟩,
  ⟨⟨some 25, Op.call { callee := (Callee.builtin Builtin.append), args := #[(Operand.tmp 22), (Operand.tmp 24)], argTypes := #[32, 32] }, none⟩, []⟩,
  ⟨⟨some 5, Op.assign (Operand.tmp 25), none⟩, []⟩]) .skip)))) (.reg [⟨⟨some 26, Op.binOp BinOp.add 3 (Operand.tmp 10) (Operand.const (Value.int IntKind.i64 1)) 3, none⟩, []⟩,
  ⟨⟨some 10, Op.move (Operand.tmp 26), none⟩, []⟩]))))))) (.seq (.reg [⟨⟨some 27, Op.move (Operand.tmp 5), none⟩, []⟩,
  ⟨⟨some 4, Op.assign (Operand.tmp 27), none⟩, []⟩]) .ret))))
theorem sl148 : slim Try.f148.ntmps ords148 (Try.f148.body.getD .skip) = some cd148 := by kernel_rfl
theorem in148 {args : List Value} {H : AH} {R : Value → AH → Prop} (hl : args.length = 2) (h : ∀ (Q : Exit → Sl → AH → Prop), (∀ e s H, endA Try.prog [ResultVar.tmp 4] R e s H → Q e s H) → wpC Try.prog cd148 Q (enterA args) H) : ACalls Try.prog 148 args H R :=
  ACalls.intro (by kernel_rfl) Try.func148 rfl (by kernel_rfl) sl148 hl (of_decide_eq_true (by kernel_rfl)) (by kernel_rfl) h
end Go.Proofs.Ythhnpchjjbjabaa.Ai

namespace Go.Proofs.Ythhnpchjjbjabaa.Ai
open Go Go.RowKit
set_option linter.unusedVariables false
set_option linter.unusedSimpArgs false

def hitB (a b : Int) (e : Int × Int) : Bool := decide (e.1 = a ∧ e.2 = b ∨ e.1 = b ∧ e.2 = a)
/-- are two nodes neighbors -/
def nearB (es : List (Int × Int)) (a b : Int) : Bool := es.any (hitB a b)
theorem any_step {α : Type} (p : α → Bool) (xs : List α) (d : α) (i : Nat) (hi : i < xs.length) : (xs.drop i).any p = (p (xs.getD i d) || (xs.drop (i + 1)).any p) := by
  have : xs.getD i d = xs[i] := by simp [hi]
  rw [List.drop_eq_getElem_cons hi, List.any_cons, this]
theorem nearB_comm (es : List (Int × Int)) (a b : Int) : nearB es a b = nearB es b a := by
  have : hitB a b = hitB b a := by
    funext e
    unfold hitB
    rw [decide_eq_decide]
    exact ⟨fun h => h.elim .inr .inl, fun h => h.elim .inr .inl⟩
  unfold nearB
  rw [this]
theorem nearB_iff (es : List (Int × Int)) (a b : Int) : nearB es a b = true ↔ ((a, b) ∈ es ∨ (b, a) ∈ es) := by
  unfold nearB hitB
  rw [List.any_eq_true]
  constructor
  · rintro ⟨⟨x, y⟩, hm, h⟩
    rcases of_decide_eq_true h with h | h
    · obtain ⟨h1, h2⟩ := h
      simp only at h1 h2
      subst h1; subst h2; exact .inl hm
    · obtain ⟨h1, h2⟩ := h
      simp only at h1 h2
      subst h1; subst h2; exact .inr hm
  · rintro (h | h)
    · exact ⟨_, h, by simp⟩
    · exact ⟨_, h, by simp⟩
theorem grd_mem {n : Int} {es : List (Int × Int)} (hg : Grd n es) {e : Int × Int} (he : e ∈ es) : 0 ≤ e.1 ∧ e.1 < e.2 ∧ e.2 < n := by
  obtain ⟨i, hi, rfl⟩ := List.mem_iff_getElem.1 he
  obtain ⟨h1, h2, h3, _⟩ := hg.2 i hi
  have : es.getD i (0, 0) = es[i] := by simp [hi]
  rw [this] at h1 h2 h3
  exact ⟨h1, h2, h3⟩
theorem near_rng {n : Int} {es : List (Int × Int)} (hg : Grd n es) {a b : Int} (h : nearB es a b = true) : (0 ≤ a ∧ a < n) ∧ (0 ≤ b ∧ b < n) ∧ a ≠ b := by
  rcases (nearB_iff es a b).1 h with h | h <;> have := grd_mem hg h <;> simp only at this <;> omega
theorem near_has {n : Int} {es : List (Int × Int)} (hg : Grd n es) (a b : Int) (hab : b ≠ a) : decide ((minI a b, maxI a b) ∈ es) = nearB es a b := by
  rw [Bool.eq_iff_iff, decide_eq_true_iff, nearB_iff]
  by_cases h : a ≤ b
  · have e1 : minI a b = a := by unfold minI; split <;> omega
    have e2 : maxI a b = b := by unfold maxI; split <;> omega
    rw [e1, e2]
    exact ⟨.inl, fun h' => h'.resolve_right fun h'' => by have := grd_mem hg h''; simp only at this; omega⟩
  · have e1 : minI a b = b := by unfold minI; split <;> omega
    have e2 : maxI a b = a := by unfold maxI; split <;> omega
    rw [e1, e2]
    exact ⟨.inr, fun h' => h'.resolve_left fun h'' => by have := grd_mem hg h''; simp only at this; omega⟩
/-- the neighbors of a node below k -/
def nbsU (es : List (Int × Int)) (x : Int) : Nat → List Int
  | 0 => []
  | k + 1 => nbsU es x k ++ if nearB es x k = true then [(k : Int)] else []
theorem nbsU_len (es : List (Int × Int)) (x : Int) (k : Nat) : (nbsU es x k).length ≤ k := by
  induction k with
  | zero => simp [nbsU]
  | succ k ih => simp only [nbsU, List.length_append]; split <;> simp <;> omega
theorem nbsU_mem (es : List (Int × Int)) (x : Int) (k : Nat) (y : Int) : y ∈ nbsU es x k ↔ (0 ≤ y ∧ y < k) ∧ nearB es x y = true := by
  induction k with
  | zero => simp [nbsU]; intro h1 h2; omega
  | succ k ih =>
    simp only [nbsU, List.mem_append, ih]
    constructor
    · rintro (⟨h1, h2⟩ | h)
      · exact ⟨by omega, h2⟩
      · split at h
        · rename_i hn
          simp only [List.mem_cons, List.not_mem_nil, or_false] at h
          subst h; exact ⟨by omega, hn⟩
        · simp at h
    · rintro ⟨h1, h2⟩
      by_cases h : y < k
      · exact .inl ⟨by omega, h2⟩
      · obtain rfl : y = k := by omega
        right; rw [if_pos h2]; simp

theorem eq_a2 (a b c d : Int) : binA Try.prog .eql 76 (.agg (List.toArray [.int .i64 a, .int .i64 b])) (.agg (List.toArray [.int .i64 c, .int .i64 d])) = some (.bool (decide ((a, b) = (c, d)))) := by
  have h : binA Try.prog .eql 76 (.agg (List.toArray [.int .i64 a, .int .i64 b])) (.agg (List.toArray [.int .i64 c, .int .i64 d])) = some (.bool (a == c && b == d)) := by kernel_rfl
  have h2 : (a == c && b == d) = decide ((a, b) = (c, d)) := by
    rw [Bool.eq_iff_iff]
    simp
  rw [h, h2]

set_option maxRecDepth 20000 in
theorem IndexP_c (v : Value) (ps : List (Int × Int)) (p : Int × Int) (H : AH) (hr : RowP 76 H v ps) (hlen : ps.length ≤ 1099511627776) :
    ACalls Try.prog 160 [v, .agg (List.toArray [.int .i64 p.1, .int .i64 p.2])] H fun r H' => (∃ k : Int, r = .int .i64 k ∧ (0 ≤ k ↔ p ∈ ps)) ∧ H <+: H' := by
  refine in160 rfl ?_
  intro Q hQ
  simp (maxSteps := 1000000) (disch := omega) only [cd160, box_a2, hr.len Try.underlying22, S, S1, S2, S3, S4, S5, ST, eq_self, reduceIte, reduceCtorEq, Nat.reduceEqDiff, Nat.reduceAdd]
  generalize hA : H ++ [AObj.cells [.int .i64 p.1, .int .i64 p.2] 76 false] = A
  have pA : H <+: A := by rw [← hA]; exact List.prefix_append _ _
  have cA : A[H.length]? = some (.cells [.int .i64 p.1, .int .i64 p.2] 76 false) := by rw [← hA]; exact at_new ..
  have rA := hr.pre pA
  refine LoopH.by (fun m s H' => ∃ i, m + i = ps.length ∧ s 0 = v ∧ s 3 = .pointer (some ⟨H.length, 0, none⟩) ∧ s 7 = .int .i64 (ps.length : Int) ∧ s 8 = .int .i64 ((i : Nat) : Int) ∧ A = H' ∧ ∀ j, j < i → ps.getD j (0, 0) ≠ p) ps.length ?_ ?_
  · exact ⟨0, by simp, rfl, rfl, rfl, rfl, rfl, fun j hj => absurd hj (Nat.not_lt_zero j)⟩
  · rintro m s H' ⟨i, hm, h0, h3, h7, h8, rfl, hn⟩
    simp (maxSteps := 1000000) (disch := omega) only [h0, h3, h7, h8, S, S1, S2, S3, S4, S5, ST, eq_self, reduceIte, reduceCtorEq, Nat.reduceEqDiff, Nat.reduceAdd]
    refine brD.intro (fun g => ?_) (fun g => ?_)
    · have hi : i < ps.length := by omega
      simp (maxSteps := 1000000) (disch := omega) only [h0, h3, h7, h8, ld_a2 cA, rA.ix Try.underlying22 cs76, Int.toNat_natCast, rA.ld ag76 cs76 hi, eq_a2, S, S1, S2, S3, S4, S5, ST, eq_self, reduceIte, reduceCtorEq, Nat.reduceEqDiff, Nat.reduceAdd]
      refine brD.intro (fun e => ?_) (fun e => ?_) <;> simp (maxSteps := 1000000) (disch := omega) only [h0, h3, h7, h8, wrap64, S, S1, S2, S3, S4, S5, ST, eq_self, reduceIte, reduceCtorEq, Nat.reduceEqDiff, Nat.reduceAdd]
      · refine hQ _ _ _ ?_
        simp (maxSteps := 1000000) (disch := omega) only [S, S1, S2, S3, S4, S5, ST, eq_self, reduceIte, reduceCtorEq, Nat.reduceEqDiff, Nat.reduceAdd]
        have e' : p = ps.getD i (0, 0) := e
        have hm : p ∈ ps := by rw [e']; simp [hi]
        exact ⟨⟨i, rfl, ⟨fun _ => hm, fun _ => by omega⟩⟩, pA⟩
      · have f1 : ∀ j, j < i + 1 → ps.getD j (0, 0) ≠ p := by
          intro j hj
          rcases Nat.lt_succ_iff_lt_or_eq.1 hj with h | h
          · exact hn j h
          · rw [h]; intro h'; exact e h'.symm
        refine ⟨m - 1, by omega, i + 1, ?_⟩
        (repeat' apply And.intro) <;> first | exact f1 | (simp only [Value.int.injEq, true_and]; omega) | omega | rfl | assumption | (simp; done) | (simp; omega)
    · simp (maxSteps := 1000000) (disch := omega) only [S, S1, S2, S3, S4, S5, ST, eq_self, reduceIte, reduceCtorEq, Nat.reduceEqDiff, Nat.reduceAdd]
      refine hQ _ _ _ ?_
      simp (maxSteps := 1000000) (disch := omega) only [S, S1, S2, S3, S4, S5, ST, eq_self, reduceIte, reduceCtorEq, Nat.reduceEqDiff, Nat.reduceAdd]
      refine ⟨⟨-1, rfl, ⟨fun h => absurd h (by omega), fun h => ?_⟩⟩, pA⟩
      obtain ⟨j, hj, e⟩ := List.mem_iff_getElem.1 h
      exact absurd (by simp [hj, e]) (hn j (by omega))

theorem ContainsP_c (v : Value) (ps : List (Int × Int)) (p : Int × Int) (H : AH) (hr : RowP 76 H v ps) (hlen : ps.length ≤ 1099511627776) :
    ACalls Try.prog 129 [v, .agg (List.toArray [.int .i64 p.1, .int .i64 p.2])] H fun r H' => r = .bool (decide (p ∈ ps)) ∧ H <+: H' := by
  refine in129 rfl ?_
  intro Q hQ
  simp (maxSteps := 1000000) (disch := omega) only [cd129, box_a2, S, S1, S2, S3, S4, S5, ST, eq_self, reduceIte, reduceCtorEq, Nat.reduceEqDiff, Nat.reduceAdd]
  generalize hA : H ++ [AObj.cells [.int .i64 p.1, .int .i64 p.2] 76 false] = A
  have pA : H <+: A := by rw [← hA]; exact List.prefix_append _ _
  have cA : A[H.length]? = some (.cells [.int .i64 p.1, .int .i64 p.2] 76 false) := by rw [← hA]; exact at_new ..
  simp (maxSteps := 1000000) (disch := omega) only [ld_a2 cA, S, S1, S2, S3, S4, S5, ST, eq_self, reduceIte, reduceCtorEq, Nat.reduceEqDiff, Nat.reduceAdd]
  refine CallH.by (IndexP_c v ps p A (hr.pre pA) hlen) ?_
  rintro _ B ⟨⟨k, rfl, hk⟩, pB⟩
  simp (maxSteps := 1000000) (disch := omega) only [S, S1, S2, S3, S4, S5, ST, eq_self, reduceIte, reduceCtorEq, Nat.reduceEqDiff, Nat.reduceAdd]
  refine hQ _ _ _ ?_
  simp (maxSteps := 1000000) (disch := omega) only [S, S1, S2, S3, S4, S5, ST, eq_self, reduceIte, reduceCtorEq, Nat.reduceEqDiff, Nat.reduceAdd]
  refine ⟨?_, pA.trans pB⟩
  rw [Value.bool.injEq, decide_eq_decide]; exact hk

theorem has_G (n : Int) (v : Value) (es : List (Int × Int)) (a b : Int) (H : AH) (hr : RowP 76 H v es) (hlen : es.length ≤ 1099511627776) :
    ACalls Try.prog 81 [.agg (List.toArray [.int .i64 n, v]), .int .i64 a, .int .i64 b] H fun r H' => r = .bool (decide ((minI a b, maxI a b) ∈ es)) ∧ H <+: H' := by
  refine in81 rfl ?_
  intro Q hQ
  simp (maxSteps := 1000000) (disch := omega) only [cd81, hr.boxG, S, S1, S2, S3, S4, S5, ST, eq_self, reduceIte, reduceCtorEq, Nat.reduceEqDiff, Nat.reduceAdd]
  generalize hA : H ++ [AObj.cells [.int .i64 n, v] 28 false] = A
  have pA : H <+: A := by rw [← hA]; exact List.prefix_append _ _
  have cA : A[H.length]? = some (.cells [.int .i64 n, v] 28 false) := by rw [← hA]; exact at_new ..
  have rA := hr.pre pA
  simp (maxSteps := 1000000) (disch := omega) only [cell_of cA, S, S1, S2, S3, S4, S5, ST, eq_self, reduceIte, reduceCtorEq, Nat.reduceEqDiff, Nat.reduceAdd]
  refine CallH.by (pair_c a b A) ?_
  rintro _ B ⟨rfl, pB⟩
  have cB := pre_at pB cA
  simp (maxSteps := 1000000) (disch := omega) only [cell_of cB, S, S1, S2, S3, S4, S5, ST, eq_self, reduceIte, reduceCtorEq, Nat.reduceEqDiff, Nat.reduceAdd]
  refine CallH.by (ContainsP_c v es (minI a b, maxI a b) B (rA.pre pB) hlen) ?_
  rintro _ C ⟨rfl, pC⟩
  simp (maxSteps := 1000000) (disch := omega) only [S, S1, S2, S3, S4, S5, ST, eq_self, reduceIte, reduceCtorEq, Nat.reduceEqDiff, Nat.reduceAdd]
  refine hQ _ _ _ ?_
  simp (maxSteps := 1000000) (disch := omega) only [S, S1, S2, S3, S4, S5, ST, eq_self, reduceIte, reduceCtorEq, Nat.reduceEqDiff, Nat.reduceAdd]
  exact pA.trans (pB.trans pC)

set_option maxRecDepth 20000 in
set_option maxHeartbeats 1000000 in
theorem l2Near_c (n : Int) (v : Value) (es : List (Int × Int)) (a b : Int) (H : AH) (hr : RowP 76 H v es) (hlen : es.length ≤ 1099511627776) :
    ACalls Try.prog 75 [.agg (List.toArray [.int .i64 n, v]), .int .i64 a, .int .i64 b] H fun r H' => r = .bool (nearB es a b) ∧ H <+: H' := by
  refine in75 rfl ?_
  intro Q hQ
  simp (maxSteps := 1000000) (disch := omega) only [cd75, hr.boxG, S, S1, S2, S3, S4, S5, ST, eq_self, reduceIte, reduceCtorEq, Nat.reduceEqDiff, Nat.reduceAdd]
  generalize hA : H ++ [AObj.cells [.int .i64 n, v] 28 false] = A
  have pA : H <+: A := by rw [← hA]; exact List.prefix_append _ _
  have cA : A[H.length]? = some (.cells [.int .i64 n, v] 28 false) := by rw [← hA]; exact at_new ..
  have rA := hr.pre pA
  try simp (maxSteps := 1000000) (disch := omega) only [S, S1, S2, S3, S4, S5, ST, eq_self, reduceIte, reduceCtorEq, Nat.reduceEqDiff, Nat.reduceAdd]
  refine LoopH.by (fun m s H' => ∃ i, m + i = es.length ∧ s 1 = .int .i64 a ∧ s 2 = .int .i64 b ∧ s 3 = .pointer (some ⟨H.length, 0, none⟩) ∧ s 7 = .int .i64 ((i : Nat) : Int) ∧ nearB es a b = (es.drop i).any (hitB a b) ∧ A <+: H') es.length ?_ ?_
  · exact ⟨0, by simp, rfl, rfl, rfl, rfl, by rw [List.drop_zero]; rfl, List.prefix_refl _⟩
  · rintro m s H' ⟨i, hm, h1, h2, h3, h7, hn, hp⟩
    have hr' := rA.pre hp
    have cH := pre_at hp cA
    have hpp := pA.trans hp
    simp (maxSteps := 1000000) (disch := omega) only [h1, h2, h3, h7, cell_of cH, hr'.len Try.underlying22, S, S1, S2, S3, S4, S5, ST, eq_self, reduceIte, reduceCtorEq, Nat.reduceEqDiff, Nat.reduceAdd]
    refine brD.intro (fun g => ?_) (fun g => ?_)
    · have hi : i < es.length := by omega
      have hst0 := store_a2 H' [.int .i64 0, .int .i64 0] rfl
      rw [any_step _ es (0, 0) i hi] at hn
      simp (maxSteps := 1000000) (disch := omega) only [h1, h2, h3, h7, cell_of cH, hr'.ix Try.underlying22 cs76, Int.toNat_natCast, hr'.ld ag76 cs76 hi, alloc_a2, hst0, cell_new, wrap64, S, S1, S2, S3, S4, S5, ST, eq_self, reduceIte, reduceCtorEq, Nat.reduceEqDiff, Nat.reduceAdd]
      generalize hx : es.getD i (0, 0) = x at *
      have pB : A <+: H' ++ [AObj.cells [.int .i64 x.1, .int .i64 x.2] 76 false] := pre_app hp _
      have yes : hitB a b x = true → nearB es a b = true := fun h => by rw [hn, h]; rfl
      have no : hitB a b x = false → nearB es a b = (es.drop (i + 1)).any (hitB a b) := fun h => by rw [hn, h]; rfl
      unfold hitB at yes no
      rw [decide_eq_true_iff] at yes
      rw [decide_eq_false_iff_not] at no
      have second : ¬ (x.1 = a ∧ x.2 = b) → True := fun _ => trivial
      refine brD.intro (fun e1 => ?_) (fun e1 => ?_) <;> (first | have de1 := decide_eq_false e1 | have de1 := decide_eq_true e1) <;> simp (maxSteps := 1000000) (disch := omega) only [de1, h1, h2, h3, h7, cell_new, wrap64, S, S1, S2, S3, S4, S5, ST, eq_self, reduceIte, reduceCtorEq, Nat.reduceEqDiff, Nat.reduceAdd]
      · refine brD.intro (fun e2 => ?_) (fun e2 => ?_) <;> (first | have de2 := decide_eq_false e2 | have de2 := decide_eq_true e2) <;> simp (maxSteps := 1000000) (disch := omega) only [de1, de2, h1, h2, h3, h7, cell_new, wrap64, S, S1, S2, S3, S4, S5, ST, eq_self, reduceIte, reduceCtorEq, Nat.reduceEqDiff, Nat.reduceAdd]
        · refine hQ _ _ _ ?_
          simp (maxSteps := 1000000) (disch := omega) only [S, S1, S2, S3, S4, S5, ST, eq_self, reduceIte, reduceCtorEq, Nat.reduceEqDiff, Nat.reduceAdd]
          exact ⟨by rw [yes (by omega)], pA.trans pB⟩
        · refine brD.intro (fun e3 => ?_) (fun e3 => ?_) <;> (first | have de3 := decide_eq_false e3 | have de3 := decide_eq_true e3) <;> simp (maxSteps := 1000000) (disch := omega) only [de1, de2, de3, h1, h2, h3, h7, cell_new, wrap64, S, S1, S2, S3, S4, S5, ST, eq_self, reduceIte, reduceCtorEq, Nat.reduceEqDiff, Nat.reduceAdd]
          · refine brD.intro (fun e4 => ?_) (fun e4 => ?_) <;> (first | have de4 := decide_eq_false e4 | have de4 := decide_eq_true e4) <;> simp (maxSteps := 1000000) (disch := omega) only [de1, de2, de3, de4, h1, h2, h3, h7, cell_new, wrap64, S, S1, S2, S3, S4, S5, ST, eq_self, reduceIte, reduceCtorEq, Nat.reduceEqDiff, Nat.reduceAdd]
            · refine hQ _ _ _ ?_
              simp (maxSteps := 1000000) (disch := omega) only [S, S1, S2, S3, S4, S5, ST, eq_self, reduceIte, reduceCtorEq, Nat.reduceEqDiff, Nat.reduceAdd]
              exact ⟨by rw [yes (by omega)], pA.trans pB⟩
            · have f1 := no (by omega)
              refine ⟨m - 1, by omega, i + 1, ?_⟩
              (repeat' first | exact f1 | exact pB | apply And.intro) <;> first | (simp only [Value.int.injEq, true_and]; omega) | omega | rfl | assumption | (simp; done) | (simp; omega)
          · have f1 := no (by omega)
            refine ⟨m - 1, by omega, i + 1, ?_⟩
            (repeat' first | exact f1 | exact pB | apply And.intro) <;> first | (simp only [Value.int.injEq, true_and]; omega) | omega | rfl | assumption | (simp; done) | (simp; omega)
      · refine brD.intro (fun e3 => ?_) (fun e3 => ?_) <;> (first | have de3 := decide_eq_false e3 | have de3 := decide_eq_true e3) <;> simp (maxSteps := 1000000) (disch := omega) only [de1, de3, h1, h2, h3, h7, cell_new, wrap64, S, S1, S2, S3, S4, S5, ST, eq_self, reduceIte, reduceCtorEq, Nat.reduceEqDiff, Nat.reduceAdd]
        · refine brD.intro (fun e4 => ?_) (fun e4 => ?_) <;> (first | have de4 := decide_eq_false e4 | have de4 := decide_eq_true e4) <;> simp (maxSteps := 1000000) (disch := omega) only [de1, de3, de4, h1, h2, h3, h7, cell_new, wrap64, S, S1, S2, S3, S4, S5, ST, eq_self, reduceIte, reduceCtorEq, Nat.reduceEqDiff, Nat.reduceAdd]
          · refine hQ _ _ _ ?_
            simp (maxSteps := 1000000) (disch := omega) only [S, S1, S2, S3, S4, S5, ST, eq_self, reduceIte, reduceCtorEq, Nat.reduceEqDiff, Nat.reduceAdd]
            exact ⟨by rw [yes (by omega)], pA.trans pB⟩
          · have f1 := no (by omega)
            refine ⟨m - 1, by omega, i + 1, ?_⟩
            (repeat' first | exact f1 | exact pB | apply And.intro) <;> first | (simp only [Value.int.injEq, true_and]; omega) | omega | rfl | assumption | (simp; done) | (simp; omega)
        · have f1 := no (by omega)
          refine ⟨m - 1, by omega, i + 1, ?_⟩
          (repeat' first | exact f1 | exact pB | apply And.intro) <;> first | (simp only [Value.int.injEq, true_and]; omega) | omega | rfl | assumption | (simp; done) | (simp; omega)
    · simp (maxSteps := 1000000) (disch := omega) only [h1, h2, h3, h7, S, S1, S2, S3, S4, S5, ST, eq_self, reduceIte, reduceCtorEq, Nat.reduceEqDiff, Nat.reduceAdd]
      refine hQ _ _ _ ?_
      simp (maxSteps := 1000000) (disch := omega) only [S, S1, S2, S3, S4, S5, ST, eq_self, reduceIte, reduceCtorEq, Nat.reduceEqDiff, Nat.reduceAdd]
      rw [hn, List.drop_of_length_le (by omega)]
      exact ⟨rfl, hpp⟩

set_option maxRecDepth 20000 in
set_option maxHeartbeats 1000000 in
theorem neighbors_c (n : Int) (v : Value) (es : List (Int × Int)) (x : Int) (H : AH) (hr : RowP 76 H v es) (hlen : es.length ≤ 1099511627776) (hg : Grd n es) :
    ACalls Try.prog 148 [.agg (List.toArray [.int .i64 n, v]), .int .i64 x] H fun r H' => Own 3 H H' r (nbsU es x n.toNat) ∧ H <+: H' := by
  have hn := hg.1
  refine in148 rfl ?_
  intro Q hQ
  simp (maxSteps := 1000000) (disch := omega) only [cd148, hr.boxG, S, S1, S2, S3, S4, S5, ST, eq_self, reduceIte, reduceCtorEq, Nat.reduceEqDiff, Nat.reduceAdd]
  generalize hA : H ++ [AObj.cells [.int .i64 n, v] 28 false] = A
  have pA : H <+: A := by rw [← hA]; exact List.prefix_append _ _
  have cA : A[H.length]? = some (.cells [.int .i64 n, v] 28 false) := by rw [← hA]; exact at_new ..
  have rA := hr.pre pA
  simp (maxSteps := 1000000) (disch := omega) only [cell_of (at_app cA _), S, S1, S2, S3, S4, S5, ST, eq_self, reduceIte, reduceCtorEq, Nat.reduceEqDiff, Nat.reduceAdd]
  refine LoopH.by (fun m s H' => ∃ i, m + i = n.toNat ∧ s 1 = .int .i64 x ∧ s 2 = .pointer (some ⟨H.length, 0, none⟩) ∧ s 9 = .int .i64 n ∧ s 10 = .int .i64 ((i : Nat) : Int) ∧ Own 3 A H' (s 5) (nbsU es x i) ∧ A <+: H') n.toNat ?_ ?_
  · exact ⟨0, by simp, rfl, rfl, rfl, rfl, .inr ⟨A.length, rfl, Nat.le_refl _, at_new ..⟩, List.prefix_append _ _⟩
  · rintro m s H' ⟨i, hm, h1, h2, h9, h10, ho, hp⟩
    have hr' := rA.pre hp
    have cH := pre_at hp cA
    have hl := nbsU_len es x i
    have hst : nbsU es x (i + 1) = nbsU es x i ++ if nearB es x i = true then [(i : Int)] else [] := rfl
    generalize hw : s 5 = w at *
    simp (maxSteps := 1000000) (disch := omega) only [h1, h2, h9, h10, hw, S, S1, S2, S3, S4, S5, ST, eq_self, reduceIte, reduceCtorEq, Nat.reduceEqDiff, Nat.reduceAdd]
    refine brD.intro (fun g => ?_) (fun g => ?_)
    · simp (maxSteps := 1000000) (disch := omega) only [h1, h2, h9, h10, hw, S, S1, S2, S3, S4, S5, ST, eq_self, reduceIte, reduceCtorEq, Nat.reduceEqDiff, Nat.reduceAdd]
      refine brD.intro (fun e1 => ?_) (fun e1 => ?_) <;> simp (maxSteps := 1000000) (disch := omega) only [e1, h1, h2, h9, h10, hw, ld_agg ag28 cs28 cH, wrap64, S, S1, S2, S3, S4, S5, ST, eq_self, reduceIte, reduceCtorEq, Nat.reduceEqDiff, Nat.reduceAdd]
      · refine CallH.by (has_G n v es x i H' hr' hlen) ?_
        rintro _ B ⟨rfl, pB⟩
        rw [near_has hg x i (by omega)]
        have hoB := ho.pre pB
        have hpB := hp.trans pB
        simp (maxSteps := 1000000) (disch := omega) only [e1, S, S1, S2, S3, S4, S5, ST, eq_self, reduceIte, reduceCtorEq, Nat.reduceEqDiff, Nat.reduceAdd]
        refine brH.intro (fun e2 => ?_) (fun e2 => ?_)
        · obtain ⟨w', H2, k1, k2, k3, k4, k5, k6⟩ := own1_32 hoB hpB (by omega) (i : Int)
          simp (maxSteps := 1000000) (disch := omega) only [e1, e2, h1, h2, h9, h10, hw, k1, wrap64, S, S1, S2, S3, S4, S5, ST, eq_self, reduceIte, reduceCtorEq, Nat.reduceEqDiff, Nat.reduceAdd]
          rw [if_pos e2] at hst
          rw [← hst] at k2
          refine ⟨m - 1, by omega, i + 1, ?_⟩
          (repeat' first | exact k2 | exact k3 | apply And.intro) <;> first | (simp only [Value.int.injEq, true_and]; omega) | omega | rfl | assumption | (simp; done) | (simp; omega)
        · simp (maxSteps := 1000000) (disch := omega) only [e1, e2, h1, h2, h9, h10, hw, wrap64, S, S1, S2, S3, S4, S5, ST, eq_self, reduceIte, reduceCtorEq, Nat.reduceEqDiff, Nat.reduceAdd]
          rw [if_neg (by simpa using e2), List.append_nil] at hst
          rw [← hst] at hoB
          refine ⟨m - 1, by omega, i + 1, ?_⟩
          (repeat' first | exact hoB | exact hpB | apply And.intro) <;> first | (simp only [Value.int.injEq, true_and]; omega) | omega | rfl | assumption | (simp; done) | (simp; omega)
      · have e2 : nearB es x i ≠ true := by
          intro h
          have := (near_rng hg h).2.2
          omega
        rw [if_neg e2, List.append_nil] at hst
        rw [← hst] at ho
        refine ⟨m - 1, by omega, i + 1, ?_⟩
        (repeat' first | exact ho | exact hp | apply And.intro) <;> first | (simp only [Value.int.injEq, true_and]; omega) | omega | rfl | assumption | (simp; done) | (simp; omega)
    · simp (maxSteps := 1000000) (disch := omega) only [hw, S, S1, S2, S3, S4, S5, ST, eq_self, reduceIte, reduceCtorEq, Nat.reduceEqDiff, Nat.reduceAdd]
      refine hQ _ _ _ ?_
      simp (maxSteps := 1000000) (disch := omega) only [hw, ho.row.tup, S, S1, S2, S3, S4, S5, ST, eq_self, reduceIte, reduceCtorEq, Nat.reduceEqDiff, Nat.reduceAdd]
      have : i = n.toNat := by omega
      subst this
      exact ⟨ho.base pA, pA.trans hp⟩

end Go.Proofs.Ythhnpchjjbjabaa.Ai
