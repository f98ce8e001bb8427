/- Repeated lists (slices.Repeat of -1). -/
import Derived.Test.YthhnpchjjbjabaaBag
import Derived.Test.YthhnpchjjbjabaaProg
import Derived.Test.YthhnpchjjbjabaaAiM2
import Derived.KernelRfl
/- Slim code of this translation. By the kernel. -/
namespace Go.Proofs.Ythhnpchjjbjabaa.Ai
open Go

/- math/bits.Mul64 -/
def ords195 : List (Nat × List (Nat × Bool)) := []
def cd195 : Cd := (.seq (.reg [⟨⟨some 4, Op.assign (Operand.const (Value.int IntKind.u64 0)), none⟩, []⟩,
  ⟨⟨some 5, Op.assign (Operand.const (Value.int IntKind.u64 0)), none⟩, []⟩]) (.seq (.reg [⟨⟨some 14, Op.move (Operand.tmp 0), none⟩, []⟩,
  ⟨⟨some 15, Op.binOp BinOp.and 151 (Operand.tmp 14) (Operand.const (Value.int IntKind.u64 4294967295)) 151, none⟩, []⟩,
  ⟨⟨some 6, Op.assign (Operand.tmp 15), none⟩, []⟩]) (.seq (.reg [⟨⟨some 16, Op.move (Operand.tmp 0), none⟩, []⟩,
  ⟨⟨some 17, Op.binOp BinOp.shr 151 (Operand.tmp 16) (Operand.const (Value.int IntKind.u64 32)) 116, none⟩, []⟩,
  ⟨⟨some 7, Op.assign (Operand.tmp 17), none⟩, []⟩]) (.seq (.reg [⟨⟨some 18, Op.move (Operand.tmp 1), none⟩, []⟩,
  ⟨⟨some 19, Op.binOp BinOp.and 151 (Operand.tmp 18) (Operand.const (Value.int IntKind.u64 4294967295)) 151, none⟩, []⟩,
  ⟨⟨some 8, Op.assign (Operand.tmp 19), none⟩, []⟩]) (.seq (.reg [⟨⟨some 20, Op.move (Operand.tmp 1), none⟩, []⟩,
  ⟨⟨some 21, Op.binOp BinOp.shr 151 (Operand.tmp 20) (Operand.const (Value.int IntKind.u64 32)) 116, none⟩, []⟩,
  ⟨⟨some 9, Op.assign (Operand.tmp 21), none⟩, []⟩]) (.seq (.reg [⟨⟨some 22, Op.move (Operand.tmp 6), none⟩, []⟩,
  ⟨⟨some 23, Op.move (Operand.tmp 8), none⟩, []⟩,
  ⟨⟨some 24, Op.binOp BinOp.mul 151 (Operand.tmp 22) (Operand.tmp 23) 151, none⟩, []⟩,
  ⟨⟨some 10, Op.assign (Operand.tmp 24), none⟩, []⟩]) (.seq (.reg [⟨⟨some 25, Op.move (Operand.tmp 7), none⟩, []⟩,
  ⟨⟨some 26, Op.move (Operand.tmp 8), none⟩, []⟩,
  ⟨⟨some 27, Op.binOp BinOp.mul 151 (Operand.tmp 25) (Operand.tmp 26) 151, none⟩, []⟩,
  ⟨⟨some 28, Op.move (Operand.tmp 10), none⟩, []⟩,
  ⟨⟨some 29, Op.binOp BinOp.shr 151 (Operand.tmp 28) (Operand.const (Value.int IntKind.u64 32)) 116, none⟩, []⟩,
  ⟨⟨some 30, Op.binOp BinOp.add 151 (Operand.tmp 27) (Operand.tmp 29) 151, none⟩, []⟩,
  ⟨⟨some 11, Op.assign (Operand.tmp 30), none⟩, []⟩]) (.seq (.reg [⟨⟨some 31, Op.move (Operand.tmp 11), none⟩, []⟩,
  ⟨⟨some 32, Op.binOp BinOp.and 151 (Operand.tmp 31) (Operand.const (Value.int IntKind.u64 4294967295)) 151, none⟩, []⟩,
  ⟨⟨some 12, Op.assign (Operand.tmp 32), none⟩, []⟩]) (.seq (.reg [⟨⟨some 33, Op.move (Operand.tmp 11), none⟩, []⟩,
  ⟨⟨some 34, Op.binOp BinOp.shr 151 (Operand.tmp 33) (Operand.const (Value.int IntKind.u64 32)) 116, none⟩, []⟩,
  ⟨⟨some 13, Op.assign (Operand.tmp 34), none⟩, []⟩]) (.seq (.reg [⟨⟨some 35, Op.move (Operand.tmp 12), none⟩, []⟩,
  ⟨⟨some 36, Op.move (Operand.tmp 6), none⟩, []⟩,
  ⟨⟨some 37, Op.move (Operand.tmp 9), none⟩, []⟩,
  ⟨⟨some 38, Op.binOp BinOp.mul 151 (Operand.tmp 36) (Operand.tmp 37) 151, none⟩, []⟩,
  ⟨⟨some 39, Op.binOp BinOp.add 151 (Operand.tmp 35) (Operand.tmp 38) 151, none⟩, []⟩,
  ⟨⟨some 12, Op.assign (Operand.tmp 39), none⟩, []⟩]) (.seq (.reg [⟨⟨some 40, Op.move (Operand.tmp 7), none⟩, []⟩,
  ⟨⟨some 41, Op.move (Operand.tmp 9), none⟩, []⟩,
  ⟨⟨some 42, Op.binOp BinOp.mul 151 (Operand.tmp 40) (Operand.tmp 41) 151, none⟩, []⟩,
  ⟨⟨some 43, Op.move (Operand.tmp 13), none⟩, []⟩,
  ⟨⟨some 44, Op.binOp BinOp.add 151 (Operand.tmp 42) (Operand.tmp 43) 151, none⟩, []⟩,
  ⟨⟨some 45, Op.move (Operand.tmp 12), none⟩, []⟩,
  ⟨⟨some 46, Op.binOp BinOp.shr 151 (Operand.tmp 45) (Operand.const (Value.int IntKind.u64 32)) 116, none⟩, []⟩,
  ⟨⟨some 47, Op.binOp BinOp.add 151 (Operand.tmp 44) (Operand.tmp 46) 151, none⟩, []⟩,
  ⟨⟨some 4, Op.assign (Operand.tmp 47), none⟩, []⟩]) (.seq (.reg [⟨⟨some 48, Op.move (Operand.tmp 0), none⟩, []⟩,
  ⟨⟨some 49, Op.move (Operand.tmp 1), none⟩, []⟩,
  ⟨⟨some 50, Op.binOp BinOp.mul 151 (Operand.tmp 48) (Operand.tmp 49) 151, none⟩, []⟩,
  ⟨⟨some 5, Op.assign (Operand.tmp 50), none⟩, []⟩]) .ret))))))))))))
theorem sl195 : slim Try.f195.ntmps ords195 (Try.f195.body.getD .skip) = some cd195 := by kernel_rfl
theorem in195 {args : List Value} {H : AH} {R : Value → AH → Prop} (hl : args.length = 2) (h : ∀ (Q : Exit → Sl → AH → Prop), (∀ e s H, endA Try.prog [ResultVar.tmp 4, ResultVar.tmp 5] R e s H → Q e s H) → wpC Try.prog cd195 Q (enterA args) H) : ACalls Try.prog 195 args H R :=
  ACalls.intro (by kernel_rfl) Try.func195 rfl (by kernel_rfl) sl195 hl (of_decide_eq_true (by kernel_rfl)) (by kernel_rfl) h

/- math/bits.Mul -/
def ords169 : List (Nat × List (Nat × Bool)) := []
def cd169 : Cd := (.seq (.reg [⟨⟨some 4, Op.assign (Operand.const (Value.int IntKind.u64 0)), none⟩, []⟩,
  ⟨⟨some 5, Op.assign (Operand.const (Value.int IntKind.u64 0)), none⟩, []⟩]) (.seq (.cond (Operand.const (Value.bool false)) (.seq (.reg [⟨⟨some 11, Op.move (Operand.tmp 0), none⟩, []⟩,
  ⟨⟨some 12, Op.convert 116 149 (Operand.tmp 11), none⟩, []⟩,
  ⟨⟨some 13, Op.move (Operand.tmp 1), none⟩, []⟩,
  ⟨⟨some 14, Op.convert 116 149 (Operand.tmp 13), none⟩, []⟩,
  ⟨⟨some 15, Op.call { callee := (Callee.value (Operand.func 194)), args := #[(Operand.tmp 12), (Operand.tmp 14)], argTypes := #[149, 149] }, none⟩, []⟩,
  ⟨⟨some 10, Op.move (Operand.tmp 15), none⟩, []⟩,
  ⟨⟨some 16, Op.extract (Operand.tmp 10) 0, none⟩, []⟩,
  ⟨⟨some 17, Op.extract (Operand.tmp 10) 1, none⟩, []⟩,
  ⟨⟨some 6, Op.assign (Operand.tmp 16), none⟩, []⟩,
  ⟨⟨some 7, Op.assign (Operand.tmp 17), none⟩, []⟩]) (.seq (.reg [⟨⟨some 18, Op.move (Operand.tmp 6), none⟩, []⟩,
  ⟨⟨some 19, Op.convert 149 116 (Operand.tmp 18), none⟩, []⟩,
  ⟨⟨some 20, Op.move (Operand.tmp 7), none⟩, []⟩,
  ⟨⟨some 21, Op.convert 149 116 (Operand.tmp 20), none⟩, []⟩,
  ⟨⟨some 4, Op.assign (Operand.tmp 19), none⟩, []⟩,
  ⟨⟨some 5, Op.assign (Operand.tmp 21), none⟩, []⟩]) .ret)) .skip) (.seq (.reg [⟨⟨some 23, Op.move (Operand.tmp 0), none⟩, []⟩,
  ⟨⟨some 24, Op.move (Operand.tmp 1), none⟩, []⟩,
  ⟨⟨some 25, Op.call { callee := (Callee.value (Operand.func 195)), args := #[(Operand.tmp 23), (Operand.tmp 24)], argTypes := #[151, 151] }, none⟩, []⟩,
  ⟨⟨some 22, Op.move (Operand.tmp 25), none⟩, []⟩,
  ⟨⟨some 26, Op.extract (Operand.tmp 22) 0, none⟩, []⟩,
  ⟨⟨some 27, Op.extract (Operand.tmp 22) 1, none⟩, []⟩,
  ⟨⟨some 8, Op.assign (Operand.tmp 26), none⟩, []⟩,
  ⟨⟨some 9, Op.assign (Operand.tmp 27), none⟩, []⟩]) (.seq (.reg [⟨⟨some 28, Op.move (Operand.tmp 8), none⟩, []⟩,
  ⟨⟨some 29, Op.move (Operand.tmp 9), none⟩, []⟩,
  ⟨⟨some 4, Op.assign (Operand.tmp 28), none⟩, []⟩,
  ⟨⟨some 5, Op.assign (Operand.tmp 29), none⟩, []⟩]) .ret))))
theorem sl169 : slim Try.f169.ntmps ords169 (Try.f169.body.getD .skip) = some cd169 := by kernel_rfl
theorem in169 {args : List Value} {H : AH} {R : Value → AH → Prop} (hl : args.length = 2) (h : ∀ (Q : Exit → Sl → AH → Prop), (∀ e s H, endA Try.prog [ResultVar.tmp 4, ResultVar.tmp 5] R e s H → Q e s H) → wpC Try.prog cd169 Q (enterA args) H) : ACalls Try.prog 169 args H R :=
  ACalls.intro (by kernel_rfl) Try.func169 rfl (by kernel_rfl) sl169 hl (of_decide_eq_true (by kernel_rfl)) (by kernel_rfl) h

/- slices.Repeat[[]int,int] -/
def ords154 : List (Nat × List (Nat × Bool)) := [(9, [(0, false), (1, false), (2, false), (3, false), (4, false), (5, false), (6, false), (7, true), (8, false), (9, true)])]
def cd154 : Cd := (.seq (.reg [⟨⟨some 4, Op.assign (Operand.const (Value.slice none 0 0)), none⟩, []⟩]) (.seq (.seq (.reg [⟨⟨some 9, Op.move (Operand.tmp 1), none⟩, []⟩,
  ⟨⟨some 10, Op.binOp BinOp.lss 3 (Operand.tmp 9) (Operand.const (Value.int IntKind.i64 0)) 3, none⟩, []⟩]) (.cond (Operand.tmp 10) (.reg [⟨⟨some 11, Op.makeInterface 9 (Operand.const (Value.string { data := #[99, 97, 110, 110, 111, 116, 32, 98, 101, 32, 110, 101, 103, 97, 116, 105, 118, 101] })), none⟩, []⟩,
  ⟨⟨none, Op.panic (Operand.tmp 11), none⟩, []⟩]) .skip)) (.seq (.reg [⟨⟨some 13, Op.move (Operand.tmp 0), none⟩, []⟩,
  ⟨⟨some 14, Op.call { callee := (Callee.builtin Builtin.len), args := #[(Operand.tmp 13)], argTypes := #[32] }, none⟩, []⟩,
  ⟨⟨some 15, Op.convert 3 116 (Operand.tmp 14), none⟩, []⟩,
  ⟨⟨some 16, Op.move (Operand.tmp 1), none⟩, []⟩,
  ⟨⟨some 17, Op.convert 3 116 (Operand.tmp 16), none⟩, []⟩,
  ⟨⟨some 18, Op.call { callee := (Callee.value (Operand.func 169)), args := #[(Operand.tmp 15), (Operand.tmp 17)], argTypes := #[116, 116] }, none⟩, []⟩,
  ⟨⟨some 12, Op.move (Operand.tmp 18), none⟩, []⟩,
  ⟨⟨some 19, Op.extract (Operand.tmp 12) 0, none⟩, []⟩,
  ⟨⟨some 20, Op.extract (Operand.tmp 12) 1, none⟩, []⟩,
  ⟨⟨some 5, Op.assign (Operand.tmp 19), none⟩, []⟩,
  ⟨⟨some 6, Op.assign (Operand.tmp 20), none⟩, []⟩]) (.seq (.seq (.reg [⟨⟨some 21, Op.move (Operand.tmp 5), none⟩, []⟩,
  ⟨⟨some 22, Op.binOp BinOp.gtr 116 (Operand.tmp 21) (Operand.const (Value.int IntKind.u64 0)) 116, none⟩, []⟩,
  ⟨⟨some 23, Op.move (Operand.tmp 22), none⟩, []⟩,
  ⟨⟨some 24, Op.move (Operand.tmp 6), some (23, false)⟩, []⟩,
  ⟨⟨some 25, Op.binOp BinOp.gtr 116 (Operand.tmp 24) (Operand.const (Value.int IntKind.u64 9223372036854775807)) 116, some (23, false)⟩, []⟩,
  ⟨⟨some 26, Op.pick (Operand.tmp 23) (Operand.const (Value.bool true)) (Operand.tmp 25), none⟩, []⟩]) (.cond (Operand.tmp 26) (.reg [⟨⟨some 27, Op.makeInterface 9 (Operand.const (Value.string { data := #[116, 104, 101, 32, 114, 101, 115, 117, 108, 116, 32, 111, 102, 32, 40, 108, 101, 110, 40, 120, 41, 32, 42, 32, 99, 111, 117, 110, 116, 41, 32, 111, 118, 101, 114, 102, 108, 111, 119, 115] })), none⟩, []⟩,
  ⟨⟨none, Op.panic (Operand.tmp 27), none⟩, []⟩]) .skip)) (.seq (.reg [⟨⟨some 28, Op.move (Operand.tmp 6), none⟩, []⟩,
  ⟨⟨some 29, Op.convert 116 3 (Operand.tmp 28), none⟩, []⟩,
  ⟨⟨some 30, Op.makeSlice 32 (Operand.tmp 29) (Operand.tmp 29), none⟩, []⟩,
  ⟨⟨some 7, Op.assign (Operand.tmp 30), none⟩, []⟩]) (.seq (.reg [⟨⟨some 31, Op.move (Operand.tmp 7), none⟩, []⟩,
  ⟨⟨some 32, Op.move (Operand.tmp 0), none⟩, []⟩,
  ⟨⟨some 33, Op.call { callee := (Callee.builtin Builtin.copy), args := #[(Operand.tmp 31), (Operand.tmp 32)], argTypes := #[32, 32] }, none⟩, []⟩,
  ⟨⟨some 8, Op.assign (Operand.tmp 33), none⟩, []⟩]) (.seq (.block 0 (.loop (.seq (.seq (.reg [⟨⟨some 34, Op.move (Operand.tmp 8), none⟩, []⟩,
  ⟨⟨some 35, Op.move (Operand.tmp 7), none⟩, []⟩,
  ⟨⟨some 36, Op.call { callee := (Callee.builtin Builtin.len), args := #[(Operand.tmp 35)], argTypes := #[32] }, none⟩, []⟩,
  ⟨⟨some 37, Op.binOp BinOp.lss 3 (Operand.tmp 34) (Operand.tmp 36) 3, none⟩, []⟩]) (.cond (Operand.tmp 37) .skip (.exit 0))) (.block 1 (.reg [⟨⟨some 38, Op.move (Operand.tmp 8), none⟩, []⟩,
  ⟨⟨some 39, Op.move (Operand.tmp 7), none⟩, []⟩,
  ⟨⟨some 40, Op.move (Operand.tmp 8), none⟩, []⟩,
  ⟨⟨some 41, Op.slice 32 (Operand.tmp 39) (some (Operand.tmp 40)) none none, none⟩, []⟩,
  ⟨⟨some 42, Op.move (Operand.tmp 7), none⟩, []⟩,
  ⟨⟨some 43, Op.move (Operand.tmp 8), none⟩, []⟩,
  ⟨⟨some 44, Op.slice 32 (Operand.tmp 42) none (some (Operand.tmp 43)) none, none⟩, []⟩,
  ⟨⟨some 45, Op.call { callee := (Callee.builtin Builtin.copy), args := #[(Operand.tmp 41), (Operand.tmp 44)], argTypes := #[32, 32] }, none⟩, []⟩,
  ⟨⟨some 46, Op.binOp BinOp.add 3 (Operand.tmp 38) (Operand.tmp 45) 3, none⟩, []⟩,
  ⟨⟨some 8, Op.assign (Operand.tmp 46), none⟩, []⟩]))))) (.seq (.reg [⟨⟨some 47, Op.move (Operand.tmp 7), none⟩, []⟩,
  ⟨⟨some 4, Op.assign (Operand.tmp 47), none⟩, []⟩]) .ret))))))))
theorem sl154 : slim Try.f154.ntmps ords154 (Try.f154.body.getD .skip) = some cd154 := by kernel_rfl
theorem in154 {args : List Value} {H : AH} {R : Value → AH → Prop} (hl : args.length = 2) (h : ∀ (Q : Exit → Sl → AH → Prop), (∀ e s H, endA Try.prog [ResultVar.tmp 4] R e s H → Q e s H) → wpC Try.prog cd154 Q (enterA args) H) : ACalls Try.prog 154 args H R :=
  ACalls.intro (by kernel_rfl) Try.func154 rfl (by kernel_rfl) sl154 hl (of_decide_eq_true (by kernel_rfl)) (by kernel_rfl) h
end Go.Proofs.Ythhnpchjjbjabaa.Ai

namespace Go.Proofs.Ythhnpchjjbjabaa.Ai
open Go Go.RowKit
set_option linter.unusedVariables false
set_option linter.unusedSimpArgs false

/-- a part of an object -/
theorem sl_own {P : Program} {t e : TypeId} (hu : P.underlying t = some (.slice e)) (hc : P.cellsOf e = 1) {H : AH} {o k n c : Nat} {vs : List Value} {ro : Bool} (ho : H[o]? = some (.cells vs e ro)) {lo hi : Option Value} {l r : Nat} (h1 : boundA lo 0 = some l) (h2 : boundA hi n = some r) (hl : l ≤ r) (hr : r ≤ n) :
    sliceA P t (.slice (some ⟨o, k, none⟩) n c) lo hi none H = some (.slice (some ⟨o, k + l, none⟩) (r - l) (r - l)) := by
  simp only [sliceA, hu, h1, h2, ho, hc, Nat.mul_one]
  rw [if_pos ⟨hl, hr, trivial, Nat.one_pos⟩]
/-- a row, copied into one's own -/
theorem cp_ints {P : Program} {t e : TypeId} (hu : P.underlying t = some (.slice e)) (hc : P.cellsOf e = 1) {H : AH} {o k n c : Nat} {xs ys : List Int} {x : Value} (ho : H[o]? = some (.cells (ints xs) e false)) (hr : Row e H x ys) (hm : 0 < ys.length) (hn : 0 < n) (hb : k + n ≤ xs.length) :
    copyA P t (.slice (some ⟨o, k, none⟩) n c) x H = some (.int .i64 ((min ys.length n : Nat) : Int), H.set o (.cells (ints (xs.take k ++ ys.take (min ys.length n) ++ xs.drop (k + min ys.length n))) e false)) := by
  have hs := hr.cells (P := P) hc
  simp only [copyA, hu, ho, hs, hc, Nat.mul_one]
  rw [if_pos ⟨trivial, Nat.one_pos, hm, hn, by rw [ints_len]; exact hb⟩]
  have : putAt (ints xs) k ((ints ys).take (min ys.length n)) = ints (xs.take k ++ ys.take (min ys.length n) ++ xs.drop (k + min ys.length n)) := by
    unfold putAt
    have e1 : ((ints ys).take (min ys.length n)).length = min ys.length n := by rw [List.length_take, ints_len]; omega
    rw [e1]
    simp [ints, List.map_take, List.map_drop]
  rw [this]

theorem mul_one_u (P : Program) (t : TypeId) (n : Nat) (h : n < 18446744073709551616) : binA P .mul t (.int .u64 1) (.int .u64 (n : Int)) = some (.int .u64 (n : Int)) := by
  simp only [binA, intA, Int.one_mul, IntKind.wrap_u64]
  simp
  omega
theorem mul_zero_u (P : Program) (t : TypeId) (n : Nat) : binA P .mul t (.int .u64 0) (.int .u64 (n : Int)) = some (.int .u64 0) := by
  simp only [binA, intA, Int.zero_mul, IntKind.wrap_u64]
  simp
theorem shr32 (P : Program) (t : TypeId) (n : Nat) (h : n < 4294967296) : binA P .shr t (.int .u64 (n : Int)) (.int .u64 32) = some (.int .u64 0) := by
  simp only [binA, shiftA]
  rw [if_pos (.inr trivial), if_neg (by decide)]
  congr 2
  have : (2 ^ min (32 : Int).toNat IntKind.u64.bits : Int) = 4294967296 := by decide
  rw [this, Int.fdiv_eq_ediv_of_nonneg _ (by decide)]
  omega
theorem and32 (P : Program) (t : TypeId) (n : Nat) (h : n < 4294967296) : binA P .and t (.int .u64 (n : Int)) (.int .u64 4294967295) = some (.int .u64 (n : Int)) := by
  have := bin_and P t n 4294967295 (by omega) (by decide)
  have e : n &&& 4294967295 = n := by
    rw [show 4294967295 = 2 ^ 32 - 1 from rfl, Nat.and_two_pow_sub_one_eq_mod]
    exact Nat.mod_eq_of_lt h
  rw [e] at this
  exact this

set_option maxRecDepth 20000 in
theorem Mul64_c (n : Nat) (H : AH) (hn : n < 4294967296) : ACalls Try.prog 195 [.int .u64 1, .int .u64 (n : Int)] H fun r H' => r = .tuple (List.toArray [.int .u64 0, .int .u64 (n : Int)]) ∧ H = H' := by
  refine in195 rfl ?_
  intro Q hQ
  have k1 : binA Try.prog .and 151 (.int .u64 1) (.int .u64 4294967295) = some (.int .u64 1) := by kernel_rfl
  have k2 : binA Try.prog .shr 151 (.int .u64 1) (.int .u64 32) = some (.int .u64 0) := by kernel_rfl
  have k3 := and32 Try.prog 151 n hn
  have k4 := shr32 Try.prog 151 n hn
  have k5 := mul_one_u Try.prog 151 n (by omega)
  have k6 := mul_zero_u Try.prog 151 n
  have k7 : binA Try.prog .add 151 (.int .u64 0) (.int .u64 0) = some (.int .u64 0) := by kernel_rfl
  have k8 : binA Try.prog .and 151 (.int .u64 0) (.int .u64 4294967295) = some (.int .u64 0) := by kernel_rfl
  have k9 : binA Try.prog .shr 151 (.int .u64 0) (.int .u64 32) = some (.int .u64 0) := by kernel_rfl
  have k10 : binA Try.prog .mul 151 (.int .u64 1) (.int .u64 0) = some (.int .u64 0) := by kernel_rfl
  have k11 : binA Try.prog .mul 151 (.int .u64 0) (.int .u64 0) = some (.int .u64 0) := by kernel_rfl
  simp (maxSteps := 1000000) (disch := omega) only [cd195, k1, k2, k3, k4, k5, k6, k7, k8, k9, k10, k11, S, S1, S2, S3, S4, S5, ST, eq_self, reduceIte, reduceCtorEq, Nat.reduceEqDiff, Nat.reduceAdd]
  refine hQ _ _ _ ?_
  simp (maxSteps := 1000000) (disch := omega) only [S, S1, S2, S3, S4, S5, ST, eq_self, reduceIte, reduceCtorEq, Nat.reduceEqDiff, Nat.reduceAdd]

theorem Mul_c (n : Nat) (H : AH) (hn : n < 4294967296) : ACalls Try.prog 169 [.int .u64 1, .int .u64 (n : Int)] H fun r H' => r = .tuple (List.toArray [.int .u64 0, .int .u64 (n : Int)]) ∧ H = H' := by
  refine in169 rfl ?_
  intro Q hQ
  simp (maxSteps := 1000000) (disch := omega) only [cd169, S, S1, S2, S3, S4, S5, ST, eq_self, reduceIte, reduceCtorEq, Nat.reduceEqDiff, Nat.reduceAdd]
  refine CallH.by (Mul64_c n H hn) ?_
  rintro _ _ ⟨rfl, rfl⟩
  simp (maxSteps := 1000000) (disch := omega) only [S, S1, S2, S3, S4, S5, ST, eq_self, reduceIte, reduceCtorEq, Nat.reduceEqDiff, Nat.reduceAdd]
  refine hQ _ _ _ ?_
  simp (maxSteps := 1000000) (disch := omega) only [S, S1, S2, S3, S4, S5, ST, eq_self, reduceIte, reduceCtorEq, Nat.reduceEqDiff, Nat.reduceAdd]

def rpN (N k : Nat) : List Int := List.replicate k (-1) ++ List.replicate (N - k) 0
theorem rpN_step (N k : Nat) (hk : k ≤ N) : (rpN N k).take k ++ (List.replicate k (-1 : Int)).take (min k (N - k)) ++ (rpN N k).drop (k + min k (N - k)) = rpN N (k + min k (N - k)) := by
  unfold rpN
  rw [List.take_left' (by simp), List.take_replicate, ← List.drop_drop, List.drop_left' (by simp), List.drop_replicate, List.replicate_append_replicate]
  congr 2 <;> omega
theorem rpN_take (N k : Nat) : (rpN N k).take k = List.replicate k (-1) := by
  unfold rpN
  rw [List.take_left' (by simp)]
theorem rpN_len (N k : Nat) (h : k ≤ N) : (rpN N k).length = N := by simp [rpN]; omega

set_option maxRecDepth 20000 in
set_option maxHeartbeats 1000000 in
theorem Repeat_c (v : Value) (N : Nat) (H : AH) (hr : Row 3 H v [-1]) (hN : 1 ≤ N ∧ N ≤ 1000000000) : ACalls Try.prog 154 [v, .int .i64 (N : Int)] H fun r H' => Own 3 H H' r (List.replicate N (-1)) ∧ H <+: H' := by
  refine in154 rfl ?_
  intro Q hQ
  have hU : IntKind.u64.wrap (N : Int) = (N : Int) := by rw [IntKind.wrap_u64]; omega
  have hU1 : IntKind.u64.wrap 1 = 1 := by decide
  simp (maxSteps := 1000000) (disch := omega) only [cd154, hr.len Try.underlying32, S, S1, S2, S3, S4, S5, ST, eq_self, reduceIte, reduceCtorEq, Nat.reduceEqDiff, Nat.reduceAdd]
  refine brD.intro (fun g => absurd g (by omega)) (fun g => ?_)
  have hl1 : (([-1] : List Int).length : Int) = 1 := rfl
  simp (maxSteps := 1000000) (disch := omega) only [hr.len Try.underlying32, hU, hl1, hU1, S, S1, S2, S3, S4, S5, ST, eq_self, reduceIte, reduceCtorEq, Nat.reduceEqDiff, Nat.reduceAdd]
  refine CallH.by (Mul_c N H (by omega)) ?_
  rintro _ _ ⟨rfl, rfl⟩
  have d0 : ¬ ((0 : Int) > 0) := by decide
  simp (maxSteps := 1000000) (disch := omega) only [d0, S, S1, S2, S3, S4, S5, ST, eq_self, reduceIte, reduceCtorEq, Nat.reduceEqDiff, Nat.reduceAdd]
  refine brD.intro (fun g => absurd g (by omega)) (fun g2 => ?_)
  simp (maxSteps := 1000000) (disch := omega) only [wrap64, mks32, Int.toNat_natCast, S, S1, S2, S3, S4, S5, ST, eq_self, reduceIte, reduceCtorEq, Nat.reduceEqDiff, Nat.reduceAdd]
  generalize hz : H ++ [AObj.cells (ints (List.replicate N 0)) 3 false] = Z
  have pZ : H <+: Z := by rw [← hz]; exact List.prefix_append _ _
  have cZ : Z[H.length]? = some (.cells (ints (List.replicate N 0)) 3 false) := by rw [← hz]; exact at_new ..
  have c1 := cp_ints (P := Try.prog) (t := 32) (k := 0) (n := N) (c := N) Try.underlying32 cs3 cZ (hr.pre pZ) (by decide) (by omega) (by simp)
  have e1 : min ([-1] : List Int).length N = 1 := by simp; omega
  have e2 : (List.replicate N (0 : Int)).take 0 ++ ([-1] : List Int).take 1 ++ (List.replicate N (0 : Int)).drop (0 + 1) = rpN N 1 := by simp [rpN, List.drop_replicate]
  rw [e1, e2] at c1
  simp (maxSteps := 1000000) (disch := omega) only [c1, S, S1, S2, S3, S4, S5, ST, eq_self, reduceIte, reduceCtorEq, Nat.reduceEqDiff, Nat.reduceAdd]
  refine LoopH.by (fun m s H' => ∃ k, m + k = N ∧ 1 ≤ k ∧ s 7 = .slice (some ⟨H.length, 0, none⟩) N N ∧ s 8 = .int .i64 ((k : Nat) : Int) ∧ H' = Z.set H.length (.cells (ints (rpN N k)) 3 false)) (N - 1) ?_ ?_
  · exact ⟨1, by omega, by omega, rfl, rfl, rfl⟩
  · rintro m s H' ⟨k, hm, hk1, h7, h8, rfl⟩
    have cK : (Z.set H.length (.cells (ints (rpN N k)) 3 false))[H.length]? = some (.cells (ints (rpN N k)) 3 false) := at_set cZ
    simp (maxSteps := 1000000) (disch := omega) only [h7, h8, S, S1, S2, S3, S4, S5, ST, eq_self, reduceIte, reduceCtorEq, Nat.reduceEqDiff, Nat.reduceAdd]
    refine brD.intro (fun g => ?_) (fun g => ?_)
    · have hk : k < N := by omega
      have s1 := sl_own (P := Try.prog) (t := 32) (k := 0) (n := N) (c := N) Try.underlying32 cs3 cK (bound_some (k := .i64) (i := (k : Int)) (by omega) 0) (hi_none N) (show ((k : Int)).toNat ≤ N by omega) (Nat.le_refl _)
      have s2 := sl_own (P := Try.prog) (t := 32) (k := 0) (n := N) (c := N) Try.underlying32 cs3 cK lo_none (bound_some (k := .i64) (i := (k : Int)) (by omega) N) (Nat.zero_le _) (show ((k : Int)).toNat ≤ N by omega)
      simp only [Int.toNat_natCast, Nat.zero_add, Nat.sub_zero] at s1 s2
      have hrk : Row 3 (Z.set H.length (.cells (ints (rpN N k)) 3 false)) (.slice (some ⟨H.length, 0, none⟩) k k) (List.replicate k (-1)) := by
        refine .inr ⟨H.length, 0, ints (rpN N k), false, by simp, cK, by rw [ints_len, rpN_len N k (by omega)]; simp; omega, ?_⟩
        rw [List.length_replicate, List.drop_zero]
        have : (ints (rpN N k)).take k = ints ((rpN N k).take k) := by simp [ints, List.map_take]
        rw [this, rpN_take]
      have c2 := cp_ints (P := Try.prog) (t := 32) (k := k) (n := N - k) (c := N - k) Try.underlying32 cs3 cK hrk (by simp; omega) (by omega) (by rw [rpN_len N k (by omega)]; omega)
      rw [List.length_replicate, rpN_step N k (by omega), List.set_set] at c2
      simp (maxSteps := 1000000) (disch := omega) only [h7, h8, s1, s2, c2, wrap64, S, S1, S2, S3, S4, S5, ST, eq_self, reduceIte, reduceCtorEq, Nat.reduceEqDiff, Nat.reduceAdd]
      refine ⟨m - min k (N - k), by omega, k + min k (N - k), ?_⟩
      (repeat' apply And.intro) <;> first | (simp only [Value.int.injEq, true_and]; omega) | omega | rfl | assumption | (simp; done) | (simp; omega)
    · simp (maxSteps := 1000000) (disch := omega) only [h7, S, S1, S2, S3, S4, S5, ST, eq_self, reduceIte, reduceCtorEq, Nat.reduceEqDiff, Nat.reduceAdd]
      refine hQ _ _ _ ?_
      simp (maxSteps := 1000000) (disch := omega) only [h7, S, S1, S2, S3, S4, S5, ST, eq_self, reduceIte, reduceCtorEq, Nat.reduceEqDiff, Nat.reduceAdd]
      have : k = N := by omega
      subst this
      have e3 : rpN k k = List.replicate k (-1) := by simp [rpN]
      rw [e3]
      have hZ := at_set (d := .cells (ints (List.replicate k (-1))) 3 false) cZ
      exact ⟨.inr ⟨H.length, by rw [List.length_replicate], Nat.le_refl _, hZ⟩, pre_set pZ (Nat.le_refl _) _⟩
theorem rpN_set (N j : Nat) (hj : j < N) : (rpN N j).set j (-1) = rpN N (j + 1) := by
  unfold rpN
  rw [List.set_append_right _ _ (by simp)]
  obtain ⟨n, hn⟩ : ∃ n, N - j = n + 1 := ⟨N - j - 1, by omega⟩
  rw [hn, List.length_replicate, Nat.sub_self, List.replicate_succ, List.set_cons_zero, List.replicate_succ', List.append_assoc]
  have : N - (j + 1) = n := by omega
  rw [this]; rfl
end Go.Proofs.Ythhnpchjjbjabaa.Ai
