/- Texts of this claim, joined: Rep, Bfs, Clone, SpW, Lst, Trg, CycP, SrtP, Swp, Fill, IdxL, Valid, At, Lone. -/
import Derived.Test.YtlfongfhbkefmaaProg
import Derived.KernelRfl
import Derived.Test.YtlfongfhbkefmaaMgLawPd4
namespace Go.Proofs.Ytlfongfhbkefmaa.Ai
open Go
def ords276 : List (Nat × List (Nat × Bool)) := []
def cd276 : Cd := (.seq (.reg [⟨⟨some 4, Op.assign (Operand.const (Value.int IntKind.u64 0)), none⟩, []⟩,
  ⟨⟨some 5, Op.assign (Operand.const (Value.int IntKind.u64 0)), none⟩, []⟩]) (.seq (.reg [⟨⟨some 14, Op.move (Operand.tmp 0), none⟩, []⟩,
  ⟨⟨some 15, Op.binOp BinOp.and 122 (Operand.tmp 14) (Operand.const (Value.int IntKind.u64 4294967295)) 122, none⟩, []⟩,
  ⟨⟨some 6, Op.assign (Operand.tmp 15), none⟩, []⟩]) (.seq (.reg [⟨⟨some 16, Op.move (Operand.tmp 0), none⟩, []⟩,
  ⟨⟨some 17, Op.binOp BinOp.shr 122 (Operand.tmp 16) (Operand.const (Value.int IntKind.u64 32)) 97, none⟩, []⟩,
  ⟨⟨some 7, Op.assign (Operand.tmp 17), none⟩, []⟩]) (.seq (.reg [⟨⟨some 18, Op.move (Operand.tmp 1), none⟩, []⟩,
  ⟨⟨some 19, Op.binOp BinOp.and 122 (Operand.tmp 18) (Operand.const (Value.int IntKind.u64 4294967295)) 122, none⟩, []⟩,
  ⟨⟨some 8, Op.assign (Operand.tmp 19), none⟩, []⟩]) (.seq (.reg [⟨⟨some 20, Op.move (Operand.tmp 1), none⟩, []⟩,
  ⟨⟨some 21, Op.binOp BinOp.shr 122 (Operand.tmp 20) (Operand.const (Value.int IntKind.u64 32)) 97, none⟩, []⟩,
  ⟨⟨some 9, Op.assign (Operand.tmp 21), none⟩, []⟩]) (.seq (.reg [⟨⟨some 22, Op.move (Operand.tmp 6), none⟩, []⟩,
  ⟨⟨some 23, Op.move (Operand.tmp 8), none⟩, []⟩,
  ⟨⟨some 24, Op.binOp BinOp.mul 122 (Operand.tmp 22) (Operand.tmp 23) 122, none⟩, []⟩,
  ⟨⟨some 10, Op.assign (Operand.tmp 24), none⟩, []⟩]) (.seq (.reg [⟨⟨some 25, Op.move (Operand.tmp 7), none⟩, []⟩,
  ⟨⟨some 26, Op.move (Operand.tmp 8), none⟩, []⟩,
  ⟨⟨some 27, Op.binOp BinOp.mul 122 (Operand.tmp 25) (Operand.tmp 26) 122, none⟩, []⟩,
  ⟨⟨some 28, Op.move (Operand.tmp 10), none⟩, []⟩,
  ⟨⟨some 29, Op.binOp BinOp.shr 122 (Operand.tmp 28) (Operand.const (Value.int IntKind.u64 32)) 97, none⟩, []⟩,
  ⟨⟨some 30, Op.binOp BinOp.add 122 (Operand.tmp 27) (Operand.tmp 29) 122, none⟩, []⟩,
  ⟨⟨some 11, Op.assign (Operand.tmp 30), none⟩, []⟩]) (.seq (.reg [⟨⟨some 31, Op.move (Operand.tmp 11), none⟩, []⟩,
  ⟨⟨some 32, Op.binOp BinOp.and 122 (Operand.tmp 31) (Operand.const (Value.int IntKind.u64 4294967295)) 122, none⟩, []⟩,
  ⟨⟨some 12, Op.assign (Operand.tmp 32), none⟩, []⟩]) (.seq (.reg [⟨⟨some 33, Op.move (Operand.tmp 11), none⟩, []⟩,
  ⟨⟨some 34, Op.binOp BinOp.shr 122 (Operand.tmp 33) (Operand.const (Value.int IntKind.u64 32)) 97, none⟩, []⟩,
  ⟨⟨some 13, Op.assign (Operand.tmp 34), none⟩, []⟩]) (.seq (.reg [⟨⟨some 35, Op.move (Operand.tmp 12), none⟩, []⟩,
  ⟨⟨some 36, Op.move (Operand.tmp 6), none⟩, []⟩,
  ⟨⟨some 37, Op.move (Operand.tmp 9), none⟩, []⟩,
  ⟨⟨some 38, Op.binOp BinOp.mul 122 (Operand.tmp 36) (Operand.tmp 37) 122, none⟩, []⟩,
  ⟨⟨some 39, Op.binOp BinOp.add 122 (Operand.tmp 35) (Operand.tmp 38) 122, none⟩, []⟩,
  ⟨⟨some 12, Op.assign (Operand.tmp 39), none⟩, []⟩]) (.seq (.reg [⟨⟨some 40, Op.move (Operand.tmp 7), none⟩, []⟩,
  ⟨⟨some 41, Op.move (Operand.tmp 9), none⟩, []⟩,
  ⟨⟨some 42, Op.binOp BinOp.mul 122 (Operand.tmp 40) (Operand.tmp 41) 122, none⟩, []⟩,
  ⟨⟨some 43, Op.move (Operand.tmp 13), none⟩, []⟩,
  ⟨⟨some 44, Op.binOp BinOp.add 122 (Operand.tmp 42) (Operand.tmp 43) 122, none⟩, []⟩,
  ⟨⟨some 45, Op.move (Operand.tmp 12), none⟩, []⟩,
  ⟨⟨some 46, Op.binOp BinOp.shr 122 (Operand.tmp 45) (Operand.const (Value.int IntKind.u64 32)) 97, none⟩, []⟩,
  ⟨⟨some 47, Op.binOp BinOp.add 122 (Operand.tmp 44) (Operand.tmp 46) 122, none⟩, []⟩,
  ⟨⟨some 4, Op.assign (Operand.tmp 47), none⟩, []⟩]) (.seq (.reg [⟨⟨some 48, Op.move (Operand.tmp 0), none⟩, []⟩,
  ⟨⟨some 49, Op.move (Operand.tmp 1), none⟩, []⟩,
  ⟨⟨some 50, Op.binOp BinOp.mul 122 (Operand.tmp 48) (Operand.tmp 49) 122, none⟩, []⟩,
  ⟨⟨some 5, Op.assign (Operand.tmp 50), none⟩, []⟩]) .ret))))))))))))
theorem sl276 : slim Try.f276.ntmps ords276 (Try.f276.body.getD .skip) = some cd276 := by kernel_rfl
theorem in276 {args : List Value} {H : AH} {R : Value → AH → Prop} (hl : args.length = 2) (h : ∀ (Q : Exit → Sl → AH → Prop), (∀ e s H, endA Try.prog [ResultVar.tmp 4, ResultVar.tmp 5] R e s H → Q e s H) → wpC Try.prog cd276 Q (enterA args) H) : ACalls Try.prog 276 args H R :=
  ACalls.intro (by kernel_rfl) Try.func276 rfl (by kernel_rfl) sl276 hl (of_decide_eq_true (by kernel_rfl)) (by kernel_rfl) h
def ords272 : List (Nat × List (Nat × Bool)) := []
def cd272 : Cd := (.seq (.reg [⟨⟨some 4, Op.assign (Operand.const (Value.int IntKind.u64 0)), none⟩, []⟩,
  ⟨⟨some 5, Op.assign (Operand.const (Value.int IntKind.u64 0)), none⟩, []⟩]) (.seq (.cond (Operand.const (Value.bool false)) (.seq (.reg [⟨⟨some 11, Op.move (Operand.tmp 0), none⟩, []⟩,
  ⟨⟨some 12, Op.convert 97 182 (Operand.tmp 11), none⟩, []⟩,
  ⟨⟨some 13, Op.move (Operand.tmp 1), none⟩, []⟩,
  ⟨⟨some 14, Op.convert 97 182 (Operand.tmp 13), none⟩, []⟩,
  ⟨⟨some 15, Op.call { callee := (Callee.value (Operand.func 275)), args := #[(Operand.tmp 12), (Operand.tmp 14)], argTypes := #[182, 182] }, none⟩, []⟩,
  ⟨⟨some 10, Op.move (Operand.tmp 15), none⟩, []⟩,
  ⟨⟨some 16, Op.extract (Operand.tmp 10) 0, none⟩, []⟩,
  ⟨⟨some 17, Op.extract (Operand.tmp 10) 1, none⟩, []⟩,
  ⟨⟨some 6, Op.assign (Operand.tmp 16), none⟩, []⟩,
  ⟨⟨some 7, Op.assign (Operand.tmp 17), none⟩, []⟩]) (.seq (.reg [⟨⟨some 18, Op.move (Operand.tmp 6), none⟩, []⟩,
  ⟨⟨some 19, Op.convert 182 97 (Operand.tmp 18), none⟩, []⟩,
  ⟨⟨some 20, Op.move (Operand.tmp 7), none⟩, []⟩,
  ⟨⟨some 21, Op.convert 182 97 (Operand.tmp 20), none⟩, []⟩,
  ⟨⟨some 4, Op.assign (Operand.tmp 19), none⟩, []⟩,
  ⟨⟨some 5, Op.assign (Operand.tmp 21), none⟩, []⟩]) .ret)) .skip) (.seq (.reg [⟨⟨some 23, Op.move (Operand.tmp 0), none⟩, []⟩,
  ⟨⟨some 24, Op.move (Operand.tmp 1), none⟩, []⟩,
  ⟨⟨some 25, Op.call { callee := (Callee.value (Operand.func 276)), args := #[(Operand.tmp 23), (Operand.tmp 24)], argTypes := #[122, 122] }, none⟩, []⟩,
  ⟨⟨some 22, Op.move (Operand.tmp 25), none⟩, []⟩,
  ⟨⟨some 26, Op.extract (Operand.tmp 22) 0, none⟩, []⟩,
  ⟨⟨some 27, Op.extract (Operand.tmp 22) 1, none⟩, []⟩,
  ⟨⟨some 8, Op.assign (Operand.tmp 26), none⟩, []⟩,
  ⟨⟨some 9, Op.assign (Operand.tmp 27), none⟩, []⟩]) (.seq (.reg [⟨⟨some 28, Op.move (Operand.tmp 8), none⟩, []⟩,
  ⟨⟨some 29, Op.move (Operand.tmp 9), none⟩, []⟩,
  ⟨⟨some 4, Op.assign (Operand.tmp 28), none⟩, []⟩,
  ⟨⟨some 5, Op.assign (Operand.tmp 29), none⟩, []⟩]) .ret))))
theorem sl272 : slim Try.f272.ntmps ords272 (Try.f272.body.getD .skip) = some cd272 := by kernel_rfl
theorem in272 {args : List Value} {H : AH} {R : Value → AH → Prop} (hl : args.length = 2) (h : ∀ (Q : Exit → Sl → AH → Prop), (∀ e s H, endA Try.prog [ResultVar.tmp 4, ResultVar.tmp 5] R e s H → Q e s H) → wpC Try.prog cd272 Q (enterA args) H) : ACalls Try.prog 272 args H R :=
  ACalls.intro (by kernel_rfl) Try.func272 rfl (by kernel_rfl) sl272 hl (of_decide_eq_true (by kernel_rfl)) (by kernel_rfl) h
def ords264 : List (Nat × List (Nat × Bool)) := [(9, [(0, false), (1, false), (2, false), (3, false), (4, false), (5, false), (6, false), (7, true), (8, false), (9, true)])]
def cd264 : Cd := (.seq (.reg [⟨⟨some 4, Op.assign (Operand.const (Value.slice none 0 0)), none⟩, []⟩]) (.seq (.seq (.reg [⟨⟨some 9, Op.move (Operand.tmp 1), none⟩, []⟩,
  ⟨⟨some 10, Op.binOp BinOp.lss 3 (Operand.tmp 9) (Operand.const (Value.int IntKind.i64 0)) 3, none⟩, []⟩]) (.cond (Operand.tmp 10) (.reg [⟨⟨some 11, Op.makeInterface 9 (Operand.const (Value.string { data := #[99, 97, 110, 110, 111, 116, 32, 98, 101, 32, 110, 101, 103, 97, 116, 105, 118, 101] })), none⟩, []⟩,
  ⟨⟨none, Op.panic (Operand.tmp 11), none⟩, []⟩]) .skip)) (.seq (.reg [⟨⟨some 13, Op.move (Operand.tmp 0), none⟩, []⟩,
  ⟨⟨some 14, Op.call { callee := (Callee.builtin Builtin.len), args := #[(Operand.tmp 13)], argTypes := #[38] }, none⟩, []⟩,
  ⟨⟨some 15, Op.convert 3 97 (Operand.tmp 14), none⟩, []⟩,
  ⟨⟨some 16, Op.move (Operand.tmp 1), none⟩, []⟩,
  ⟨⟨some 17, Op.convert 3 97 (Operand.tmp 16), none⟩, []⟩,
  ⟨⟨some 18, Op.call { callee := (Callee.value (Operand.func 272)), args := #[(Operand.tmp 15), (Operand.tmp 17)], argTypes := #[97, 97] }, none⟩, []⟩,
  ⟨⟨some 12, Op.move (Operand.tmp 18), none⟩, []⟩,
  ⟨⟨some 19, Op.extract (Operand.tmp 12) 0, none⟩, []⟩,
  ⟨⟨some 20, Op.extract (Operand.tmp 12) 1, none⟩, []⟩,
  ⟨⟨some 5, Op.assign (Operand.tmp 19), none⟩, []⟩,
  ⟨⟨some 6, Op.assign (Operand.tmp 20), none⟩, []⟩]) (.seq (.seq (.reg [⟨⟨some 21, Op.move (Operand.tmp 5), none⟩, []⟩,
  ⟨⟨some 22, Op.binOp BinOp.gtr 97 (Operand.tmp 21) (Operand.const (Value.int IntKind.u64 0)) 97, none⟩, []⟩,
  ⟨⟨some 23, Op.move (Operand.tmp 22), none⟩, []⟩,
  ⟨⟨some 24, Op.move (Operand.tmp 6), some (23, false)⟩, []⟩,
  ⟨⟨some 25, Op.binOp BinOp.gtr 97 (Operand.tmp 24) (Operand.const (Value.int IntKind.u64 9223372036854775807)) 97, some (23, false)⟩, []⟩,
  ⟨⟨some 26, Op.pick (Operand.tmp 23) (Operand.const (Value.bool true)) (Operand.tmp 25), none⟩, []⟩]) (.cond (Operand.tmp 26) (.reg [⟨⟨some 27, Op.makeInterface 9 (Operand.const (Value.string { data := #[116, 104, 101, 32, 114, 101, 115, 117, 108, 116, 32, 111, 102, 32, 40, 108, 101, 110, 40, 120, 41, 32, 42, 32, 99, 111, 117, 110, 116, 41, 32, 111, 118, 101, 114, 102, 108, 111, 119, 115] })), none⟩, []⟩,
  ⟨⟨none, Op.panic (Operand.tmp 27), none⟩, []⟩]) .skip)) (.seq (.reg [⟨⟨some 28, Op.move (Operand.tmp 6), none⟩, []⟩,
  ⟨⟨some 29, Op.convert 97 3 (Operand.tmp 28), none⟩, []⟩,
  ⟨⟨some 30, Op.makeSlice 38 (Operand.tmp 29) (Operand.tmp 29), none⟩, []⟩,
  ⟨⟨some 7, Op.assign (Operand.tmp 30), none⟩, []⟩]) (.seq (.reg [⟨⟨some 31, Op.move (Operand.tmp 7), none⟩, []⟩,
  ⟨⟨some 32, Op.move (Operand.tmp 0), none⟩, []⟩,
  ⟨⟨some 33, Op.call { callee := (Callee.builtin Builtin.copy), args := #[(Operand.tmp 31), (Operand.tmp 32)], argTypes := #[38, 38] }, none⟩, []⟩,
  ⟨⟨some 8, Op.assign (Operand.tmp 33), none⟩, []⟩]) (.seq (.block 0 (.loop (.seq (.seq (.reg [⟨⟨some 34, Op.move (Operand.tmp 8), none⟩, []⟩,
  ⟨⟨some 35, Op.move (Operand.tmp 7), none⟩, []⟩,
  ⟨⟨some 36, Op.call { callee := (Callee.builtin Builtin.len), args := #[(Operand.tmp 35)], argTypes := #[38] }, none⟩, []⟩,
  ⟨⟨some 37, Op.binOp BinOp.lss 3 (Operand.tmp 34) (Operand.tmp 36) 3, none⟩, []⟩]) (.cond (Operand.tmp 37) .skip (.exit 0))) (.block 1 (.reg [⟨⟨some 38, Op.move (Operand.tmp 8), none⟩, []⟩,
  ⟨⟨some 39, Op.move (Operand.tmp 7), none⟩, []⟩,
  ⟨⟨some 40, Op.move (Operand.tmp 8), none⟩, []⟩,
  ⟨⟨some 41, Op.slice 38 (Operand.tmp 39) (some (Operand.tmp 40)) none none, none⟩, []⟩,
  ⟨⟨some 42, Op.move (Operand.tmp 7), none⟩, []⟩,
  ⟨⟨some 43, Op.move (Operand.tmp 8), none⟩, []⟩,
  ⟨⟨some 44, Op.slice 38 (Operand.tmp 42) none (some (Operand.tmp 43)) none, none⟩, []⟩,
  ⟨⟨some 45, Op.call { callee := (Callee.builtin Builtin.copy), args := #[(Operand.tmp 41), (Operand.tmp 44)], argTypes := #[38, 38] }, none⟩, []⟩,
  ⟨⟨some 46, Op.binOp BinOp.add 3 (Operand.tmp 38) (Operand.tmp 45) 3, none⟩, []⟩,
  ⟨⟨some 8, Op.assign (Operand.tmp 46), none⟩, []⟩]))))) (.seq (.reg [⟨⟨some 47, Op.move (Operand.tmp 7), none⟩, []⟩,
  ⟨⟨some 4, Op.assign (Operand.tmp 47), none⟩, []⟩]) .ret))))))))
theorem sl264 : slim Try.f264.ntmps ords264 (Try.f264.body.getD .skip) = some cd264 := by kernel_rfl
theorem in264 {args : List Value} {H : AH} {R : Value → AH → Prop} (hl : args.length = 2) (h : ∀ (Q : Exit → Sl → AH → Prop), (∀ e s H, endA Try.prog [ResultVar.tmp 4] R e s H → Q e s H) → wpC Try.prog cd264 Q (enterA args) H) : ACalls Try.prog 264 args H R :=
  ACalls.intro (by kernel_rfl) Try.func264 rfl (by kernel_rfl) sl264 hl (of_decide_eq_true (by kernel_rfl)) (by kernel_rfl) h
end Go.Proofs.Ytlfongfhbkefmaa.Ai
namespace Go.Proofs.Ytlfongfhbkefmaa.Ai
open Go Go.RowKit
set_option linter.unusedVariables false
set_option linter.unusedSimpArgs false
/-- a part of an object -/
theorem sl_own {P : Program} {t e : TypeId} (hu : P.underlying t = some (.slice e)) (hc : P.cellsOf e = 1) {H : AH} {o k n c : Nat} {vs : List Value} {ro : Bool} (ho : H[o]? = some (.cells vs e ro)) {lo hi : Option Value} {l r : Nat} (h1 : boundA lo 0 = some l) (h2 : boundA hi n = some r) (hl : l ≤ r) (hr : r ≤ n) :
    sliceA P t (.slice (some ⟨o, k, none⟩) n c) lo hi none H = some (.slice (some ⟨o, k + l, none⟩) (r - l) (r - l)) := by
  simp only [sliceA, hu, h1, h2, ho, hc, Nat.mul_one]
  rw [if_pos ⟨hl, hr, trivial, Nat.one_pos⟩]
/-- a row, copied into one's own -/
theorem cp_ints {P : Program} {t e : TypeId} (hu : P.underlying t = some (.slice e)) (hc : P.cellsOf e = 1) {H : AH} {o k n c : Nat} {xs ys : List Int} {x : Value} (ho : H[o]? = some (.cells (ints xs) e false)) (hr : Row e H x ys) (hm : 0 < ys.length) (hn : 0 < n) (hb : k + n ≤ xs.length) :
    copyA P t (.slice (some ⟨o, k, none⟩) n c) x H = some (.int .i64 ((min ys.length n : Nat) : Int), H.set o (.cells (ints (xs.take k ++ ys.take (min ys.length n) ++ xs.drop (k + min ys.length n))) e false)) := by
  have hs := hr.cells (P := P) hc
  simp only [copyA, hu, ho, hs, hc, Nat.mul_one]
  rw [if_pos ⟨trivial, Nat.one_pos, hm, hn, by rw [ints_len]; exact hb⟩]
  have : putAt (ints xs) k ((ints ys).take (min ys.length n)) = ints (xs.take k ++ ys.take (min ys.length n) ++ xs.drop (k + min ys.length n)) := by
    unfold putAt
    have e1 : ((ints ys).take (min ys.length n)).length = min ys.length n := by rw [List.length_take, ints_len]; omega
    rw [e1]
    simp [ints, List.map_take, List.map_drop]
  rw [this]
theorem mul_one_u (P : Program) (t : TypeId) (n : Nat) (h : n < 18446744073709551616) : binA P .mul t (.int .u64 1) (.int .u64 (n : Int)) = some (.int .u64 (n : Int)) := by
  simp only [binA, intA, Int.one_mul, IntKind.wrap_u64]
  simp
  omega
theorem mul_zero_u (P : Program) (t : TypeId) (n : Nat) : binA P .mul t (.int .u64 0) (.int .u64 (n : Int)) = some (.int .u64 0) := by
  simp only [binA, intA, Int.zero_mul, IntKind.wrap_u64]
  simp
theorem shr32 (P : Program) (t : TypeId) (n : Nat) (h : n < 4294967296) : binA P .shr t (.int .u64 (n : Int)) (.int .u64 32) = some (.int .u64 0) := by
  simp only [binA, shiftA]
  rw [if_pos (.inr trivial), if_neg (by decide)]
  congr 2
  have : (2 ^ min (32 : Int).toNat IntKind.u64.bits : Int) = 4294967296 := by decide
  rw [this, Int.fdiv_eq_ediv_of_nonneg _ (by decide)]
  omega
theorem and32 (P : Program) (t : TypeId) (n : Nat) (h : n < 4294967296) : binA P .and t (.int .u64 (n : Int)) (.int .u64 4294967295) = some (.int .u64 (n : Int)) := by
  have := bin_and P t n 4294967295 (by omega) (by decide)
  have e : n &&& 4294967295 = n := by
    rw [show 4294967295 = 2 ^ 32 - 1 from rfl, Nat.and_two_pow_sub_one_eq_mod]
    exact Nat.mod_eq_of_lt h
  rw [e] at this
  exact this
set_option maxRecDepth 20000 in
theorem Mul64_c (n : Nat) (H : AH) (hn : n < 4294967296) : ACalls Try.prog 276 [.int .u64 1, .int .u64 (n : Int)] H fun r H' => r = .tuple (List.toArray [.int .u64 0, .int .u64 (n : Int)]) ∧ H = H' := by
  refine in276 rfl ?_
  intro Q hQ
  have k1 : binA Try.prog .and 122 (.int .u64 1) (.int .u64 4294967295) = some (.int .u64 1) := by kernel_rfl
  have k2 : binA Try.prog .shr 122 (.int .u64 1) (.int .u64 32) = some (.int .u64 0) := by kernel_rfl
  have k3 := and32 Try.prog 122 n hn
  have k4 := shr32 Try.prog 122 n hn
  have k5 := mul_one_u Try.prog 122 n (by omega)
  have k6 := mul_zero_u Try.prog 122 n
  have k7 : binA Try.prog .add 122 (.int .u64 0) (.int .u64 0) = some (.int .u64 0) := by kernel_rfl
  have k8 : binA Try.prog .and 122 (.int .u64 0) (.int .u64 4294967295) = some (.int .u64 0) := by kernel_rfl
  have k9 : binA Try.prog .shr 122 (.int .u64 0) (.int .u64 32) = some (.int .u64 0) := by kernel_rfl
  have k10 : binA Try.prog .mul 122 (.int .u64 1) (.int .u64 0) = some (.int .u64 0) := by kernel_rfl
  have k11 : binA Try.prog .mul 122 (.int .u64 0) (.int .u64 0) = some (.int .u64 0) := by kernel_rfl
  simp (maxSteps := 1000000) (disch := omega) only [cd276, k1, k2, k3, k4, k5, k6, k7, k8, k9, k10, k11, S, S1, S2, S3, S4, S5, ST, eq_self, reduceIte, reduceCtorEq, Nat.reduceEqDiff, Nat.reduceAdd]
  refine hQ _ _ _ ?_
  simp (maxSteps := 1000000) (disch := omega) only [S, S1, S2, S3, S4, S5, ST, eq_self, reduceIte, reduceCtorEq, Nat.reduceEqDiff, Nat.reduceAdd]
theorem Mul_c (n : Nat) (H : AH) (hn : n < 4294967296) : ACalls Try.prog 272 [.int .u64 1, .int .u64 (n : Int)] H fun r H' => r = .tuple (List.toArray [.int .u64 0, .int .u64 (n : Int)]) ∧ H = H' := by
  refine in272 rfl ?_
  intro Q hQ
  simp (maxSteps := 1000000) (disch := omega) only [cd272, S, S1, S2, S3, S4, S5, ST, eq_self, reduceIte, reduceCtorEq, Nat.reduceEqDiff, Nat.reduceAdd]
  refine CallH.by (Mul64_c n H hn) ?_
  rintro _ _ ⟨rfl, rfl⟩
  simp (maxSteps := 1000000) (disch := omega) only [S, S1, S2, S3, S4, S5, ST, eq_self, reduceIte, reduceCtorEq, Nat.reduceEqDiff, Nat.reduceAdd]
  refine hQ _ _ _ ?_
  simp (maxSteps := 1000000) (disch := omega) only [S, S1, S2, S3, S4, S5, ST, eq_self, reduceIte, reduceCtorEq, Nat.reduceEqDiff, Nat.reduceAdd]
def rpN (N k : Nat) : List Int := List.replicate k (-1) ++ List.replicate (N - k) 0
theorem rpN_step (N k : Nat) (hk : k ≤ N) : (rpN N k).take k ++ (List.replicate k (-1 : Int)).take (min k (N - k)) ++ (rpN N k).drop (k + min k (N - k)) = rpN N (k + min k (N - k)) := by
  unfold rpN
  rw [List.take_left' (by simp), List.take_replicate, ← List.drop_drop, List.drop_left' (by simp), List.drop_replicate, List.replicate_append_replicate]
  congr 2 <;> omega
theorem rpN_take (N k : Nat) : (rpN N k).take k = List.replicate k (-1) := by
  unfold rpN
  rw [List.take_left' (by simp)]
theorem rpN_len (N k : Nat) (h : k ≤ N) : (rpN N k).length = N := by simp [rpN]; omega
set_option maxRecDepth 20000 in
set_option maxHeartbeats 1000000 in
theorem Repeat_c (v : Value) (N : Nat) (H : AH) (hr : Row 3 H v [-1]) (hN : 1 ≤ N ∧ N ≤ 1000000000) : ACalls Try.prog 264 [v, .int .i64 (N : Int)] H fun r H' => Own 3 H H' r (List.replicate N (-1)) ∧ H <+: H' := by
  refine in264 rfl ?_
  intro Q hQ
  have hU : IntKind.u64.wrap (N : Int) = (N : Int) := by rw [IntKind.wrap_u64]; omega
  have hU1 : IntKind.u64.wrap 1 = 1 := by decide
  simp (maxSteps := 1000000) (disch := omega) only [cd264, hr.len Try.underlying38, S, S1, S2, S3, S4, S5, ST, eq_self, reduceIte, reduceCtorEq, Nat.reduceEqDiff, Nat.reduceAdd]
  refine brD.intro (fun g => absurd g (by omega)) (fun g => ?_)
  have hl1 : (([-1] : List Int).length : Int) = 1 := rfl
  simp (maxSteps := 1000000) (disch := omega) only [hr.len Try.underlying38, hU, hl1, hU1, S, S1, S2, S3, S4, S5, ST, eq_self, reduceIte, reduceCtorEq, Nat.reduceEqDiff, Nat.reduceAdd]
  refine CallH.by (Mul_c N H (by omega)) ?_
  rintro _ _ ⟨rfl, rfl⟩
  have d0 : ¬ ((0 : Int) > 0) := by decide
  simp (maxSteps := 1000000) (disch := omega) only [d0, S, S1, S2, S3, S4, S5, ST, eq_self, reduceIte, reduceCtorEq, Nat.reduceEqDiff, Nat.reduceAdd]
  refine brD.intro (fun g => absurd g (by omega)) (fun g2 => ?_)
  simp (maxSteps := 1000000) (disch := omega) only [wrap64, mks38, Int.toNat_natCast, S, S1, S2, S3, S4, S5, ST, eq_self, reduceIte, reduceCtorEq, Nat.reduceEqDiff, Nat.reduceAdd]
  generalize hz : H ++ [AObj.cells (ints (List.replicate N 0)) 3 false] = Z
  have pZ : H <+: Z := by rw [← hz]; exact List.prefix_append _ _
  have cZ : Z[H.length]? = some (.cells (ints (List.replicate N 0)) 3 false) := by rw [← hz]; exact at_new ..
  have c1 := cp_ints (P := Try.prog) (t := 38) (k := 0) (n := N) (c := N) Try.underlying38 cs3 cZ (hr.pre pZ) (by decide) (by omega) (by simp)
  have e1 : min ([-1] : List Int).length N = 1 := by simp; omega
  have e2 : (List.replicate N (0 : Int)).take 0 ++ ([-1] : List Int).take 1 ++ (List.replicate N (0 : Int)).drop (0 + 1) = rpN N 1 := by simp [rpN, List.drop_replicate]
  rw [e1, e2] at c1
  simp (maxSteps := 1000000) (disch := omega) only [c1, S, S1, S2, S3, S4, S5, ST, eq_self, reduceIte, reduceCtorEq, Nat.reduceEqDiff, Nat.reduceAdd]
  refine LoopH.by (fun m s H' => ∃ k, m + k = N ∧ 1 ≤ k ∧ s 7 = .slice (some ⟨H.length, 0, none⟩) N N ∧ s 8 = .int .i64 ((k : Nat) : Int) ∧ H' = Z.set H.length (.cells (ints (rpN N k)) 3 false)) (N - 1) ?_ ?_
  · exact ⟨1, by omega, by omega, rfl, rfl, rfl⟩
  · rintro m s H' ⟨k, hm, hk1, h7, h8, rfl⟩
    have cK : (Z.set H.length (.cells (ints (rpN N k)) 3 false))[H.length]? = some (.cells (ints (rpN N k)) 3 false) := at_set cZ
    simp (maxSteps := 1000000) (disch := omega) only [h7, h8, S, S1, S2, S3, S4, S5, ST, eq_self, reduceIte, reduceCtorEq, Nat.reduceEqDiff, Nat.reduceAdd]
    refine brD.intro (fun g => ?_) (fun g => ?_)
    · have hk : k < N := by omega
      have s1 := sl_own (P := Try.prog) (t := 38) (k := 0) (n := N) (c := N) Try.underlying38 cs3 cK (bound_some (k := .i64) (i := (k : Int)) (by omega) 0) (hi_none N) (show ((k : Int)).toNat ≤ N by omega) (Nat.le_refl _)
      have s2 := sl_own (P := Try.prog) (t := 38) (k := 0) (n := N) (c := N) Try.underlying38 cs3 cK lo_none (bound_some (k := .i64) (i := (k : Int)) (by omega) N) (Nat.zero_le _) (show ((k : Int)).toNat ≤ N by omega)
      simp only [Int.toNat_natCast, Nat.zero_add, Nat.sub_zero] at s1 s2
      have hrk : Row 3 (Z.set H.length (.cells (ints (rpN N k)) 3 false)) (.slice (some ⟨H.length, 0, none⟩) k k) (List.replicate k (-1)) := by
        refine .inr ⟨H.length, 0, ints (rpN N k), false, by simp, cK, by rw [ints_len, rpN_len N k (by omega)]; simp; omega, ?_⟩
        rw [List.length_replicate, List.drop_zero]
        have : (ints (rpN N k)).take k = ints ((rpN N k).take k) := by simp [ints, List.map_take]
        rw [this, rpN_take]
      have c2 := cp_ints (P := Try.prog) (t := 38) (k := k) (n := N - k) (c := N - k) Try.underlying38 cs3 cK hrk (by simp; omega) (by omega) (by rw [rpN_len N k (by omega)]; omega)
      rw [List.length_replicate, rpN_step N k (by omega), List.set_set] at c2
      simp (maxSteps := 1000000) (disch := omega) only [h7, h8, s1, s2, c2, wrap64, S, S1, S2, S3, S4, S5, ST, eq_self, reduceIte, reduceCtorEq, Nat.reduceEqDiff, Nat.reduceAdd]
      refine ⟨m - min k (N - k), by omega, k + min k (N - k), ?_⟩
      (repeat' apply And.intro) <;> first | (simp only [Value.int.injEq, true_and]; omega) | omega | rfl | assumption | (simp; done) | (simp; omega)
    · simp (maxSteps := 1000000) (disch := omega) only [h7, S, S1, S2, S3, S4, S5, ST, eq_self, reduceIte, reduceCtorEq, Nat.reduceEqDiff, Nat.reduceAdd]
      refine hQ _ _ _ ?_
      simp (maxSteps := 1000000) (disch := omega) only [h7, S, S1, S2, S3, S4, S5, ST, eq_self, reduceIte, reduceCtorEq, Nat.reduceEqDiff, Nat.reduceAdd]
      have : k = N := by omega
      subst this
      have e3 : rpN k k = List.replicate k (-1) := by simp [rpN]
      rw [e3]
      have hZ := at_set (d := .cells (ints (List.replicate k (-1))) 3 false) cZ
      exact ⟨.inr ⟨H.length, by rw [List.length_replicate], Nat.le_refl _, hZ⟩, pre_set pZ (Nat.le_refl _) _⟩
theorem rpN_set (N j : Nat) (hj : j < N) : (rpN N j).set j (-1) = rpN N (j + 1) := by
  unfold rpN
  rw [List.set_append_right _ _ (by simp)]
  obtain ⟨n, hn⟩ : ∃ n, N - j = n + 1 := ⟨N - j - 1, by omega⟩
  rw [hn, List.length_replicate, Nat.sub_self, List.replicate_succ, List.set_cons_zero, List.replicate_succ', List.append_assoc]
  have : N - (j + 1) = n := by omega
  rw [this]; rfl
end Go.Proofs.Ytlfongfhbkefmaa.Ai
namespace Go.Proofs.Ytlfongfhbkefmaa.Ai
open Go
def ords232 : List (Nat × List (Nat × Bool)) := []
def cd232 : Cd := (.seq (.reg [⟨⟨some 4, Op.assign (Operand.const (Value.slice none 0 0)), none⟩, []⟩]) (.seq (.reg [⟨⟨some 10, Op.buildSlice 38 1 #[(0, (Operand.const (Value.int IntKind.i64 (-1))))], none⟩, []⟩,
  ⟨⟨some 11, Op.move (Operand.tmp 0), none⟩, []⟩,
  ⟨⟨some 12, Op.call { callee := (Callee.builtin Builtin.len), args := #[(Operand.tmp 11)], argTypes := #[26] }, none⟩, []⟩,
  ⟨⟨some 13, Op.call { callee := (Callee.value (Operand.func 264)), args := #[(Operand.tmp 10), (Operand.tmp 12)], argTypes := #[38, 3] }, none⟩, []⟩,
  ⟨⟨some 5, Op.assign (Operand.tmp 13), none⟩, []⟩]) (.seq (.reg [⟨⟨some 14, Op.move (Operand.tmp 5), none⟩, []⟩,
  ⟨⟨some 15, Op.move (Operand.tmp 1), none⟩, []⟩,
  ⟨⟨some 16, Op.indexAddr 38 (Operand.tmp 14) (Operand.tmp 15), none⟩, []⟩,
  ⟨⟨none, Op.store 3 (Operand.tmp 16) (Operand.const (Value.int IntKind.i64 0)), none⟩, []⟩]) (.seq (.reg [⟨⟨some 17, Op.move (Operand.tmp 1), none⟩, []⟩,
  ⟨⟨some 18, Op.buildSlice 38 1 #[(0, (Operand.tmp 17))], none⟩, []⟩,
  ⟨⟨some 6, Op.assign (Operand.tmp 18), none⟩, []⟩]) (.seq (.block 0 (.loop (.seq (.seq (.reg [⟨⟨some 19, Op.move (Operand.tmp 6), none⟩, []⟩,
  ⟨⟨some 20, Op.call { callee := (Callee.builtin Builtin.len), args := #[(Operand.tmp 19)], argTypes := #[38] }, none⟩, []⟩,
  ⟨⟨some 21, Op.binOp BinOp.gtr 3 (Operand.tmp 20) (Operand.const (Value.int IntKind.i64 0)) 3, none⟩, []⟩]) (.cond (Operand.tmp 21) .skip (.exit 0))) (.block 1 (.seq (.reg [⟨⟨some 22, Op.move (Operand.tmp 6), none⟩, []⟩,
  ⟨⟨some 23, Op.indexAddr 38 (Operand.tmp 22) (Operand.const (Value.int IntKind.i64 0)), none⟩, []⟩,
  ⟨⟨some 24, Op.load 3 (Operand.tmp 23), none⟩, []⟩,
  ⟨⟨some 7, Op.assign (Operand.tmp 24), none⟩, []⟩]) (.seq (.reg [⟨⟨some 25, Op.move (Operand.tmp 6), none⟩, []⟩,
  ⟨⟨some 26, Op.slice 38 (Operand.tmp 25) (some (Operand.const (Value.int IntKind.i64 1))) none none, none⟩, []⟩,
  ⟨⟨some 6, Op.assign (Operand.tmp 26), none⟩, []⟩]) (.seq (.reg [⟨⟨some 27, Op.move (Operand.tmp 0), none⟩, []⟩,
  ⟨⟨some 28, Op.move (Operand.tmp 7), none⟩, []⟩,
  ⟨⟨some 29, Op.indexAddr 26 (Operand.tmp 27) (Operand.tmp 28), none⟩, []⟩,
  ⟨⟨some 30, Op.load 38 (Operand.tmp 29), none⟩, []⟩,
  ⟨⟨some 31, Op.call { callee := (Callee.builtin Builtin.len), args := #[(Operand.tmp 30)], argTypes := #[38] }, none⟩, []⟩,
  ⟨⟨some 32, Op.move (Operand.const (Value.int IntKind.i64 0)), none⟩, []⟩]) (.block 2 (.loop (.seq (.reg [⟨⟨some 33, Op.binOp BinOp.lss 3 (Operand.tmp 32) (Operand.tmp 31) 3, none⟩, []⟩]) (.seq (.cond (Operand.tmp 33) .skip (.exit 2)) (.seq (.block 3 (.seq (.reg [⟨⟨some 34, Op.indexAddr 38 (Operand.tmp 30) (Operand.tmp 32), none⟩, []⟩,
  ⟨⟨some 35, Op.load 3 (Operand.tmp 34), none⟩, []⟩,
  ⟨⟨some 9, Op.assign (Operand.tmp 35), none⟩, []⟩]) (.seq (.reg [⟨⟨some 36, Op.move (Operand.tmp 5), none⟩, []⟩,
  ⟨⟨some 37, Op.move (Operand.tmp 9), none⟩, []⟩,
  ⟨⟨some 38, Op.indexAddr 38 (Operand.tmp 36) (Operand.tmp 37), none⟩, []⟩,
  ⟨⟨some 39, Op.load 3 (Operand.tmp 38), none⟩, []⟩,
  ⟨⟨some 40, Op.binOp BinOp.lss 3 (Operand.tmp 39) (Operand.const (Value.int IntKind.i64 0)) 3, none⟩, []⟩]) (.cond (Operand.tmp 40) (.seq (.reg [⟨⟨some 41, Op.move (Operand.tmp 5), none⟩, []⟩,
  ⟨⟨some 42, Op.move (Operand.tmp 9), none⟩, []⟩,
  ⟨⟨some 43, Op.move (Operand.tmp 5), none⟩, []⟩,
  ⟨⟨some 44, Op.move (Operand.tmp 7), none⟩, []⟩,
  ⟨⟨some 45, Op.indexAddr 38 (Operand.tmp 43) (Operand.tmp 44), none⟩, []⟩,
  ⟨⟨some 46, Op.load 3 (Operand.tmp 45), none⟩, []⟩,
  ⟨⟨some 47, Op.binOp BinOp.add 3 (Operand.tmp 46) (Operand.const (Value.int IntKind.i64 1)) 3, none⟩, []⟩,
  ⟨⟨some 48, Op.indexAddr 38 (Operand.tmp 41) (Operand.tmp 42), none⟩, []⟩,
  ⟨⟨none, Op.store 3 (Operand.tmp 48) (Operand.tmp 47), none⟩, []⟩]) (.reg [⟨⟨some 49, Op.move (Operand.tmp 6), none⟩, []⟩,
  ⟨⟨some 50, Op.move (Operand.tmp 9), none⟩, []⟩,
  ⟨⟨some 51, Op.buildSlice 38 1 #[(0, (Operand.tmp 50))], none⟩, []⟩,
  ⟨⟨some 52, Op.call { callee := (Callee.builtin Builtin.append), args := #[(Operand.tmp 49), (Operand.tmp 51)], argTypes := #[38, 38] }, none⟩, []⟩,
  ⟨⟨some 6, Op.assign (Operand.tmp 52), none⟩, []⟩])) .skip)))) (.reg [⟨⟨some 53, Op.binOp BinOp.add 3 (Operand.tmp 32) (Operand.const (Value.int IntKind.i64 1)) 3, none⟩, []⟩,
  ⟨⟨some 32, Op.move (Operand.tmp 53), none⟩, []⟩]))))))))))))) (.seq (.reg [⟨⟨some 54, Op.move (Operand.tmp 5), none⟩, []⟩,
  ⟨⟨some 4, Op.assign (Operand.tmp 54), none⟩, []⟩]) .ret))))))
theorem sl232 : slim Try.f232.ntmps ords232 (Try.f232.body.getD .skip) = some cd232 := by kernel_rfl
theorem in232 {args : List Value} {H : AH} {R : Value → AH → Prop} (hl : args.length = 2) (h : ∀ (Q : Exit → Sl → AH → Prop), (∀ e s H, endA Try.prog [ResultVar.tmp 4] R e s H → Q e s H) → wpC Try.prog cd232 Q (enterA args) H) : ACalls Try.prog 232 args H R :=
  ACalls.intro (by kernel_rfl) Try.func232 rfl (by kernel_rfl) sl232 hl (of_decide_eq_true (by kernel_rfl)) (by kernel_rfl) h
def ords190 : List (Nat × List (Nat × Bool)) := [(16, [(0, false), (1, false), (2, false), (3, false), (4, false), (5, false), (6, false), (7, false), (8, false), (9, false), (10, false), (11, false), (12, false), (13, false), (14, true)])]
def cd190 : Cd := (.seq (.reg [⟨⟨some 4, Op.assign (Operand.const (Value.slice none 0 0)), none⟩, []⟩]) (.seq (.reg [⟨⟨some 11, Op.move (Operand.tmp 0), none⟩, []⟩,
  ⟨⟨some 12, Op.call { callee := (Callee.builtin Builtin.len), args := #[(Operand.tmp 11)], argTypes := #[26] }, none⟩, []⟩,
  ⟨⟨some 13, Op.makeSlice 38 (Operand.tmp 12) (Operand.tmp 12), none⟩, []⟩,
  ⟨⟨some 5, Op.assign (Operand.tmp 13), none⟩, []⟩]) (.seq (.seq (.reg [⟨⟨some 6, Op.assign (Operand.const (Value.int IntKind.i64 0)), none⟩, []⟩]) (.block 0 (.loop (.seq (.seq (.reg [⟨⟨some 14, Op.move (Operand.tmp 6), none⟩, []⟩,
  ⟨⟨some 15, Op.move (Operand.tmp 5), none⟩, []⟩,
  ⟨⟨some 16, Op.call { callee := (Callee.builtin Builtin.len), args := #[(Operand.tmp 15)], argTypes := #[38] }, none⟩, []⟩,
  ⟨⟨some 17, Op.binOp BinOp.lss 3 (Operand.tmp 14) (Operand.tmp 16) 3, none⟩, []⟩]) (.cond (Operand.tmp 17) .skip (.exit 0))) (.seq (.block 1 (.reg [⟨⟨some 20, Op.move (Operand.tmp 5), none⟩, []⟩,
  ⟨⟨some 21, Op.move (Operand.tmp 6), none⟩, []⟩,
  ⟨⟨some 22, Op.indexAddr 38 (Operand.tmp 20) (Operand.tmp 21), none⟩, []⟩,
  ⟨⟨none, Op.store 3 (Operand.tmp 22) (Operand.const (Value.int IntKind.i64 (-1))), none⟩, []⟩])) (.reg [⟨⟨some 18, Op.move (Operand.tmp 6), none⟩, []⟩,
  ⟨⟨some 19, Op.binOp BinOp.add 3 (Operand.tmp 18) (Operand.const (Value.int IntKind.i64 1)) 3, none⟩, []⟩,
  ⟨⟨some 6, Op.assign (Operand.tmp 19), none⟩, []⟩])))))) (.seq (.reg [⟨⟨some 23, Op.move (Operand.tmp 1), none⟩, []⟩,
  ⟨⟨some 24, Op.buildSlice 38 1 #[(0, (Operand.tmp 23))], none⟩, []⟩,
  ⟨⟨some 7, Op.assign (Operand.tmp 24), none⟩, []⟩]) (.seq (.reg [⟨⟨some 25, Op.move (Operand.tmp 5), none⟩, []⟩,
  ⟨⟨some 26, Op.move (Operand.tmp 1), none⟩, []⟩,
  ⟨⟨some 27, Op.indexAddr 38 (Operand.tmp 25) (Operand.tmp 26), none⟩, []⟩,
  ⟨⟨none, Op.store 3 (Operand.tmp 27) (Operand.const (Value.int IntKind.i64 0)), none⟩, []⟩]) (.seq (.seq (.reg [⟨⟨some 8, Op.assign (Operand.const (Value.int IntKind.i64 0)), none⟩, []⟩]) (.block 2 (.loop (.seq (.seq (.reg [⟨⟨some 28, Op.move (Operand.tmp 8), none⟩, []⟩,
  ⟨⟨some 29, Op.move (Operand.tmp 7), none⟩, []⟩,
  ⟨⟨some 30, Op.call { callee := (Callee.builtin Builtin.len), args := #[(Operand.tmp 29)], argTypes := #[38] }, none⟩, []⟩,
  ⟨⟨some 31, Op.binOp BinOp.lss 3 (Operand.tmp 28) (Operand.tmp 30) 3, none⟩, []⟩]) (.cond (Operand.tmp 31) .skip (.exit 2))) (.seq (.block 3 (.seq (.reg [⟨⟨some 34, Op.move (Operand.tmp 0), none⟩, []⟩,
  ⟨⟨some 35, Op.move (Operand.tmp 7), none⟩, []⟩,
  ⟨⟨some 36, Op.move (Operand.tmp 8), none⟩, []⟩,
  ⟨⟨some 37, Op.indexAddr 38 (Operand.tmp 35) (Operand.tmp 36), none⟩, []⟩,
  ⟨⟨some 38, Op.load 3 (Operand.tmp 37), none⟩, []⟩,
  ⟨⟨some 39, Op.indexAddr 26 (Operand.tmp 34) (Operand.tmp 38), none⟩, []⟩,
  ⟨⟨some 40, Op.load 38 (Operand.tmp 39), none⟩, []⟩,
  ⟨⟨some 9, Op.assign (Operand.tmp 40), none⟩, []⟩]) (.seq (.reg [⟨⟨some 10, Op.assign (Operand.const (Value.int IntKind.i64 0)), none⟩, []⟩]) (.block 4 (.loop (.seq (.seq (.reg [⟨⟨some 41, Op.move (Operand.tmp 10), none⟩, []⟩,
  ⟨⟨some 42, Op.move (Operand.tmp 9), none⟩, []⟩,
  ⟨⟨some 43, Op.call { callee := (Callee.builtin Builtin.len), args := #[(Operand.tmp 42)], argTypes := #[38] }, none⟩, []⟩,
  ⟨⟨some 44, Op.binOp BinOp.lss 3 (Operand.tmp 41) (Operand.tmp 43) 3, none⟩, []⟩]) (.cond (Operand.tmp 44) .skip (.exit 4))) (.seq (.block 5 (.seq (.reg [⟨⟨some 47, Op.move (Operand.tmp 5), none⟩, []⟩,
  ⟨⟨some 48, Op.move (Operand.tmp 9), none⟩, []⟩,
  ⟨⟨some 49, Op.move (Operand.tmp 10), none⟩, []⟩,
  ⟨⟨some 50, Op.indexAddr 38 (Operand.tmp 48) (Operand.tmp 49), none⟩, []⟩,
  ⟨⟨some 51, Op.load 3 (Operand.tmp 50), none⟩, []⟩,
  ⟨⟨some 52, Op.indexAddr 38 (Operand.tmp 47) (Operand.tmp 51), none⟩, []⟩,
  ⟨⟨some 53, Op.load 3 (Operand.tmp 52), none⟩, []⟩,
  ⟨⟨some 54, Op.binOp BinOp.lss 3 (Operand.tmp 53) (Operand.const (Value.int IntKind.i64 0)) 3, none⟩, []⟩]) (.cond (Operand.tmp 54) (.seq (.reg [⟨⟨some 55, Op.move (Operand.tmp 5), none⟩, []⟩,
  ⟨⟨some 56, Op.move (Operand.tmp 9), none⟩, []⟩,
  ⟨⟨some 57, Op.move (Operand.tmp 10), none⟩, []⟩,
  ⟨⟨some 58, Op.indexAddr 38 (Operand.tmp 56) (Operand.tmp 57), none⟩, []⟩,
  ⟨⟨some 59, Op.load 3 (Operand.tmp 58), none⟩, []⟩,
  ⟨⟨some 60, Op.move (Operand.tmp 5), none⟩, []⟩,
  ⟨⟨some 61, Op.move (Operand.tmp 7), none⟩, []⟩,
  ⟨⟨some 62, Op.move (Operand.tmp 8), none⟩, []⟩,
  ⟨⟨some 63, Op.indexAddr 38 (Operand.tmp 61) (Operand.tmp 62), none⟩, []⟩,
  ⟨⟨some 64, Op.load 3 (Operand.tmp 63), none⟩, []⟩,
  ⟨⟨some 65, Op.indexAddr 38 (Operand.tmp 60) (Operand.tmp 64), none⟩, []⟩,
  ⟨⟨some 66, Op.load 3 (Operand.tmp 65), none⟩, []⟩,
  ⟨⟨some 67, Op.binOp BinOp.add 3 (Operand.tmp 66) (Operand.const (Value.int IntKind.i64 1)) 3, none⟩, []⟩,
  ⟨⟨some 68, Op.indexAddr 38 (Operand.tmp 55) (Operand.tmp 59), none⟩, []⟩,
  ⟨⟨none, Op.store 3 (Operand.tmp 68) (Operand.tmp 67), none⟩, []⟩]) (.reg [⟨⟨some 69, Op.move (Operand.tmp 7), none⟩, []⟩,
  ⟨⟨some 70, Op.move (Operand.tmp 9), none⟩, []⟩,
  ⟨⟨some 71, Op.move (Operand.tmp 10), none⟩, []⟩,
  ⟨⟨some 72, Op.indexAddr 38 (Operand.tmp 70) (Operand.tmp 71), none⟩, []⟩,
  ⟨⟨some 73, Op.load 3 (Operand.tmp 72), none⟩, []⟩,
  ⟨⟨some 74, Op.buildSlice 38 1 #[(0, (Operand.tmp 73))], none⟩, []⟩,
  ⟨⟨some 75, Op.call { callee := (Callee.builtin Builtin.append), args := #[(Operand.tmp 69), (Operand.tmp 74)], argTypes := #[38, 38] }, none⟩, []⟩,
  ⟨⟨some 7, Op.assign (Operand.tmp 75), none⟩, []⟩])) .skip))) (.reg [⟨⟨some 45, Op.move (Operand.tmp 10), none⟩, []⟩,
  ⟨⟨some 46, Op.binOp BinOp.add 3 (Operand.tmp 45) (Operand.const (Value.int IntKind.i64 1)) 3, none⟩, []⟩,
  ⟨⟨some 10, Op.assign (Operand.tmp 46), none⟩, []⟩])))))))) (.reg [⟨⟨some 32, Op.move (Operand.tmp 8), none⟩, []⟩,
  ⟨⟨some 33, Op.binOp BinOp.add 3 (Operand.tmp 32) (Operand.const (Value.int IntKind.i64 1)) 3, none⟩, []⟩,
  ⟨⟨some 8, Op.assign (Operand.tmp 33), none⟩, []⟩])))))) (.seq (.reg [⟨⟨some 76, Op.move (Operand.tmp 5), none⟩, []⟩,
  ⟨⟨some 4, Op.assign (Operand.tmp 76), none⟩, []⟩]) .ret)))))))
theorem sl190 : slim Try.f190.ntmps ords190 (Try.f190.body.getD .skip) = some cd190 := by kernel_rfl
theorem in190 {args : List Value} {H : AH} {R : Value → AH → Prop} (hl : args.length = 2) (h : ∀ (Q : Exit → Sl → AH → Prop), (∀ e s H, endA Try.prog [ResultVar.tmp 4] R e s H → Q e s H) → wpC Try.prog cd190 Q (enterA args) H) : ACalls Try.prog 190 args H R :=
  ACalls.intro (by kernel_rfl) Try.func190 rfl (by kernel_rfl) sl190 hl (of_decide_eq_true (by kernel_rfl)) (by kernel_rfl) h
end Go.Proofs.Ytlfongfhbkefmaa.Ai
namespace Go.Proofs.Ytlfongfhbkefmaa.Ai
open Go Go.RowKit
set_option linter.unusedVariables false
set_option linter.unusedSimpArgs false
/-- the list of distances and the queue in the heap -/
def QH (H0 H : AH) (oo : Nat) (out : List Int) (oq kq nq : Nat) (q : List Int) : Prop :=
  (∃ zs, H[oq]? = some (.cells (ints zs) 3 false) ∧ (zs.drop kq).take nq = q ∧ kq + nq ≤ zs.length) ∧ H[oo]? = some (.cells (ints out) 3 false) ∧ H0.length ≤ oo ∧ H0.length ≤ oq ∧ oq ≠ oo ∧ H0 <+: H
/-- appending to a part of an object of ints -/
theorem app_q {P : Program} {t e : TypeId} (hu : P.underlying t = some (.slice e)) (hc : P.cellsOf e = 1) (hby : P.bytesOf e ≤ 64) (hz : zeroOk P e = true) {H : AH} {o k n c : Nat} {zs : List Int} {x : Int} (ho : H[o]? = some (.cells (ints zs) e false)) (hn : k + n ≤ zs.length) (hb : n ≤ 1099511627775) :
    appendA P t t (.slice (some ⟨o, k, none⟩) n c) (.slice (some ⟨H.length, 0, none⟩) 1 1) (H ++ [.cells [.int .i64 x] e false]) = some (.slice (some ⟨H.length + 1, 0, none⟩) (n + 1) (n + 1), H.set o .dead ++ [.cells [.int .i64 x] e false, .cells (ints ((zs.drop k).take n ++ [x])) e false]) := by
  have hlt : o < H.length := at_lt ho
  have hb2 : (n + 1) * P.bytesOf e ≤ 140737488355328 := by
    refine Nat.le_trans (Nat.mul_le_mul_left _ hby) ?_
    omega
  have ho2 : (H ++ [AObj.cells [.int .i64 x] e false])[o]? = some (.cells (ints zs) e false) := at_app ho _
  have hsc : sliceCells P e (.slice (some ⟨H.length, 0, none⟩) 1 1) (H ++ [.cells [.int .i64 x] e false]) = some (1, [.int .i64 x]) := by
    simp only [sliceCells, at_new, hc]; simp
  simp only [appendA, hu, hc, hsc, ho2, hz]
  rw [if_pos (by simp), if_neg (by simp), if_pos ⟨trivial, by rw [ints_len]; omega, hb2, by omega, trivial⟩]
  have : List.take (n * 1) (List.drop k (ints zs)) ++ [Value.int .i64 x] = ints ((zs.drop k).take n ++ [x]) := by
    simp [ints, List.map_take, List.map_drop]
  rw [this, List.length_append, List.set_append_left _ _ hlt]
  simp
theorem QH.push {H0 H : AH} {oo : Nat} {out : List Int} {oq kq nq : Nat} {q : List Int} (h : QH H0 H oo out oq kq nq q) (y : Nat) (d x : Int) (hb : nq ≤ 1099511627775) :
    ∃ H2, appendA Try.prog 38 38 (.slice (some ⟨oq, kq, none⟩) nq nq) (.slice (some ⟨(H.set oo (.cells (ints (out.set y d)) 3 false)).length, 0, none⟩) 1 1) (H.set oo (.cells (ints (out.set y d)) 3 false) ++ [.cells [.int .i64 x] 3 false]) = some (.slice (some ⟨(H.set oo (.cells (ints (out.set y d)) 3 false)).length + 1, 0, none⟩) (nq + 1) (nq + 1), H2) ∧
      QH H0 H2 oo (out.set y d) ((H.set oo (.cells (ints (out.set y d)) 3 false)).length + 1) 0 (nq + 1) (q ++ [x]) := by
  obtain ⟨⟨zs, h1, h2, h3⟩, h4, h5, h6, h7, h8⟩ := h
  have hlt := at_lt h4
  generalize hH1 : H.set oo (.cells (ints (out.set y d)) 3 false) = H1
  have l1 : H1.length = H.length := by rw [← hH1]; simp
  have k1 : H1[oq]? = some (.cells (ints zs) 3 false) := by rw [← hH1, List.getElem?_set_ne (fun e => h7 e.symm)]; exact h1
  have k4 : H1[oo]? = some (.cells (ints (out.set y d)) 3 false) := by rw [← hH1]; exact at_set h4
  have hp1 : H0 <+: H1 := by rw [← hH1]; exact pre_set h8 h5 _
  refine ⟨_, app_q Try.underlying38 cs3 (by rw [by3]; decide) zk3 k1 h3 hb, ⟨(zs.drop kq).take nq ++ [x], ?_, ?_, ?_⟩, ?_, h5, ?_, ?_, ?_⟩
  · rw [List.getElem?_append_right (by simp)]
    simp
  · rw [List.drop_zero, h2, List.take_of_length_le]
    rw [← h2]; simp; omega
  · simp; omega
  · rw [List.getElem?_append_left (by simp; omega), List.getElem?_set_ne h7]
    exact k4
  · have := h8.length_le; omega
  · omega
  · exact pre_app (pre_set hp1 h6 _) _
theorem QH.tail {H0 H : AH} {oo : Nat} {out : List Int} {oq kq nq : Nat} {x : Int} {q : List Int} (h : QH H0 H oo out oq kq nq (x :: q)) : QH H0 H oo out oq (kq + 1) (nq - 1) q ∧ cellA H oq kq = some (.int .i64 x) ∧ 0 < nq := by
  obtain ⟨⟨zs, h1, h2, h3⟩, h4⟩ := h
  have hl := congrArg List.length h2
  simp only [List.length_take, List.length_drop, List.length_cons] at hl
  have hk : kq < zs.length := by omega
  obtain ⟨n, rfl⟩ : ∃ n, nq = n + 1 := ⟨nq - 1, by omega⟩
  rw [List.drop_eq_getElem_cons hk, List.take_succ_cons] at h2
  injection h2 with e1 e2
  refine ⟨⟨⟨zs, h1, by simpa using e2, by omega⟩, h4⟩, ?_, by omega⟩
  rw [cell_of h1, ints_at zs hk]
  congr 2
  simp [hk, e1]
theorem bfsIn_drop (d : Int) (l : List Int) (j : Nat) (hj : j < l.length) (st : List Int × List Int) : bfsIn d (l.drop j) st = if st.1.getD (l.getD j 0).toNat 0 < 0 then bfsIn d (l.drop (j + 1)) (st.1.set (l.getD j 0).toNat d, st.2 ++ [l.getD j 0]) else bfsIn d (l.drop (j + 1)) st := by
  have e : l.getD j 0 = l[j] := by simp [hj]
  rw [List.drop_eq_getElem_cons hj, e]
  rfl
set_option maxRecDepth 20000 in
set_option maxHeartbeats 4000000 in
theorem spread_c (v : Value) (L : List (List Int)) (i : Nat) (H : AH) {b : Nat} (hr : RowLB b 38 3 H v L) (hL : LOk L.length L) (hN : L.length ≤ 1000000) (hi : i < L.length) (hls : ∀ x, (L.getD x []).length ≤ 1000000000) :
    ACalls Try.prog 232 [v, .int .i64 (i : Int)] H fun r H' => Own 3 H H' r (bfs L i) ∧ H <+: H' := by
  refine in232 rfl ?_
  intro Q hQ
  obtain ⟨us, hus, hvb, hul, hin⟩ := hr
  simp (maxSteps := 1000000) (disch := omega) only [cd232, hus.len Try.underlying26, S, S1, S2, S3, S4, S5, ST, eq_self, reduceIte, reduceCtorEq, Nat.reduceEqDiff, Nat.reduceAdd]
  generalize hA : H ++ [AObj.cells [.int .i64 (-1)] 3 false] = A
  have pA : H <+: A := by rw [← hA]; exact List.prefix_append _ _
  have rA : Row 3 A (.slice (some ⟨H.length, 0, none⟩) 1 1) [-1] := .inr ⟨H.length, 0, ints [-1], false, rfl, by rw [← hA]; exact at_new .., by decide, rfl⟩
  rw [hul]
  refine CallH.by (Repeat_c _ L.length A rA (by omega)) ?_
  rintro u B ⟨hu, pB⟩
  rcases hu with ⟨_, h0⟩ | ⟨oo, hu, hol, hoc⟩
  · have : L.length = 0 := by simpa using congrArg List.length h0
    omega
  rw [List.length_replicate] at hu
  subst hu
  have hlr : i < (List.replicate L.length (-1 : Int)).length := by simpa using hi
  simp (maxSteps := 1000000) (disch := omega) only [Int.toNat_natCast, Nat.zero_add, st_ints cs3 hoc hlr, S, S1, S2, S3, S4, S5, ST, eq_self, reduceIte, reduceCtorEq, Nat.reduceEqDiff, Nat.reduceAdd]
  have hb0 : (List.replicate L.length (-1 : Int)).set i 0 = bfs0 L.length i := rfl
  rw [hb0]
  generalize hC : B.set oo (.cells (ints (bfs0 L.length i)) 3 false) = C
  have c0 : C[oo]? = some (.cells (ints (bfs0 L.length i)) 3 false) := by rw [← hC]; exact at_set hoc
  have lAH := pA.length_le
  have pC : H <+: C := by rw [← hC]; exact pre_set (pA.trans pB) (by omega) _
  have hlt := at_lt c0
  have q0 : QH H (C ++ [AObj.cells [.int .i64 (i : Int)] 3 false]) oo (bfs0 L.length i) C.length 0 1 [(i : Int)] :=
    ⟨⟨[(i : Int)], at_new .., rfl, by simp⟩, at_app c0 _, by omega, pC.length_le, by omega, pre_app pC _⟩
  refine LoopH.by (fun m s H' => ∃ st k oq kq nq, m + k = L.length ∧ s 0 = v ∧ s 5 = .slice (some ⟨oo, 0, none⟩) L.length L.length ∧ s 6 = .slice (some ⟨oq, kq, none⟩) nq nq ∧ nq + k = st.2.length ∧ QH H H' oo st.1 oq kq nq (st.2.drop k) ∧ BI L.length st ∧ bfsF L (m + 1) st k = bfs L i) L.length ?_ ?_
  · exact ⟨(bfs0 L.length i, [(i : Int)]), 0, C.length, 0, 1, by omega, rfl, rfl, rfl, rfl, q0, bfs0_BI _ i hi, rfl⟩
  · rintro m s H' ⟨st, k, oq, kq, nq, hm, h0, h5, h6, hnq, hq, hb, hF⟩
    have hle := hb.len_le
    simp (maxSteps := 1000000) (disch := omega) only [h0, h5, h6, S, S1, S2, S3, S4, S5, ST, eq_self, reduceIte, reduceCtorEq, Nat.reduceEqDiff, Nat.reduceAdd]
    refine brD.intro (fun g => ?_) (fun g => ?_)
    · have hk : k < st.2.length := by omega
      rw [bfsF_step L m st k hk] at hF
      have hqm : st.2.getD k 0 ∈ st.2 := by simp [hk]
      obtain ⟨hxr, hx0⟩ := hb.q _ hqm
      have hxl := hb.lo (st.2.getD k 0).toNat (by omega)
      rw [List.drop_eq_getElem_cons hk] at hq
      have hge : st.2[k] = st.2.getD k 0 := by simp [hk]
      rw [hge] at hq
      obtain ⟨x, hx⟩ : ∃ x : Nat, st.2.getD k 0 = x := ⟨(st.2.getD k 0).toNat, by omega⟩
      rw [hx] at hq hF hxr hx0 hxl
      rw [Int.toNat_natCast] at hF hx0 hxl
      obtain ⟨hq2, hcell, hnq0⟩ := hq.tail
      have hqo : ∃ zs ro, H'[oq]? = some (.cells (ints zs) 3 ro) := by obtain ⟨⟨zs, g1, _⟩, _⟩ := hq; exact ⟨zs, false, g1⟩
      obtain ⟨zs, ro, hqo⟩ := hqo
      have hsl := sl_own (P := Try.prog) (t := 38) (k := kq) (n := nq) (c := nq) Try.underlying38 cs3 hqo (bound_some (k := .i64) (i := 1) (by decide) 0) (hi_none nq) (show (1 : Int).toNat ≤ nq from hnq0) (Nat.le_refl _)
      have hpp : H <+: H' := hq.2.2.2.2.2
      have hus' := hus.pre hpp
      have hxu : x < us.length := by omega
      have hinH := (hin x (by omega)).1
      have hin' := hinH.pre hpp
      have hlb := hls x
      have hLx := hL x
      have hz0 : (0 : Int).toNat = 0 := rfl
      simp (maxSteps := 1000000) (disch := omega) only [h0, h5, h6, hz0, hcell, hsl, hus'.ix Try.underlying26 cs38, hus'.cell, Int.toNat_natCast, S, S1, S2, S3, S4, S5, ST, eq_self, reduceIte, reduceCtorEq, Nat.reduceEqDiff, Nat.reduceAdd]
      generalize hw : us.getD x undef = w at *
      generalize hl : L.getD x [] = l at *
      simp (maxSteps := 1000000) (disch := omega) only [hin'.len Try.underlying38, S, S1, S2, S3, S4, S5, ST, eq_self, reduceIte, reduceCtorEq, Nat.reduceEqDiff, Nat.reduceAdd]
      generalize hd : st.1.getD x 0 + 1 = d at *
      have hone : (1 : Int).toNat = 1 := rfl
      simp only [hone]
      refine LoopH.by (fun m' s' H'' => ∃ j st' oq' kq' nq', m' + j = l.length ∧ s' 0 = v ∧ s' 5 = .slice (some ⟨oo, 0, none⟩) L.length L.length ∧ s' 6 = .slice (some ⟨oq', kq', none⟩) nq' nq' ∧ s' 7 = .int .i64 (x : Int) ∧ s' 30 = w ∧ s' 31 = .int .i64 (l.length : Int) ∧ s' 32 = .int .i64 ((j : Nat) : Int) ∧ nq' + (k + 1) = st'.2.length ∧ QH H H'' oo st'.1 oq' kq' nq' (st'.2.drop (k + 1)) ∧ BI L.length st' ∧ st.2 <+: st'.2 ∧ st'.1.getD x 0 + 1 = d ∧ bfsIn d (l.drop j) st' = bfsIn d l st) l.length ?_ ?_
      · have hd1 : st.2.drop (k + 1) = st.2.drop (k + 1) := rfl
        refine ⟨0, st, oq, kq + 1, nq - 1, by simp, ?_⟩
        simp only [S, S1, S2, S3, S4, S5, ST, eq_self, reduceIte, reduceCtorEq, Nat.reduceEqDiff, Nat.reduceAdd, h0, h5, h6]
        have hd2 : bfsIn d (l.drop 0) st = bfsIn d l st := by rw [List.drop_zero]
        have hpr := List.prefix_refl st.2
        (repeat' first | exact hq2 | exact hb | exact hd | exact hd2 | exact hpr | apply And.intro) <;> first | (simp only [Value.int.injEq, true_and]; omega) | omega | rfl | assumption | (simp; done) | (simp; omega)
      · rintro m' s' H'' ⟨j, st', oq', kq', nq', hm', g0, g5, g6, g7, g30, g31, g32, hnq', hq', hb', hpre, hd', hB⟩
        have hpp' : H <+: H'' := hq'.2.2.2.2.2
        have hw' := hinH.pre hpp'
        have hle' := hb'.len_le
        simp (maxSteps := 1000000) (disch := omega) only [g0, g5, g6, g7, g30, g31, g32, S, S1, S2, S3, S4, S5, ST, eq_self, reduceIte, reduceCtorEq, Nat.reduceEqDiff, Nat.reduceAdd]
        refine brD.intro (fun q => ?_) (fun q => ?_)
        · have hj : j < l.length := by omega
          rw [bfsIn_drop d l j hj] at hB
          have hym : l.getD j 0 ∈ l := by simp [hj]
          obtain ⟨y, hy⟩ : ∃ y : Nat, l.getD j 0 = y := ⟨(l.getD j 0).toNat, by have := hLx _ hym; omega⟩
          have hyr := hLx _ hym
          rw [hy] at hB hyr
          rw [Int.toNat_natCast] at hB
          have hoc' := hq'.2.1
          have hlen' := hb'.len
          have hyl : y < st'.1.length := by omega
          have hxl' : x < st'.1.length := by omega
          have hcw := hw'.cell hj
          rw [hy] at hcw
          simp (maxSteps := 1000000) (disch := omega) only [g0, g5, g6, g7, g30, g31, g32, hw'.ix Try.underlying38 cs3, hcw, Int.toNat_natCast, Nat.zero_add, cell_ints hoc' hyl, S, S1, S2, S3, S4, S5, ST, eq_self, reduceIte, reduceCtorEq, Nat.reduceEqDiff, Nat.reduceAdd]
          refine brD.intro (fun e => ?_) (fun e => ?_)
          · rw [if_pos e] at hB
            have hd0 : 0 ≤ d := by omega
            have hdl : d ≤ st'.2.length := by
              have := hb'.lo x (by omega)
              omega
            have hb2 := hb'.put (j := (y : Int)) (d := d) hyr (by rw [Int.toNat_natCast]; exact e) ⟨hd0, hdl⟩
            rw [Int.toNat_natCast] at hb2
            obtain ⟨H2, k1, k2⟩ := hq'.push y d (y : Int) (by omega)
            have hk1 : k + 1 ≤ st'.2.length := by have := hpre.length_le; omega
            rw [← List.drop_append_of_le_length hk1] at k2
            simp (maxSteps := 1000000) (disch := omega) only [g0, g5, g6, g7, g30, g31, g32, hw'.ix Try.underlying38 cs3, hcw, Int.toNat_natCast, Nat.zero_add, cell_ints hoc' hxl', hd', st_ints cs3 hoc' hyl, k1, wrap64, S, S1, S2, S3, S4, S5, ST, eq_self, reduceIte, reduceCtorEq, Nat.reduceEqDiff, Nat.reduceAdd]
            have f1 : st.2 <+: st'.2 ++ [(y : Int)] := hpre.trans (List.prefix_append _ _)
            have f2 : (st'.1.set y d).getD x 0 + 1 = d := by
              rw [getD_setB _ _ _ _ hxl']
              split
              · rename_i e2
                subst e2
                have := hb'.lo y (by omega)
                omega
              · exact hd'
            refine ⟨m' - 1, by omega, j + 1, (st'.1.set y d, st'.2 ++ [(y : Int)]), (H''.set oo (AObj.cells (ints (st'.1.set y d)) 3 false)).length + 1, 0, nq' + 1, ?_⟩
            have f3 : (st'.2 ++ [(y : Int)]).length = st'.2.length + 1 := by simp
            (repeat' first | exact k2 | exact hb2 | exact f1 | exact f2 | exact hB | apply And.intro) <;> first | (simp only [Value.int.injEq, true_and]; omega) | omega | rfl | assumption | (simp; done) | (simp; omega)
          · rw [if_neg e] at hB
            simp (maxSteps := 1000000) (disch := omega) only [g0, g5, g6, g7, g30, g31, g32, wrap64, S, S1, S2, S3, S4, S5, ST, eq_self, reduceIte, reduceCtorEq, Nat.reduceEqDiff, Nat.reduceAdd]
            refine ⟨m' - 1, by omega, j + 1, st', oq', kq', nq', ?_⟩
            (repeat' first | exact hq' | exact hb' | exact hpre | exact hd' | exact hB | apply And.intro) <;> first | (simp only [Value.int.injEq, true_and]; omega) | omega | rfl | assumption | (simp; done) | (simp; omega)
        · simp (maxSteps := 1000000) (disch := omega) only [g0, g5, g6, g7, g30, g31, g32, S, S1, S2, S3, S4, S5, ST, eq_self, reduceIte, reduceCtorEq, Nat.reduceEqDiff, Nat.reduceAdd]
          rw [List.drop_of_length_le (by omega)] at hB
          have hB' : st' = bfsIn d l st := hB
          rw [← hB'] at hF
          have hm1 : m - 1 + 1 = m := by omega
          rw [← hm1] at hF
          refine ⟨m - 1, by omega, st', k + 1, oq', kq', nq', ?_⟩
          (repeat' first | exact hq' | exact hb' | exact hF | apply And.intro) <;> first | (simp only [Value.int.injEq, true_and]; omega) | omega | rfl | assumption | (simp; done) | (simp; omega)
    · simp (maxSteps := 1000000) (disch := omega) only [h5, S, S1, S2, S3, S4, S5, ST, eq_self, reduceIte, reduceCtorEq, Nat.reduceEqDiff, Nat.reduceAdd]
      refine hQ _ _ _ ?_
      simp (maxSteps := 1000000) (disch := omega) only [h5, S, S1, S2, S3, S4, S5, ST, eq_self, reduceIte, reduceCtorEq, Nat.reduceEqDiff, Nat.reduceAdd]
      rw [bfsF_done L _ st k (by omega)] at hF
      rw [hF] at hq
      have hbl : (bfs L i).length = L.length := by rw [← hF]; exact hb.len
      exact ⟨.inr ⟨oo, by rw [hbl], hq.2.2.1, hq.2.1⟩, hq.2.2.2.2.2⟩
theorem QH.at {H0 H : AH} {oo : Nat} {out : List Int} {oq kq nq : Nat} {q : List Int} (h : QH H0 H oo out oq kq nq q) {j : Nat} (hj : j < q.length) : cellA H oq (kq + j) = some (.int .i64 (q.getD j 0)) := by
  obtain ⟨⟨zs, h1, h2, h3⟩, _⟩ := h
  have hl := congrArg List.length h2
  simp only [List.length_take, List.length_drop] at hl
  have hk : kq + j < zs.length := by omega
  rw [cell_of h1, ints_at zs hk]
  congr 2
  rw [← h2, List.getD_eq_getElem?_getD, List.getD_eq_getElem?_getD, List.getElem?_take, if_pos (by omega), List.getElem?_drop]
set_option maxRecDepth 20000 in
set_option maxHeartbeats 4000000 in
theorem l2Spread_c (v : Value) (L : List (List Int)) (i : Nat) (H : AH) {b : Nat} (hr : RowLB b 38 3 H v L) (hL : LOk L.length L) (hN : L.length ≤ 1000000) (hi : i < L.length) (hls : ∀ x, (L.getD x []).length ≤ 1000000000) :
    ACalls Try.prog 190 [v, .int .i64 (i : Int)] H fun r H' => Own 3 H H' r (bfs L i) ∧ H <+: H' := by
  refine in190 rfl ?_
  intro Q hQ
  obtain ⟨us, hus, hvb, hul, hin⟩ := hr
  simp (maxSteps := 1000000) (disch := omega) only [cd190, hus.len Try.underlying26, hul, mks38, Int.toNat_natCast, S, S1, S2, S3, S4, S5, ST, eq_self, reduceIte, reduceCtorEq, Nat.reduceEqDiff, Nat.reduceAdd]
  generalize hZ : H ++ [AObj.cells (ints (List.replicate L.length 0)) 3 false] = Z
  have pZ : H <+: Z := by rw [← hZ]; exact List.prefix_append _ _
  have cZ : Z[H.length]? = some (.cells (ints (List.replicate L.length 0)) 3 false) := by rw [← hZ]; exact at_new ..
  refine LoopH.by (fun m s H' => ∃ j, m + j = L.length ∧ s 0 = v ∧ s 1 = .int .i64 (i : Int) ∧ s 5 = .slice (some ⟨H.length, 0, none⟩) L.length L.length ∧ s 6 = .int .i64 ((j : Nat) : Int) ∧ H' = Z.set H.length (.cells (ints (rpN L.length j)) 3 false)) L.length ?_ ?_
  · refine ⟨0, by omega, rfl, rfl, rfl, rfl, ?_⟩
    have : rpN L.length 0 = List.replicate L.length 0 := by simp [rpN]
    rw [this]
    apply List.ext_getElem?
    intro j
    rw [List.getElem?_set]
    by_cases hj : H.length = j
    · subst hj; rw [if_pos rfl, if_pos (at_lt cZ), cZ]
    · rw [if_neg hj]
  rintro m s H' ⟨j, hm, h0, h1, h5, h6, rfl⟩
  have cJ : (Z.set H.length (.cells (ints (rpN L.length j)) 3 false))[H.length]? = some (.cells (ints (rpN L.length j)) 3 false) := at_set cZ
  simp (maxSteps := 1000000) (disch := omega) only [h0, h1, h5, h6, S, S1, S2, S3, S4, S5, ST, eq_self, reduceIte, reduceCtorEq, Nat.reduceEqDiff, Nat.reduceAdd]
  refine brD.intro (fun g => ?_) (fun g => ?_)
  · have hj : j < (rpN L.length j).length := by rw [rpN_len _ _ (by omega)]; omega
    simp (maxSteps := 1000000) (disch := omega) only [h0, h1, h5, h6, Int.toNat_natCast, Nat.zero_add, st_ints cs3 cJ hj, wrap64, S, S1, S2, S3, S4, S5, ST, eq_self, reduceIte, reduceCtorEq, Nat.reduceEqDiff, Nat.reduceAdd]
    rw [List.set_set, rpN_set _ _ (by omega)]
    refine ⟨m - 1, by omega, j + 1, ?_⟩
    (repeat' apply And.intro) <;> first | (simp only [Value.int.injEq, true_and]; omega) | omega | rfl | assumption | (simp; done) | (simp; omega)
  have hjN : j = L.length := by omega
  subst hjN
  have e3 : rpN L.length L.length = List.replicate L.length (-1) := by simp [rpN]
  rw [e3] at cJ
  rw [e3]
  have pA : H <+: Z.set H.length (.cells (ints (List.replicate L.length (-1))) 3 false) := pre_set pZ (Nat.le_refl _) _
  simp (maxSteps := 1000000) (disch := omega) only [h0, h1, h5, h6, S, S1, S2, S3, S4, S5, ST, eq_self, reduceIte, reduceCtorEq, Nat.reduceEqDiff, Nat.reduceAdd]
  have hlr : i < (List.replicate L.length (-1 : Int)).length := by simpa using hi
  generalize hoo : H.length = oo at *
  generalize hA : Z.set oo (.cells (ints (List.replicate L.length (-1))) 3 false) = A at *
  have cA := at_app cJ [AObj.cells [.int .i64 (i : Int)] 3 false]
  simp (maxSteps := 1000000) (disch := omega) only [h0, h1, h5, h6, Int.toNat_natCast, Nat.zero_add, st_ints cs3 cA hlr, S, S1, S2, S3, S4, S5, ST, eq_self, reduceIte, reduceCtorEq, Nat.reduceEqDiff, Nat.reduceAdd]
  have hb0 : (List.replicate L.length (-1 : Int)).set i 0 = bfs0 L.length i := rfl
  rw [hb0]
  have hltA := at_lt cJ
  have q0 : QH H ((A ++ [AObj.cells [.int .i64 (i : Int)] 3 false]).set oo (.cells (ints (bfs0 L.length i)) 3 false)) oo (bfs0 L.length i) A.length 0 1 [(i : Int)] := by
    refine ⟨⟨[(i : Int)], ?_, rfl, by simp⟩, at_set cA, by omega, pA.length_le, by omega, pre_set (pre_app pA _) (by omega) _⟩
    rw [List.getElem?_set_ne (by omega)]
    exact at_new ..
  refine LoopH.by (fun m s H' => ∃ st k oq, m + k = L.length ∧ s 0 = v ∧ s 5 = .slice (some ⟨oo, 0, none⟩) L.length L.length ∧ s 7 = .slice (some ⟨oq, 0, none⟩) st.2.length st.2.length ∧ s 8 = .int .i64 ((k : Nat) : Int) ∧ k ≤ st.2.length ∧ QH H H' oo st.1 oq 0 st.2.length st.2 ∧ BI L.length st ∧ bfsF L (m + 1) st k = bfs L i) L.length ?_ ?_
  · refine ⟨(bfs0 L.length i, [(i : Int)]), 0, A.length, by omega, ?_⟩
    simp only [S, S1, S2, S3, S4, S5, ST, eq_self, reduceIte, reduceCtorEq, Nat.reduceEqDiff, Nat.reduceAdd, h0, h5]
    have hb0 := bfs0_BI _ i hi
    have hF0 : bfsF L (L.length + 1) (bfs0 L.length i, [(i : Int)]) 0 = bfs L i := rfl
    (repeat' first | exact q0 | exact hb0 | exact hF0 | apply And.intro) <;> first | (simp only [Value.int.injEq, true_and]; omega) | omega | rfl | assumption | (simp; done) | (simp; omega)
  · rintro m s H' ⟨st, k, oq, hm, h0, h5, h7, h8, hkl, hq, hb, hF⟩
    have hle := hb.len_le
    simp (maxSteps := 1000000) (disch := omega) only [h0, h5, h7, h8, S, S1, S2, S3, S4, S5, ST, eq_self, reduceIte, reduceCtorEq, Nat.reduceEqDiff, Nat.reduceAdd]
    refine brD.intro (fun g => ?_) (fun g => ?_)
    · have hk : k < st.2.length := by omega
      rw [bfsF_step L m st k hk] at hF
      have hqm : st.2.getD k 0 ∈ st.2 := by simp [hk]
      obtain ⟨hxr, hx0⟩ := hb.q _ hqm
      have hxl := hb.lo (st.2.getD k 0).toNat (by omega)
      have hcell := hq.at hk
      obtain ⟨x, hx⟩ : ∃ x : Nat, st.2.getD k 0 = x := ⟨(st.2.getD k 0).toNat, by omega⟩
      rw [hx] at hF hxr hx0 hxl hcell
      rw [Int.toNat_natCast] at hF hx0 hxl
      rw [Nat.zero_add] at hcell
      have hpp : H <+: H' := hq.2.2.2.2.2
      have hus' := hus.pre hpp
      have hxu : x < us.length := by omega
      have hinH := (hin x (by omega)).1
      have hlb := hls x
      have hLx := hL x
      simp (maxSteps := 1000000) (disch := omega) only [h0, h5, h7, h8, hcell, hus'.ix Try.underlying26 cs38, hus'.cell, Int.toNat_natCast, Nat.zero_add, S, S1, S2, S3, S4, S5, ST, eq_self, reduceIte, reduceCtorEq, Nat.reduceEqDiff, Nat.reduceAdd]
      generalize hw : us.getD x undef = w at *
      generalize hl : L.getD x [] = l at *
      generalize hd : st.1.getD x 0 + 1 = d at *
      refine LoopH.by (fun m' s' H'' => ∃ j st' oq', m' + j = l.length ∧ s' 0 = v ∧ s' 5 = .slice (some ⟨oo, 0, none⟩) L.length L.length ∧ s' 7 = .slice (some ⟨oq', 0, none⟩) st'.2.length st'.2.length ∧ s' 8 = .int .i64 ((k : Nat) : Int) ∧ s' 9 = w ∧ s' 10 = .int .i64 ((j : Nat) : Int) ∧ QH H H'' oo st'.1 oq' 0 st'.2.length st'.2 ∧ BI L.length st' ∧ st.2 <+: st'.2 ∧ st'.1.getD x 0 + 1 = d ∧ bfsIn d (l.drop j) st' = bfsIn d l st) l.length ?_ ?_
      · refine ⟨0, st, oq, by simp, ?_⟩
        simp only [S, S1, S2, S3, S4, S5, ST, eq_self, reduceIte, reduceCtorEq, Nat.reduceEqDiff, Nat.reduceAdd, h0, h5, h7, h8]
        have hd2 : bfsIn d (l.drop 0) st = bfsIn d l st := by rw [List.drop_zero]
        have hpr := List.prefix_refl st.2
        (repeat' first | exact hq | exact hb | exact hd | exact hd2 | exact hpr | apply And.intro) <;> first | (simp only [Value.int.injEq, true_and]; omega) | omega | rfl | assumption | (simp; done) | (simp; omega)
      · rintro m' s' H'' ⟨j, st', oq', hm', g0, g5, g7, g8, g9, g10, hq', hb', hpre, hd', hB⟩
        have hpp' : H <+: H'' := hq'.2.2.2.2.2
        have hw' := hinH.pre hpp'
        have hle' := hb'.len_le
        simp (maxSteps := 1000000) (disch := omega) only [g0, g5, g7, g8, g9, g10, hw'.len Try.underlying38, S, S1, S2, S3, S4, S5, ST, eq_self, reduceIte, reduceCtorEq, Nat.reduceEqDiff, Nat.reduceAdd]
        refine brD.intro (fun q => ?_) (fun q => ?_)
        · have hj : j < l.length := by omega
          rw [bfsIn_drop d l j hj] at hB
          have hym : l.getD j 0 ∈ l := by simp [hj]
          obtain ⟨y, hy⟩ : ∃ y : Nat, l.getD j 0 = y := ⟨(l.getD j 0).toNat, by have := hLx _ hym; omega⟩
          have hyr := hLx _ hym
          rw [hy] at hB hyr
          rw [Int.toNat_natCast] at hB
          have hoc' := hq'.2.1
          have hlen' := hb'.len
          have hyl : y < st'.1.length := by omega
          have hxl' : x < st'.1.length := by omega
          have hcw := hw'.cell hj
          rw [hy] at hcw
          have hkl' : k < st'.2.length := by have := hpre.length_le; omega
          have hck := hq'.at hkl'
          have hqk : st'.2.getD k 0 = (x : Int) := by
            obtain ⟨t, ht⟩ := hpre
            rw [← ht, List.getD_eq_getElem?_getD, List.getElem?_append_left hk, ← List.getD_eq_getElem?_getD]; exact hx
          rw [hqk, Nat.zero_add] at hck
          simp (maxSteps := 1000000) (disch := omega) only [g0, g5, g7, g8, g9, g10, hw'.ix Try.underlying38 cs3, hcw, Int.toNat_natCast, Nat.zero_add, cell_ints hoc' hyl, S, S1, S2, S3, S4, S5, ST, eq_self, reduceIte, reduceCtorEq, Nat.reduceEqDiff, Nat.reduceAdd]
          refine brD.intro (fun e => ?_) (fun e => ?_)
          · rw [if_pos e] at hB
            have hd0 : 0 ≤ d := by omega
            have hdl : d ≤ st'.2.length := by
              have := hb'.lo x (by omega)
              omega
            have hb2 := hb'.put (j := (y : Int)) (d := d) hyr (by rw [Int.toNat_natCast]; exact e) ⟨hd0, hdl⟩
            rw [Int.toNat_natCast] at hb2
            obtain ⟨H2, k1, k2⟩ := hq'.push y d (y : Int) (by omega)
            have hp2 : H <+: H''.set oo (AObj.cells (ints (st'.1.set y d)) 3 false) := pre_set hpp' (by omega) _
            have hw2 := hinH.pre hp2
            have hcw2 := hw2.cell hj
            rw [hy] at hcw2
            simp (maxSteps := 1000000) (disch := omega) only [g0, g5, g7, g8, g9, g10, hw'.ix Try.underlying38 cs3, hw2.ix Try.underlying38 cs3, hcw, hcw2, hck, Int.toNat_natCast, Nat.zero_add, cell_ints hoc' hxl', hd', st_ints cs3 hoc' hyl, k1, wrap64, S, S1, S2, S3, S4, S5, ST, eq_self, reduceIte, reduceCtorEq, Nat.reduceEqDiff, Nat.reduceAdd]
            have f1 : st.2 <+: st'.2 ++ [(y : Int)] := hpre.trans (List.prefix_append _ _)
            have f2 : (st'.1.set y d).getD x 0 + 1 = d := by
              rw [getD_setB _ _ _ _ hxl']
              split
              · rename_i e2
                subst e2
                have := hb'.lo y (by omega)
                omega
              · exact hd'
            have f3 : (st'.2 ++ [(y : Int)]).length = st'.2.length + 1 := by simp
            rw [← f3] at k2
            refine ⟨m' - 1, by omega, j + 1, (st'.1.set y d, st'.2 ++ [(y : Int)]), (H''.set oo (AObj.cells (ints (st'.1.set y d)) 3 false)).length + 1, ?_⟩
            simp only [f3]
            rw [f3] at k2
            (repeat' first | exact k2 | exact hb2 | exact f1 | exact f2 | exact hB | apply And.intro) <;> first | (simp only [Value.int.injEq, true_and]; omega) | omega | rfl | assumption | (simp; done) | (simp; omega)
          · rw [if_neg e] at hB
            simp (maxSteps := 1000000) (disch := omega) only [g0, g5, g7, g8, g9, g10, wrap64, S, S1, S2, S3, S4, S5, ST, eq_self, reduceIte, reduceCtorEq, Nat.reduceEqDiff, Nat.reduceAdd]
            refine ⟨m' - 1, by omega, j + 1, st', oq', ?_⟩
            (repeat' first | exact hq' | exact hb' | exact hpre | exact hd' | exact hB | apply And.intro) <;> first | (simp only [Value.int.injEq, true_and]; omega) | omega | rfl | assumption | (simp; done) | (simp; omega)
        · simp (maxSteps := 1000000) (disch := omega) only [g0, g5, g7, g8, g9, g10, wrap64, S, S1, S2, S3, S4, S5, ST, eq_self, reduceIte, reduceCtorEq, Nat.reduceEqDiff, Nat.reduceAdd]
          rw [List.drop_of_length_le (by omega)] at hB
          have hB' : st' = bfsIn d l st := hB
          rw [← hB'] at hF
          have hm1 : m - 1 + 1 = m := by omega
          rw [← hm1] at hF
          have hkl' : k + 1 ≤ st'.2.length := by have := hpre.length_le; omega
          refine ⟨m - 1, by omega, st', k + 1, oq', ?_⟩
          (repeat' first | exact hq' | exact hb' | exact hF | exact hkl' | apply And.intro) <;> first | (simp only [Value.int.injEq, true_and]; omega) | omega | rfl | assumption | (simp; done) | (simp; omega)
    · simp (maxSteps := 1000000) (disch := omega) only [h5, S, S1, S2, S3, S4, S5, ST, eq_self, reduceIte, reduceCtorEq, Nat.reduceEqDiff, Nat.reduceAdd]
      refine hQ _ _ _ ?_
      simp (maxSteps := 1000000) (disch := omega) only [h5, S, S1, S2, S3, S4, S5, ST, eq_self, reduceIte, reduceCtorEq, Nat.reduceEqDiff, Nat.reduceAdd]
      rw [bfsF_done L _ st k (by omega)] at hF
      rw [hF] at hq
      have hbl : (bfs L i).length = L.length := by rw [← hF]; exact hb.len
      exact ⟨.inr ⟨oo, by rw [hbl], hq.2.2.1, hq.2.1⟩, hq.2.2.2.2.2⟩
end Go.Proofs.Ytlfongfhbkefmaa.Ai
namespace Go.Proofs.Ytlfongfhbkefmaa.Ai
open Go
def ords87 : List (Nat × List (Nat × Bool)) := []
def cd87 : Cd := (.seq (.reg [⟨⟨some 2, Op.assign (Operand.const (Value.slice none 0 0)), none⟩, []⟩]) (.seq (.seq (.reg [⟨⟨some 3, Op.move (Operand.tmp 0), none⟩, []⟩,
  ⟨⟨some 4, Op.binOp BinOp.eql 38 (Operand.tmp 3) (Operand.const (Value.slice none 0 0)) 38, none⟩, []⟩]) (.cond (Operand.tmp 4) (.seq (.reg [⟨⟨some 2, Op.assign (Operand.const (Value.slice none 0 0)), none⟩, []⟩]) .ret) .skip)) (.seq (.reg [⟨⟨some 5, Op.buildSlice 38 0 #[], none⟩, []⟩,
  ⟨⟨some 6, Op.move (Operand.tmp 0), none⟩, []⟩,
  ⟨⟨some 7, Op.call { callee := (Callee.builtin Builtin.append), args := #[(Operand.tmp 5), (Operand.tmp 6)], argTypes := #[38, 38] }, none⟩, []⟩,
  ⟨⟨some 2, Op.assign (Operand.tmp 7), none⟩, []⟩]) .ret)))
theorem sl87 : slim Try.f87.ntmps ords87 (Try.f87.body.getD .skip) = some cd87 := by kernel_rfl
theorem in87 {args : List Value} {H : AH} {R : Value → AH → Prop} (hl : args.length = 1) (h : ∀ (Q : Exit → Sl → AH → Prop), (∀ e s H, endA Try.prog [ResultVar.tmp 2] R e s H → Q e s H) → wpC Try.prog cd87 Q (enterA args) H) : ACalls Try.prog 87 args H R :=
  ACalls.intro (by kernel_rfl) Try.func87 rfl (by kernel_rfl) sl87 hl (of_decide_eq_true (by kernel_rfl)) (by kernel_rfl) h
end Go.Proofs.Ytlfongfhbkefmaa.Ai
namespace Go.Proofs.Ytlfongfhbkefmaa.Ai
open Go Go.RowKit
set_option linter.unusedVariables false
set_option linter.unusedSimpArgs false
set_option maxRecDepth 20000 in
theorem Clone_c (v : Value) (xs : List Int) (H : AH) (hr : Row 3 H v xs) (hlen : xs.length ≤ 1099511627776) : ACalls Try.prog 87 [v] H fun r H' => Own 3 H H' r xs ∧ H <+: H' := by
  refine in87 rfl ?_
  intro Q hQ
  obtain ⟨p, e⟩ := hr.shape
  subst e
  simp (maxSteps := 1000000) (disch := omega) only [cd87, S, S1, S2, S3, S4, S5, ST, eq_self, reduceIte, reduceCtorEq, Nat.reduceEqDiff, Nat.reduceAdd]
  refine brH.intro (fun g => ?_) (fun g => ?_) <;> simp (maxSteps := 1000000) (disch := omega) only [S, S1, S2, S3, S4, S5, ST, eq_self, reduceIte, reduceCtorEq, Nat.reduceEqDiff, Nat.reduceAdd]
  · refine hQ _ _ _ ?_
    simp (maxSteps := 1000000) (disch := omega) only [S, S1, S2, S3, S4, S5, ST, eq_self, reduceIte, reduceCtorEq, Nat.reduceEqDiff, Nat.reduceAdd]
    have : xs = [] := by
      rcases hr with h | ⟨o, k, vs, ro, h1, _⟩
      · exact h.2
      · cases p with
        | none => cases h1
        | some p => cases g
    exact ⟨.inl ⟨rfl, this⟩, List.prefix_refl _⟩
  · have hp := List.prefix_append H [AObj.cells [] 3 false]
    have ho : Own 3 H (H ++ [AObj.cells [] 3 false]) (.slice (some ⟨H.length, 0, none⟩) 0 0) [] := .inr ⟨H.length, rfl, Nat.le_refl _, at_new ..⟩
    obtain ⟨v', H2, k1, k2, k3, _⟩ := ho.app (P := Try.prog) (t := 38) Try.underlying38 cs3 (by rw [by3]; decide) zk3 (hr.pre hp) hp (by simp; omega)
    simp (maxSteps := 1000000) (disch := omega) only [k1, S, S1, S2, S3, S4, S5, ST, eq_self, reduceIte, reduceCtorEq, Nat.reduceEqDiff, Nat.reduceAdd]
    refine hQ _ _ _ ?_
    simp (maxSteps := 1000000) (disch := omega) only [k2.row.tup, S, S1, S2, S3, S4, S5, ST, eq_self, reduceIte, reduceCtorEq, Nat.reduceEqDiff, Nat.reduceAdd]
    exact ⟨k2, k3⟩
end Go.Proofs.Ytlfongfhbkefmaa.Ai
namespace Go.Proofs.Ytlfongfhbkefmaa.Ai
open Go
def ords242 : List (Nat × List (Nat × Bool)) := []
def cd242 : Cd := (.seq (.reg [⟨⟨some 6, Op.assign (Operand.const (Value.int IntKind.i64 0)), none⟩, []⟩,
  ⟨⟨some 7, Op.assign (Operand.const (Value.bool false)), none⟩, []⟩]) (.seq (.reg [⟨⟨some 12, Op.move (Operand.tmp 0), none⟩, []⟩,
  ⟨⟨some 13, Op.call { callee := (Callee.builtin Builtin.len), args := #[(Operand.tmp 12)], argTypes := #[26] }, none⟩, []⟩,
  ⟨⟨some 8, Op.assign (Operand.tmp 13), none⟩, []⟩]) (.seq (.reg [⟨⟨some 14, Op.move (Operand.tmp 8), none⟩, []⟩,
  ⟨⟨some 9, Op.assign (Operand.const (Value.int IntKind.i64 0)), none⟩, []⟩,
  ⟨⟨some 10, Op.assign (Operand.tmp 14), none⟩, []⟩]) (.seq (.block 0 (.loop (.seq (.seq (.reg [⟨⟨some 15, Op.move (Operand.tmp 9), none⟩, []⟩,
  ⟨⟨some 16, Op.move (Operand.tmp 10), none⟩, []⟩,
  ⟨⟨some 17, Op.binOp BinOp.lss 3 (Operand.tmp 15) (Operand.tmp 16) 3, none⟩, []⟩]) (.cond (Operand.tmp 17) .skip (.exit 0))) (.block 1 (.seq (.reg [⟨⟨some 18, Op.move (Operand.tmp 9), none⟩, []⟩,
  ⟨⟨some 19, Op.move (Operand.tmp 10), none⟩, []⟩,
  ⟨⟨some 20, Op.binOp BinOp.add 3 (Operand.tmp 18) (Operand.tmp 19) 3, none⟩, []⟩,
  ⟨⟨some 21, Op.convert 3 97 (Operand.tmp 20), none⟩, []⟩,
  ⟨⟨some 22, Op.binOp BinOp.shr 97 (Operand.tmp 21) (Operand.const (Value.int IntKind.u64 1)) 97, none⟩, []⟩,
  ⟨⟨some 23, Op.convert 97 3 (Operand.tmp 22), none⟩, []⟩,
  ⟨⟨some 11, Op.assign (Operand.tmp 23), none⟩, []⟩]) (.seq (.reg [⟨⟨some 24, Op.move (Operand.tmp 2), none⟩, []⟩,
  ⟨⟨some 25, Op.move (Operand.tmp 0), none⟩, []⟩,
  ⟨⟨some 26, Op.move (Operand.tmp 11), none⟩, []⟩,
  ⟨⟨some 27, Op.indexAddr 26 (Operand.tmp 25) (Operand.tmp 26), none⟩, []⟩,
  ⟨⟨some 28, Op.load 38 (Operand.tmp 27), none⟩, []⟩,
  ⟨⟨some 29, Op.move (Operand.tmp 1), none⟩, []⟩,
  ⟨⟨some 30, Op.call { callee := (Callee.value (Operand.tmp 24)), args := #[(Operand.tmp 28), (Operand.tmp 29)], argTypes := #[38, 38] }, none⟩, []⟩,
  ⟨⟨some 31, Op.binOp BinOp.lss 3 (Operand.tmp 30) (Operand.const (Value.int IntKind.i64 0)) 3, none⟩, []⟩]) (.cond (Operand.tmp 31) (.reg [⟨⟨some 32, Op.move (Operand.tmp 11), none⟩, []⟩,
  ⟨⟨some 33, Op.binOp BinOp.add 3 (Operand.tmp 32) (Operand.const (Value.int IntKind.i64 1)) 3, none⟩, []⟩,
  ⟨⟨some 9, Op.assign (Operand.tmp 33), none⟩, []⟩]) (.reg [⟨⟨some 34, Op.move (Operand.tmp 11), none⟩, []⟩,
  ⟨⟨some 10, Op.assign (Operand.tmp 34), none⟩, []⟩])))))))) (.seq (.reg [⟨⟨some 35, Op.move (Operand.tmp 9), none⟩, []⟩,
  ⟨⟨some 36, Op.move (Operand.tmp 9), none⟩, []⟩,
  ⟨⟨some 37, Op.move (Operand.tmp 8), none⟩, []⟩,
  ⟨⟨some 38, Op.binOp BinOp.lss 3 (Operand.tmp 36) (Operand.tmp 37) 3, none⟩, []⟩,
  ⟨⟨some 39, Op.move (Operand.tmp 38), none⟩, []⟩,
  ⟨⟨some 40, Op.move (Operand.tmp 2), some (39, true)⟩, []⟩,
  ⟨⟨some 41, Op.move (Operand.tmp 0), some (39, true)⟩, []⟩,
  ⟨⟨some 42, Op.move (Operand.tmp 9), some (39, true)⟩, []⟩,
  ⟨⟨some 43, Op.indexAddr 26 (Operand.tmp 41) (Operand.tmp 42), some (39, true)⟩, []⟩,
  ⟨⟨some 44, Op.load 38 (Operand.tmp 43), some (39, true)⟩, []⟩,
  ⟨⟨some 45, Op.move (Operand.tmp 1), some (39, true)⟩, []⟩,
  ⟨⟨some 46, Op.call { callee := (Callee.value (Operand.tmp 40)), args := #[(Operand.tmp 44), (Operand.tmp 45)], argTypes := #[38, 38] }, some (39, true)⟩, []⟩,
  ⟨⟨some 47, Op.binOp BinOp.eql 3 (Operand.tmp 46) (Operand.const (Value.int IntKind.i64 0)) 3, some (39, true)⟩, []⟩,
  ⟨⟨some 48, Op.pick (Operand.tmp 39) (Operand.tmp 47) (Operand.const (Value.bool false)), none⟩, []⟩,
  ⟨⟨some 6, Op.assign (Operand.tmp 35), none⟩, []⟩,
  ⟨⟨some 7, Op.assign (Operand.tmp 48), none⟩, []⟩]) .ret)))))
theorem sl242 : slim Try.f242.ntmps ords242 (Try.f242.body.getD .skip) = some cd242 := by kernel_rfl
theorem in242 {args : List Value} {H : AH} {R : Value → AH → Prop} (hl : args.length = 3) (h : ∀ (Q : Exit → Sl → AH → Prop), (∀ e s H, endA Try.prog [ResultVar.tmp 6, ResultVar.tmp 7] R e s H → Q e s H) → wpC Try.prog cd242 Q (enterA args) H) : ACalls Try.prog 242 args H R :=
  ACalls.intro (by kernel_rfl) Try.func242 rfl (by kernel_rfl) sl242 hl (of_decide_eq_true (by kernel_rfl)) (by kernel_rfl) h
def ords198 : List (Nat × List (Nat × Bool)) := []
def cd198 : Cd := (.seq (.reg [⟨⟨some 2, Op.box 28 (Operand.tmp 0), none⟩, []⟩,
  ⟨⟨some 4, Op.assign (Operand.const (Value.int IntKind.i64 0)), none⟩, []⟩,
  ⟨⟨some 5, Op.assign (Operand.const (Value.bool false)), none⟩, []⟩]) (.seq (.reg [⟨⟨some 6, Op.fieldAddr 28 (Operand.tmp 2) 0, none⟩, []⟩,
  ⟨⟨some 7, Op.load 26 (Operand.tmp 6), none⟩, []⟩,
  ⟨⟨some 8, Op.move (Operand.tmp 1), none⟩, []⟩,
  ⟨⟨some 9, Op.call { callee := (Callee.value (Operand.func 242)), args := #[(Operand.tmp 7), (Operand.tmp 8), (Operand.func 157)], argTypes := #[26, 38, 105] }, none⟩, []⟩,
  ⟨⟨some 10, Op.extract (Operand.tmp 9) 0, none⟩, []⟩,
  ⟨⟨some 11, Op.extract (Operand.tmp 9) 1, none⟩, []⟩,
  ⟨⟨some 4, Op.assign (Operand.tmp 10), none⟩, []⟩,
  ⟨⟨some 5, Op.assign (Operand.tmp 11), none⟩, []⟩]) .ret))
theorem sl198 : slim Try.f198.ntmps ords198 (Try.f198.body.getD .skip) = some cd198 := by kernel_rfl
theorem in198 {args : List Value} {H : AH} {R : Value → AH → Prop} (hl : args.length = 2) (h : ∀ (Q : Exit → Sl → AH → Prop), (∀ e s H, endA Try.prog [ResultVar.tmp 4, ResultVar.tmp 5] R e s H → Q e s H) → wpC Try.prog cd198 Q (enterA args) H) : ACalls Try.prog 198 args H R :=
  ACalls.intro (by kernel_rfl) Try.func198 rfl (by kernel_rfl) sl198 hl (of_decide_eq_true (by kernel_rfl)) (by kernel_rfl) h
def ords119 : List (Nat × List (Nat × Bool)) := []
def cd119 : Cd := (.seq (.reg [⟨⟨some 2, Op.box 28 (Operand.tmp 0), none⟩, []⟩,
  ⟨⟨some 4, Op.assign (Operand.const (Value.int IntKind.i64 0)), none⟩, []⟩]) (.seq (.seq (.reg [⟨⟨some 5, Op.assign (Operand.const (Value.int IntKind.i64 0)), none⟩, []⟩]) (.block 0 (.loop (.seq (.seq (.reg [⟨⟨some 6, Op.move (Operand.tmp 5), none⟩, []⟩,
  ⟨⟨some 7, Op.fieldAddr 28 (Operand.tmp 2) 0, none⟩, []⟩,
  ⟨⟨some 8, Op.load 26 (Operand.tmp 7), none⟩, []⟩,
  ⟨⟨some 9, Op.call { callee := (Callee.builtin Builtin.len), args := #[(Operand.tmp 8)], argTypes := #[26] }, none⟩, []⟩,
  ⟨⟨some 10, Op.binOp BinOp.lss 3 (Operand.tmp 6) (Operand.tmp 9) 3, none⟩, []⟩]) (.cond (Operand.tmp 10) .skip (.exit 0))) (.seq (.block 1 (.seq (.reg [⟨⟨some 13, Op.fieldAddr 28 (Operand.tmp 2) 0, none⟩, []⟩,
  ⟨⟨some 14, Op.load 26 (Operand.tmp 13), none⟩, []⟩,
  ⟨⟨some 15, Op.move (Operand.tmp 5), none⟩, []⟩,
  ⟨⟨some 16, Op.indexAddr 26 (Operand.tmp 14) (Operand.tmp 15), none⟩, []⟩,
  ⟨⟨some 17, Op.load 38 (Operand.tmp 16), none⟩, []⟩,
  ⟨⟨some 18, Op.move (Operand.tmp 1), none⟩, []⟩,
  ⟨⟨some 19, Op.call { callee := (Callee.value (Operand.func 83)), args := #[(Operand.tmp 17), (Operand.tmp 18)], argTypes := #[38, 38] }, none⟩, []⟩]) (.cond (Operand.tmp 19) (.seq (.reg [⟨⟨some 20, Op.move (Operand.tmp 5), none⟩, []⟩,
  ⟨⟨some 4, Op.assign (Operand.tmp 20), none⟩, []⟩]) .ret) .skip))) (.reg [⟨⟨some 11, Op.move (Operand.tmp 5), none⟩, []⟩,
  ⟨⟨some 12, Op.binOp BinOp.add 3 (Operand.tmp 11) (Operand.const (Value.int IntKind.i64 1)) 3, none⟩, []⟩,
  ⟨⟨some 5, Op.assign (Operand.tmp 12), none⟩, []⟩])))))) (.seq (.reg [⟨⟨some 4, Op.assign (Operand.const (Value.int IntKind.i64 (-1))), none⟩, []⟩]) .ret)))
theorem sl119 : slim Try.f119.ntmps ords119 (Try.f119.body.getD .skip) = some cd119 := by kernel_rfl
theorem in119 {args : List Value} {H : AH} {R : Value → AH → Prop} (hl : args.length = 2) (h : ∀ (Q : Exit → Sl → AH → Prop), (∀ e s H, endA Try.prog [ResultVar.tmp 4] R e s H → Q e s H) → wpC Try.prog cd119 Q (enterA args) H) : ACalls Try.prog 119 args H R :=
  ACalls.intro (by kernel_rfl) Try.func119 rfl (by kernel_rfl) sl119 hl (of_decide_eq_true (by kernel_rfl)) (by kernel_rfl) h
def ords118 : List (Nat × List (Nat × Bool)) := []
def cd118 : Cd := (.seq (.reg [⟨⟨some 2, Op.box 28 (Operand.tmp 0), none⟩, []⟩,
  ⟨⟨some 4, Op.assign (Operand.const (Value.slice none 0 0)), none⟩, []⟩]) (.seq (.reg [⟨⟨some 5, Op.load 28 (Operand.tmp 2), none⟩, []⟩,
  ⟨⟨some 6, Op.call { callee := (Callee.value (Operand.func 191)), args := #[(Operand.tmp 5)], argTypes := #[28] }, none⟩, []⟩,
  ⟨⟨some 7, Op.move (Operand.tmp 1), none⟩, []⟩,
  ⟨⟨some 8, Op.call { callee := (Callee.value (Operand.func 190)), args := #[(Operand.tmp 6), (Operand.tmp 7)], argTypes := #[26, 3] }, none⟩, []⟩,
  ⟨⟨some 4, Op.assign (Operand.tmp 8), none⟩, []⟩]) .ret))
theorem sl118 : slim Try.f118.ntmps ords118 (Try.f118.body.getD .skip) = some cd118 := by kernel_rfl
theorem in118 {args : List Value} {H : AH} {R : Value → AH → Prop} (hl : args.length = 2) (h : ∀ (Q : Exit → Sl → AH → Prop), (∀ e s H, endA Try.prog [ResultVar.tmp 4] R e s H → Q e s H) → wpC Try.prog cd118 Q (enterA args) H) : ACalls Try.prog 118 args H R :=
  ACalls.intro (by kernel_rfl) Try.func118 rfl (by kernel_rfl) sl118 hl (of_decide_eq_true (by kernel_rfl)) (by kernel_rfl) h
def ords199 : List (Nat × List (Nat × Bool)) := [(10, [(0, false), (1, false), (2, false), (3, false), (4, false), (5, false), (6, false), (7, false), (8, false), (9, false)])]
def cd199 : Cd := (.seq (.reg [⟨⟨some 3, Op.box 28 (Operand.tmp 0), none⟩, []⟩,
  ⟨⟨some 6, Op.assign (Operand.const (Value.slice none 0 0)), none⟩, []⟩,
  ⟨⟨some 7, Op.assign (Operand.const (Value.bool false)), none⟩, []⟩]) (.seq (.reg [⟨⟨some 13, Op.load 28 (Operand.tmp 3), none⟩, []⟩,
  ⟨⟨some 14, Op.call { callee := (Callee.value (Operand.func 243)), args := #[(Operand.tmp 13)], argTypes := #[28] }, none⟩, []⟩,
  ⟨⟨some 8, Op.assign (Operand.tmp 14), none⟩, []⟩]) (.seq (.reg [⟨⟨some 15, Op.move (Operand.tmp 8), none⟩, []⟩,
  ⟨⟨some 16, Op.move (Operand.tmp 2), none⟩, []⟩,
  ⟨⟨some 17, Op.call { callee := (Callee.value (Operand.func 232)), args := #[(Operand.tmp 15), (Operand.tmp 16)], argTypes := #[26, 3] }, none⟩, []⟩,
  ⟨⟨some 9, Op.assign (Operand.tmp 17), none⟩, []⟩]) (.seq (.seq (.reg [⟨⟨some 18, Op.move (Operand.tmp 9), none⟩, []⟩,
  ⟨⟨some 19, Op.move (Operand.tmp 1), none⟩, []⟩,
  ⟨⟨some 20, Op.indexAddr 38 (Operand.tmp 18) (Operand.tmp 19), none⟩, []⟩,
  ⟨⟨some 21, Op.load 3 (Operand.tmp 20), none⟩, []⟩,
  ⟨⟨some 22, Op.binOp BinOp.lss 3 (Operand.tmp 21) (Operand.const (Value.int IntKind.i64 0)) 3, none⟩, []⟩]) (.cond (Operand.tmp 22) (.seq (.reg [⟨⟨some 6, Op.assign (Operand.const (Value.slice none 0 0)), none⟩, []⟩,
  ⟨⟨some 7, Op.assign (Operand.const (Value.bool false)), none⟩, []⟩]) .ret) .skip)) (.seq (.reg [⟨⟨some 23, Op.move (Operand.tmp 1), none⟩, []⟩,
  ⟨⟨some 24, Op.buildSlice 38 1 #[(0, (Operand.tmp 23))], none⟩, []⟩,
  ⟨⟨some 10, Op.assign (Operand.tmp 24), none⟩, []⟩]) (.seq (.block 0 (.loop (.seq (.seq (.reg [⟨⟨some 25, Op.move (Operand.tmp 1), none⟩, []⟩,
  ⟨⟨some 26, Op.move (Operand.tmp 2), none⟩, []⟩,
  ⟨⟨some 27, Op.binOp BinOp.neq 3 (Operand.tmp 25) (Operand.tmp 26) 3, none⟩, []⟩]) (.cond (Operand.tmp 27) .skip (.exit 0))) (.block 1 (.seq (.seq (.reg [⟨⟨some 28, Op.move (Operand.tmp 8), none⟩, []⟩,
  ⟨⟨some 29, Op.move (Operand.tmp 1), none⟩, []⟩,
  ⟨⟨some 30, Op.indexAddr 26 (Operand.tmp 28) (Operand.tmp 29), none⟩, []⟩,
  ⟨⟨some 31, Op.load 38 (Operand.tmp 30), none⟩, []⟩,
  ⟨⟨some 32, Op.call { callee := (Callee.builtin Builtin.len), args := #[(Operand.tmp 31)], argTypes := #[38] }, none⟩, []⟩,
  ⟨⟨some 33, Op.move (Operand.const (Value.int IntKind.i64 0)), none⟩, []⟩]) (.block 2 (.loop (.seq (.reg [⟨⟨some 34, Op.binOp BinOp.lss 3 (Operand.tmp 33) (Operand.tmp 32) 3, none⟩, []⟩]) (.seq (.cond (Operand.tmp 34) .skip (.exit 2)) (.seq (.block 3 (.seq (.reg [⟨⟨some 35, Op.indexAddr 38 (Operand.tmp 31) (Operand.tmp 33), none⟩, []⟩,
  ⟨⟨some 36, Op.load 3 (Operand.tmp 35), none⟩, []⟩,
  ⟨⟨some 12, Op.assign (Operand.tmp 36), none⟩, []⟩]) (.seq (.reg [⟨⟨some 37, Op.move (Operand.tmp 9), none⟩, []⟩,
  ⟨⟨some 38, Op.move (Operand.tmp 12), none⟩, []⟩,
  ⟨⟨some 39, Op.indexAddr 38 (Operand.tmp 37) (Operand.tmp 38), none⟩, []⟩,
  ⟨⟨some 40, Op.load 3 (Operand.tmp 39), none⟩, []⟩,
  ⟨⟨some 41, Op.move (Operand.tmp 9), none⟩, []⟩,
  ⟨⟨some 42, Op.move (Operand.tmp 1), none⟩, []⟩,
  ⟨⟨some 43, Op.indexAddr 38 (Operand.tmp 41) (Operand.tmp 42), none⟩, []⟩,
  ⟨⟨some 44, Op.load 3 (Operand.tmp 43), none⟩, []⟩,
  ⟨⟨some 45, Op.binOp BinOp.sub 3 (Operand.tmp 44) (Operand.const (Value.int IntKind.i64 1)) 3, none⟩, []⟩,
  ⟨⟨some 46, Op.binOp BinOp.eql 3 (Operand.tmp 40) (Operand.tmp 45) 3, none⟩, []⟩]) (.cond (Operand.tmp 46) (.seq (.reg [⟨⟨some 47, Op.move (Operand.tmp 12), none⟩, []⟩,
  ⟨⟨some 1, Op.assign (Operand.tmp 47), none⟩, []⟩]) (.exit 2)) .skip)))) (.reg [⟨⟨some 48, Op.binOp BinOp.add 3 (Operand.tmp 33) (Operand.const (Value.int IntKind.i64 1)) 3, none⟩, []⟩,
  ⟨⟨some 33, Op.move (Operand.tmp 48), none⟩, []⟩]))))))) (.reg [⟨⟨some 49, Op.move (Operand.tmp 10), none⟩, []⟩,
  ⟨⟨some 50, Op.move (Operand.tmp 1), none⟩, []⟩,
  ⟨⟨some 51, Op.buildSlice 38 1 #[(0, (Operand.tmp 50))], none⟩, []⟩,
  ⟨⟨some 52, Op.call { callee := (Callee.builtin Builtin.append), args := #[(Operand.tmp 49), (Operand.tmp 51)], argTypes := #[38, 38] }, none⟩, []⟩,
  ⟨⟨some 10, Op.assign (Operand.tmp 52), none⟩, []⟩])))))) (.seq (.reg [⟨⟨some 53, Op.move (Operand.tmp 10), none⟩, []⟩,
  ⟨⟨some 6, Op.assign (Operand.tmp 53), none⟩, []⟩,
  ⟨⟨some 7, Op.assign (Operand.const (Value.bool true)), none⟩, []⟩]) .ret)))))))
theorem sl199 : slim Try.f199.ntmps ords199 (Try.f199.body.getD .skip) = some cd199 := by kernel_rfl
theorem in199 {args : List Value} {H : AH} {R : Value → AH → Prop} (hl : args.length = 3) (h : ∀ (Q : Exit → Sl → AH → Prop), (∀ e s H, endA Try.prog [ResultVar.tmp 6, ResultVar.tmp 7] R e s H → Q e s H) → wpC Try.prog cd199 Q (enterA args) H) : ACalls Try.prog 199 args H R :=
  ACalls.intro (by kernel_rfl) Try.func199 rfl (by kernel_rfl) sl199 hl (of_decide_eq_true (by kernel_rfl)) (by kernel_rfl) h
def ords122 : List (Nat × List (Nat × Bool)) := []
def cd122 : Cd := (.seq (.reg [⟨⟨some 3, Op.box 28 (Operand.tmp 0), none⟩, []⟩,
  ⟨⟨some 6, Op.assign (Operand.const (Value.slice none 0 0)), none⟩, []⟩,
  ⟨⟨some 7, Op.assign (Operand.const (Value.bool false)), none⟩, []⟩]) (.seq (.reg [⟨⟨some 18, Op.load 28 (Operand.tmp 3), none⟩, []⟩,
  ⟨⟨some 19, Op.move (Operand.tmp 1), none⟩, []⟩,
  ⟨⟨some 20, Op.call { callee := (Callee.value (Operand.func 198)), args := #[(Operand.tmp 18), (Operand.tmp 19)], argTypes := #[28, 38] }, none⟩, []⟩,
  ⟨⟨some 17, Op.move (Operand.tmp 20), none⟩, []⟩,
  ⟨⟨some 21, Op.extract (Operand.tmp 17) 0, none⟩, []⟩,
  ⟨⟨some 22, Op.extract (Operand.tmp 17) 1, none⟩, []⟩,
  ⟨⟨some 8, Op.assign (Operand.tmp 21), none⟩, []⟩,
  ⟨⟨some 9, Op.assign (Operand.tmp 22), none⟩, []⟩]) (.seq (.reg [⟨⟨some 24, Op.load 28 (Operand.tmp 3), none⟩, []⟩,
  ⟨⟨some 25, Op.move (Operand.tmp 2), none⟩, []⟩,
  ⟨⟨some 26, Op.call { callee := (Callee.value (Operand.func 198)), args := #[(Operand.tmp 24), (Operand.tmp 25)], argTypes := #[28, 38] }, none⟩, []⟩,
  ⟨⟨some 23, Op.move (Operand.tmp 26), none⟩, []⟩,
  ⟨⟨some 27, Op.extract (Operand.tmp 23) 0, none⟩, []⟩,
  ⟨⟨some 28, Op.extract (Operand.tmp 23) 1, none⟩, []⟩,
  ⟨⟨some 10, Op.assign (Operand.tmp 27), none⟩, []⟩,
  ⟨⟨some 11, Op.assign (Operand.tmp 28), none⟩, []⟩]) (.seq (.seq (.reg [⟨⟨some 29, Op.move (Operand.tmp 9), none⟩, []⟩,
  ⟨⟨some 30, Op.unOp UnOp.not 4 (Operand.tmp 29), none⟩, []⟩,
  ⟨⟨some 31, Op.move (Operand.tmp 30), none⟩, []⟩,
  ⟨⟨some 32, Op.move (Operand.tmp 11), some (31, false)⟩, []⟩,
  ⟨⟨some 33, Op.unOp UnOp.not 4 (Operand.tmp 32), some (31, false)⟩, []⟩,
  ⟨⟨some 34, Op.pick (Operand.tmp 31) (Operand.const (Value.bool true)) (Operand.tmp 33), none⟩, []⟩]) (.cond (Operand.tmp 34) (.seq (.reg [⟨⟨some 6, Op.assign (Operand.const (Value.slice none 0 0)), none⟩, []⟩,
  ⟨⟨some 7, Op.assign (Operand.const (Value.bool false)), none⟩, []⟩]) .ret) .skip)) (.seq (.reg [⟨⟨some 36, Op.load 28 (Operand.tmp 3), none⟩, []⟩,
  ⟨⟨some 37, Op.move (Operand.tmp 8), none⟩, []⟩,
  ⟨⟨some 38, Op.move (Operand.tmp 10), none⟩, []⟩,
  ⟨⟨some 39, Op.call { callee := (Callee.value (Operand.func 199)), args := #[(Operand.tmp 36), (Operand.tmp 37), (Operand.tmp 38)], argTypes := #[28, 3, 3] }, none⟩, []⟩,
  ⟨⟨some 35, Op.move (Operand.tmp 39), none⟩, []⟩,
  ⟨⟨some 40, Op.extract (Operand.tmp 35) 0, none⟩, []⟩,
  ⟨⟨some 41, Op.extract (Operand.tmp 35) 1, none⟩, []⟩,
  ⟨⟨some 12, Op.assign (Operand.tmp 40), none⟩, []⟩,
  ⟨⟨some 13, Op.assign (Operand.tmp 41), none⟩, []⟩]) (.seq (.reg [⟨⟨some 42, Op.buildSlice 26 0 #[], none⟩, []⟩,
  ⟨⟨some 14, Op.assign (Operand.tmp 42), none⟩, []⟩]) (.seq (.seq (.reg [⟨⟨some 43, Op.move (Operand.tmp 12), none⟩, []⟩,
  ⟨⟨some 44, Op.call { callee := (Callee.builtin Builtin.len), args := #[(Operand.tmp 43)], argTypes := #[38] }, none⟩, []⟩,
  ⟨⟨some 45, Op.move (Operand.const (Value.int IntKind.i64 0)), none⟩, []⟩]) (.block 0 (.loop (.seq (.reg [⟨⟨some 46, Op.binOp BinOp.lss 3 (Operand.tmp 45) (Operand.tmp 44) 3, none⟩, []⟩]) (.seq (.cond (Operand.tmp 46) .skip (.exit 0)) (.seq (.block 1 (.seq (.reg [⟨⟨some 47, Op.indexAddr 38 (Operand.tmp 43) (Operand.tmp 45), none⟩, []⟩,
  ⟨⟨some 48, Op.load 3 (Operand.tmp 47), none⟩, []⟩,
  ⟨⟨some 16, Op.assign (Operand.tmp 48), none⟩, []⟩]) (.reg [⟨⟨some 49, Op.move (Operand.tmp 14), none⟩, []⟩,
  ⟨⟨some 50, Op.fieldAddr 28 (Operand.tmp 3) 0, none⟩, []⟩,
  ⟨⟨some 51, Op.load 26 (Operand.tmp 50), none⟩, []⟩,
  ⟨⟨some 52, Op.move (Operand.tmp 16), none⟩, []⟩,
  ⟨⟨some 53, Op.indexAddr 26 (Operand.tmp 51) (Operand.tmp 52), none⟩, []⟩,
  ⟨⟨some 54, Op.load 38 (Operand.tmp 53), none⟩, []⟩,
  ⟨⟨some 55, Op.call { callee := (Callee.value (Operand.func 87)), args := #[(Operand.tmp 54)], argTypes := #[38] }, none⟩, []⟩,
  ⟨⟨some 56, Op.buildSlice 26 1 #[(0, (Operand.tmp 55))], none⟩, []⟩,
  ⟨⟨some 57, Op.call { callee := (Callee.builtin Builtin.append), args := #[(Operand.tmp 49), (Operand.tmp 56)], argTypes := #[26, 26] }, none⟩, []⟩,
  ⟨⟨some 14, Op.assign (Operand.tmp 57), none⟩, []⟩]))) (.reg [⟨⟨some 58, Op.binOp BinOp.add 3 (Operand.tmp 45) (Operand.const (Value.int IntKind.i64 1)) 3, none⟩, []⟩,
  ⟨⟨some 45, Op.move (Operand.tmp 58), none⟩, []⟩]))))))) (.seq (.reg [⟨⟨some 59, Op.move (Operand.tmp 14), none⟩, []⟩,
  ⟨⟨some 60, Op.move (Operand.tmp 13), none⟩, []⟩,
  ⟨⟨some 6, Op.assign (Operand.tmp 59), none⟩, []⟩,
  ⟨⟨some 7, Op.assign (Operand.tmp 60), none⟩, []⟩]) .ret))))))))
theorem sl122 : slim Try.f122.ntmps ords122 (Try.f122.body.getD .skip) = some cd122 := by kernel_rfl
theorem in122 {args : List Value} {H : AH} {R : Value → AH → Prop} (hl : args.length = 3) (h : ∀ (Q : Exit → Sl → AH → Prop), (∀ e s H, endA Try.prog [ResultVar.tmp 6, ResultVar.tmp 7] R e s H → Q e s H) → wpC Try.prog cd122 Q (enterA args) H) : ACalls Try.prog 122 args H R :=
  ACalls.intro (by kernel_rfl) Try.func122 rfl (by kernel_rfl) sl122 hl (of_decide_eq_true (by kernel_rfl)) (by kernel_rfl) h
end Go.Proofs.Ytlfongfhbkefmaa.Ai
namespace Go.Proofs.Ytlfongfhbkefmaa.Ai
open Go Go.RowKit
set_option linter.unusedVariables false
set_option linter.unusedSimpArgs false
theorem shr_one (P : Program) (t : TypeId) (b : Nat) : binA P .shr t (.int .u64 (b : Int)) (.int .u64 1) = some (.int .u64 ((b / 2 : Nat) : Int)) := by
  simp only [binA, shiftA]
  rw [if_pos (.inr trivial), if_neg (by decide)]
  congr 2
  have : (2 ^ min (1 : Int).toNat IntKind.u64.bits : Int) = 2 := by decide
  rw [this, Int.fdiv_eq_ediv_of_nonneg _ (by decide)]
  omega
theorem conv_iu {n : Nat} (h : n < 2 ^ 62) : convA Try.prog 3 97 (.int .i64 (n : Int)) = some (.int .u64 (n : Int)) := by
  simp only [convA, Try.underlying97, Try.underlying3]
  rw [IntKind.wrap_u64]
  congr 2; omega
theorem conv_ui {n : Nat} (h : n < 2 ^ 62) : convA Try.prog 97 3 (.int .u64 (n : Int)) = some (.int .i64 (n : Int)) := by
  simp only [convA, Try.underlying97, Try.underlying3]
  rw [wrap64 (by omega) (by omega)]
set_option maxRecDepth 20000 in
set_option maxHeartbeats 4000000 in
theorem BSearch_c {v w : Value} {us : List Value} {ls : List (List Int)} {t : List Int} {H : AH} (h : Sts H v us ls) (hw : Row 3 H w t) (hl : t.length ≤ 1099511627776) :
    ACalls Try.prog 242 [v, w, fnCmp] H fun r H' => (∃ i : Nat, r = .tuple (List.toArray [.int .i64 (i : Int), .bool (decide (t ∈ ls))]) ∧ (t ∈ ls → i < ls.length ∧ ls.getD i [] = t)) ∧ H = H' := by
  refine in242 rfl ?_
  intro Q hQ
  have hul := h.len
  have hb := h.bnd
  have cmp : ∀ i, i < ls.length → ACalls Try.prog 157 [us.getD i undef, w] H fun r H' => r = .int .i64 (cmpL (ls.getD i []) t) ∧ H = H' := fun i hi => CmpL_c _ _ _ _ H (h.each i hi) hw (h.small i hi) hl
  simp (maxSteps := 1000000) (disch := omega) only [cd242, h.row.len Try.underlying26, hul, S, S1, S2, S3, S4, S5, ST, eq_self, reduceIte, reduceCtorEq, Nat.reduceEqDiff, Nat.reduceAdd]
  refine LoopH.by (fun m s H' => ∃ (i j : Nat), m + i = j ∧ j ≤ ls.length ∧ s 0 = v ∧ s 1 = w ∧ s 2 = fnCmp ∧ s 8 = .int .i64 (ls.length : Int) ∧ s 9 = .int .i64 ((i : Nat) : Int) ∧ s 10 = .int .i64 ((j : Nat) : Int) ∧ H = H' ∧ (∀ k, k < i → cmpL (ls.getD k []) t < 0) ∧ ∀ k, j ≤ k → k < ls.length → ¬ cmpL (ls.getD k []) t < 0) ls.length ?_ ?_
  · refine ⟨0, ls.length, by simp, Nat.le_refl _, rfl, rfl, rfl, rfl, rfl, rfl, rfl, fun k hk => absurd hk (Nat.not_lt_zero k), fun k h1 h2 => by omega⟩
  rintro m s H' ⟨i, j, hm, hj, h0, h1, h2, h8, h9, h10, rfl, lo, hi⟩
  simp (maxSteps := 1000000) (disch := omega) only [h0, h1, h2, h8, h9, h10, S, S1, S2, S3, S4, S5, ST, eq_self, reduceIte, reduceCtorEq, Nat.reduceEqDiff, Nat.reduceAdd]
  refine brD.intro (fun g => ?_) (fun g => ?_)
  · have hij : i < j := by omega
    have hmid : (i + j) / 2 < ls.length := by omega
    have c1 := conv_iu (n := i + j) (by omega)
    have c2 := shr_one Try.prog 97 (i + j)
    have c3 := conv_ui (n := (i + j) / 2) (by omega)
    have hw1 : IntKind.i64.wrap ((i : Int) + (j : Int)) = ((i + j : Nat) : Int) := by rw [wrap64 (by omega) (by omega)]; omega
    have hci := h.cell hmid
    simp (maxSteps := 1000000) (disch := omega) only [h0, h1, h2, h8, h9, h10, hw1, c1, c2, c3, h.row.ix Try.underlying26 cs38, Int.toNat_natCast, hci, S, S1, S2, S3, S4, S5, ST, eq_self, reduceIte, reduceCtorEq, Nat.reduceEqDiff, Nat.reduceAdd]
    refine CallH.by (cmp _ hmid) ?_
    rintro _ _ ⟨rfl, rfl⟩
    simp (maxSteps := 1000000) (disch := omega) only [S, S1, S2, S3, S4, S5, ST, eq_self, reduceIte, reduceCtorEq, Nat.reduceEqDiff, Nat.reduceAdd]
    refine brD.intro (fun e => ?_) (fun e => ?_)
    · have f1 : ∀ k, k < (i + j) / 2 + 1 → cmpL (ls.getD k []) t < 0 := fun k hk => srt_dn h.srt (j := (i + j) / 2) (by omega) hmid e
      simp (maxSteps := 1000000) (disch := omega) only [h0, h1, h2, h8, h9, h10, wrap64, S, S1, S2, S3, S4, S5, ST, eq_self, reduceIte, reduceCtorEq, Nat.reduceEqDiff, Nat.reduceAdd]
      refine ⟨j - ((i + j) / 2 + 1), by omega, (i + j) / 2 + 1, j, ?_⟩
      (repeat' first | exact f1 | exact hi | apply And.intro) <;> first | (simp only [Value.int.injEq, true_and]; omega) | omega | rfl | assumption | (simp; done) | (simp; omega)
    · have f1 : ∀ k, (i + j) / 2 ≤ k → k < ls.length → ¬ cmpL (ls.getD k []) t < 0 := fun k h1 h2 q => e (srt_dn h.srt h1 h2 q)
      simp (maxSteps := 1000000) (disch := omega) only [h0, h1, h2, h8, h9, h10, S, S1, S2, S3, S4, S5, ST, eq_self, reduceIte, reduceCtorEq, Nat.reduceEqDiff, Nat.reduceAdd]
      refine ⟨(i + j) / 2 - i, by omega, i, (i + j) / 2, ?_⟩
      (repeat' first | exact lo | exact f1 | apply And.intro) <;> first | (simp only [Value.int.injEq, true_and]; omega) | omega | rfl | assumption | (simp; done) | (simp; omega)
  · have hij : i = j := by omega
    subst hij
    by_cases e : i < ls.length
    · have e' : (i : Int) < (ls.length : Int) := by omega
      have hci := h.cell e
      simp (maxSteps := 1000000) (disch := omega) only [h0, h1, h2, h8, h9, h10, decide_eq_true e', h.row.ix Try.underlying26 cs38, Int.toNat_natCast, hci, S, S1, S2, S3, S4, S5, ST, eq_self, reduceIte, reduceCtorEq, Nat.reduceEqDiff, Nat.reduceAdd]
      refine CallH.by (cmp _ e) ?_
      rintro _ _ ⟨rfl, rfl⟩
      simp (maxSteps := 1000000) (disch := omega) only [S, S1, S2, S3, S4, S5, ST, eq_self, reduceIte, reduceCtorEq, Nat.reduceEqDiff, Nat.reduceAdd]
      refine hQ _ _ _ ?_
      simp (maxSteps := 1000000) (disch := omega) only [S, S1, S2, S3, S4, S5, ST, eq_self, reduceIte, reduceCtorEq, Nat.reduceEqDiff, Nat.reduceAdd]
      have hmem : t ∈ ls ↔ cmpL (ls.getD i []) t = 0 := by
        constructor
        · intro ht
          obtain ⟨k, k1, k2⟩ := mem_at ht
          have hk0 : i ≤ k := Nat.le_of_not_lt fun q => by have := lo k q; rw [k2, cmpL_self] at this; omega
          by_cases q : k = i
          · subst q; rw [k2, cmpL_self]
          · have := srt_lt h.srt (show i < k by omega) k1
            rw [k2] at this
            exact absurd this (hi i (Nat.le_refl _) e)
        · intro q
          have := cmpL_zero q
          rw [← this]; simp [e]
      refine ⟨i, ?_, fun ht => ⟨e, cmpL_zero (hmem.1 ht)⟩⟩
      rw [decide_eq_decide.2 hmem]
    · have e' : ¬ (i : Int) < (ls.length : Int) := by omega
      simp (maxSteps := 1000000) (disch := omega) only [h0, h1, h2, h8, h9, h10, decide_eq_false e', S, S1, S2, S3, S4, S5, ST, eq_self, reduceIte, reduceCtorEq, Nat.reduceEqDiff, Nat.reduceAdd]
      refine hQ _ _ _ ?_
      simp (maxSteps := 1000000) (disch := omega) only [S, S1, S2, S3, S4, S5, ST, eq_self, reduceIte, reduceCtorEq, Nat.reduceEqDiff, Nat.reduceAdd]
      have hno : t ∉ ls := fun ht => by
        obtain ⟨k, k1, k2⟩ := mem_at ht
        have := lo k (by omega)
        rw [k2, cmpL_self] at this; omega
      exact ⟨i, by rw [decide_eq_false hno], fun ht => absurd ht hno⟩
theorem place_c {a b w : Value} {us : List Value} {ls : List (List Int)} {ps : List (Int × Int)} {t : List Int} {H : AH} (hr : SpRow H a b ls ps) (h : Sts H a us ls) (hw : Row 3 H w t) (hl : t.length ≤ 1099511627776) :
    ACalls Try.prog 198 [.agg (List.toArray [a, b]), w] H fun r H' => (∃ i : Nat, r = .tuple (List.toArray [.int .i64 (i : Int), .bool (decide (t ∈ ls))]) ∧ (t ∈ ls → i < ls.length ∧ ls.getD i [] = t)) ∧ H <+: H' := by
  refine in198 rfl ?_
  intro Q hQ
  simp (maxSteps := 1000000) (disch := omega) only [cd198, hr.box, S, S1, S2, S3, S4, S5, ST, eq_self, reduceIte, reduceCtorEq, Nat.reduceEqDiff, Nat.reduceAdd]
  generalize hA : H ++ [AObj.cells [a, b] 28 false] = A
  have pA : H <+: A := by rw [← hA]; exact List.prefix_append _ _
  have cA : A[H.length]? = some (.cells [a, b] 28 false) := by rw [← hA]; exact at_new ..
  simp (maxSteps := 1000000) (disch := omega) only [cell_of cA, S, S1, S2, S3, S4, S5, ST, eq_self, reduceIte, reduceCtorEq, Nat.reduceEqDiff, Nat.reduceAdd]
  refine CallH.by (BSearch_c (h.pre pA) (hw.pre pA) hl) ?_
  rintro _ _ ⟨⟨i, rfl, hi⟩, rfl⟩
  simp (maxSteps := 1000000) (disch := omega) only [S, S1, S2, S3, S4, S5, ST, eq_self, reduceIte, reduceCtorEq, Nat.reduceEqDiff, Nat.reduceAdd]
  refine hQ _ _ _ ?_
  simp (maxSteps := 1000000) (disch := omega) only [S, S1, S2, S3, S4, S5, ST, eq_self, reduceIte, reduceCtorEq, Nat.reduceEqDiff, Nat.reduceAdd]
  exact ⟨⟨i, rfl, hi⟩, pA⟩
set_option maxRecDepth 20000 in
set_option maxHeartbeats 4000000 in
theorem l2Index_c {a b w : Value} {us : List Value} {ls : List (List Int)} {ps : List (Int × Int)} {t : List Int} {H : AH} (hr : SpRow H a b ls ps) (h : Sts H a us ls) (hw : Row 3 H w t) (hl : t.length ≤ 1099511627776) :
    ACalls Try.prog 119 [.agg (List.toArray [a, b]), w] H fun r H' => (∃ i : Int, r = .int .i64 i ∧ (t ∉ ls → i = -1) ∧ (t ∈ ls → (0 ≤ i ∧ i < ls.length) ∧ ls.getD i.toNat [] = t)) ∧ H <+: H' := by
  refine in119 rfl ?_
  intro Q hQ
  have hul := h.len
  have hb := h.bnd
  simp (maxSteps := 1000000) (disch := omega) only [cd119, hr.box, S, S1, S2, S3, S4, S5, ST, eq_self, reduceIte, reduceCtorEq, Nat.reduceEqDiff, Nat.reduceAdd]
  generalize hA : H ++ [AObj.cells [a, b] 28 false] = A
  have pA : H <+: A := by rw [← hA]; exact List.prefix_append _ _
  have cA : A[H.length]? = some (.cells [a, b] 28 false) := by rw [← hA]; exact at_new ..
  have hA2 := h.pre pA
  refine LoopH.by (fun m s H' => ∃ (i : Nat), m + i = ls.length ∧ s 1 = w ∧ s 2 = .pointer (some ⟨H.length, 0, none⟩) ∧ s 5 = .int .i64 ((i : Nat) : Int) ∧ A = H' ∧ ∀ k, k < i → ls.getD k [] ≠ t) ls.length ?_ ?_
  · exact ⟨0, by simp, rfl, rfl, rfl, rfl, fun k hk => absurd hk (Nat.not_lt_zero k)⟩
  rintro m s H' ⟨i, hm, h1, h2, h5, rfl, hno⟩
  simp (maxSteps := 1000000) (disch := omega) only [h1, h2, h5, cell_of cA, hA2.row.len Try.underlying26, hul, S, S1, S2, S3, S4, S5, ST, eq_self, reduceIte, reduceCtorEq, Nat.reduceEqDiff, Nat.reduceAdd]
  refine brD.intro (fun g => ?_) (fun g => ?_)
  · have hi : i < ls.length := by omega
    have hci := hA2.cell hi
    simp (maxSteps := 1000000) (disch := omega) only [h1, h2, h5, cell_of cA, hA2.row.ix Try.underlying26 cs38, Int.toNat_natCast, hci, S, S1, S2, S3, S4, S5, ST, eq_self, reduceIte, reduceCtorEq, Nat.reduceEqDiff, Nat.reduceAdd]
    refine CallH.by (l1Same_c _ _ _ _ A (hA2.each i hi) (hw.pre pA) (h.small i hi)) ?_
    rintro _ _ ⟨rfl, rfl⟩
    by_cases e : ls.getD i [] = t
    · simp (maxSteps := 1000000) (disch := omega) only [decide_eq_true e, h5, S, S1, S2, S3, S4, S5, ST, eq_self, reduceIte, reduceCtorEq, Nat.reduceEqDiff, Nat.reduceAdd]
      refine hQ _ _ _ ?_
      simp (maxSteps := 1000000) (disch := omega) only [S, S1, S2, S3, S4, S5, ST, eq_self, reduceIte, reduceCtorEq, Nat.reduceEqDiff, Nat.reduceAdd]
      have hm : t ∈ ls := by rw [← e]; simp [hi]
      exact ⟨⟨(i : Int), rfl, fun q => absurd hm q, fun _ => ⟨by omega, by rw [Int.toNat_natCast]; exact e⟩⟩, pA⟩
    · simp (maxSteps := 1000000) (disch := omega) only [decide_eq_false e, h1, h2, h5, wrap64, S, S1, S2, S3, S4, S5, ST, eq_self, reduceIte, reduceCtorEq, Nat.reduceEqDiff, Nat.reduceAdd]
      have f1 : ∀ k, k < i + 1 → ls.getD k [] ≠ t := fun k hk => by
        by_cases q : k = i
        · subst q; exact e
        · exact hno k (by omega)
      refine ⟨m - 1, by omega, i + 1, ?_⟩
      (repeat' first | exact f1 | apply And.intro) <;> first | (simp only [Value.int.injEq, true_and]; omega) | omega | rfl | assumption | (simp; done) | (simp; omega)
  · simp (maxSteps := 1000000) (disch := omega) only [S, S1, S2, S3, S4, S5, ST, eq_self, reduceIte, reduceCtorEq, Nat.reduceEqDiff, Nat.reduceAdd]
    refine hQ _ _ _ ?_
    simp (maxSteps := 1000000) (disch := omega) only [S, S1, S2, S3, S4, S5, ST, eq_self, reduceIte, reduceCtorEq, Nat.reduceEqDiff, Nat.reduceAdd]
    have hm : t ∉ ls := fun q => by
      obtain ⟨k, k1, k2⟩ := mem_at q
      exact hno k (by omega) k2
    exact ⟨⟨-1, rfl, fun _ => rfl, fun q => absurd q hm⟩, pA⟩
theorem l2Dist_c {a b : Value} {ls : List (List Int)} {ps : List (Int × Int)} {H : AH} (hr : SpRow H a b ls ps) (hn : ls.length ≤ 1000) (hp : ps.length ≤ 1000000) (hps : StpOk ls.length ps) (hdeg : ∀ x, (nbS ps x).length ≤ 12) {i : Nat} (hi : i < ls.length) :
    ACalls Try.prog 118 [.agg (List.toArray [a, b]), .int .i64 (i : Int)] H fun r H' => Own 3 H H' r (bfs (rdS ls.length ps) i) ∧ H <+: H' := by
  refine in118 rfl ?_
  intro Q hQ
  simp (maxSteps := 1000000) (disch := omega) only [cd118, hr.box, S, S1, S2, S3, S4, S5, ST, eq_self, reduceIte, reduceCtorEq, Nat.reduceEqDiff, Nat.reduceAdd]
  generalize hA : H ++ [AObj.cells [a, b] 28 false] = A
  have pA : H <+: A := by rw [← hA]; exact List.prefix_append _ _
  have cA : A[H.length]? = some (.cells [a, b] 28 false) := by rw [← hA]; exact at_new ..
  simp (maxSteps := 1000000) (disch := omega) only [ld_agg ag28 cs28 cA, S, S1, S2, S3, S4, S5, ST, eq_self, reduceIte, reduceCtorEq, Nat.reduceEqDiff, Nat.reduceAdd]
  refine CallH.by (l2Lists_c a b ls ps A (hr.pre pA) hn hp hps hdeg) ?_
  rintro v B ⟨⟨bd, hv⟩, pB⟩
  have hrl := rdS_len ls.length ps
  simp (maxSteps := 1000000) (disch := omega) only [S, S1, S2, S3, S4, S5, ST, eq_self, reduceIte, reduceCtorEq, Nat.reduceEqDiff, Nat.reduceAdd]
  refine CallH.by (l2Spread_c v (rdS ls.length ps) i B hv (rdS_ok hps) (by omega) (by omega) (fun x => by
    by_cases hx : x < ls.length
    · rw [rdS_at _ _ hx]; have := hdeg (x : Int); omega
    · rw [List.getD_eq_getElem?_getD, List.getElem?_eq_none (by omega)]; simp)) ?_
  rintro d C ⟨hd, pC⟩
  simp (maxSteps := 1000000) (disch := omega) only [S, S1, S2, S3, S4, S5, ST, eq_self, reduceIte, reduceCtorEq, Nat.reduceEqDiff, Nat.reduceAdd]
  refine hQ _ _ _ ?_
  simp (maxSteps := 1000000) (disch := omega) only [hd.row.tup, S, S1, S2, S3, S4, S5, ST, eq_self, reduceIte, reduceCtorEq, Nat.reduceEqDiff, Nat.reduceAdd]
  exact ⟨own_base hd (by have := pA.length_le; have := pB.length_le; omega), pA.trans (pB.trans pC)⟩
theorem rdS_sym {n : Nat} (ps : List (Int × Int)) : Sym (rdS n ps) := by
  intro u v hu hv h
  rw [rdS_len] at hu hv
  rw [rdS_at _ _ hu, nbS_mem] at h
  rw [rdS_at _ _ hv, nbS_mem]
  exact h.symm
set_option maxRecDepth 20000 in
set_option maxHeartbeats 4000000 in
theorem firstWay_c {a b : Value} {ls : List (List Int)} {ps : List (Int × Int)} {H : AH} (hr : SpRow H a b ls ps) (hn : ls.length ≤ 1000) (hp : ps.length ≤ 1000000) (hps : StpOk ls.length ps) (hdeg : ∀ x, (nbS ps x).length ≤ 12) {i j : Nat} (hi : i < ls.length) (hj : j < ls.length) :
    ACalls Try.prog 199 [.agg (List.toArray [a, b]), .int .i64 (i : Int), .int .i64 (j : Int)] H fun r H' => (∃ g, r = .tuple (List.toArray [g, .bool (decide (0 ≤ (bfs (rdS ls.length ps) j).getD i 0))]) ∧
      Row 3 H' g (if 0 ≤ (bfs (rdS ls.length ps) j).getD i 0 then wyS (rdS ls.length ps) (bfs (rdS ls.length ps) j) (j : Int) ((bfs (rdS ls.length ps) j).getD i 0).toNat (i : Int) else [])) ∧ H <+: H' := by
  refine in199 rfl ?_
  intro Q hQ
  simp (maxSteps := 1000000) (disch := omega) only [cd199, hr.box, S, S1, S2, S3, S4, S5, ST, eq_self, reduceIte, reduceCtorEq, Nat.reduceEqDiff, Nat.reduceAdd]
  generalize hA : H ++ [AObj.cells [a, b] 28 false] = A
  have pA : H <+: A := by rw [← hA]; exact List.prefix_append _ _
  have cA : A[H.length]? = some (.cells [a, b] 28 false) := by rw [← hA]; exact at_new ..
  simp (maxSteps := 1000000) (disch := omega) only [ld_agg ag28 cs28 cA, S, S1, S2, S3, S4, S5, ST, eq_self, reduceIte, reduceCtorEq, Nat.reduceEqDiff, Nat.reduceAdd]
  refine CallH.by (spRoads_c a b ls ps A (hr.pre pA) hn hp hps hdeg) ?_
  rintro v B ⟨⟨bd, hv⟩, pB⟩
  have hrl := rdS_len ls.length ps
  have hLk := rdS_ok hps
  have hsy := rdS_sym (n := ls.length) ps
  have hsm : ∀ x, ((rdS ls.length ps).getD x []).length ≤ 12 := fun x => by
    by_cases hx : x < ls.length
    · rw [rdS_at _ _ hx]; exact hdeg (x : Int)
    · rw [List.getD_eq_getElem?_getD, List.getElem?_eq_none (by omega)]; simp
  generalize rdS ls.length ps = L at *
  generalize ls.length = N at *
  simp (maxSteps := 1000000) (disch := omega) only [S, S1, S2, S3, S4, S5, ST, eq_self, reduceIte, reduceCtorEq, Nat.reduceEqDiff, Nat.reduceAdd]
  refine CallH.by (spread_c v L j B hv hLk (by omega) (by omega) (fun x => by have := hsm x; omega)) ?_
  rintro fv C ⟨hf, pC⟩
  have hfl : (bfs L j).length = N := by
    obtain ⟨q, h⟩ := bfs_DI hLk (show j < L.length by omega)
    have := h.bi.len
    rw [hrl] at this; exact this
  have hf0 := hf.row
  have hci := hf0.cell (show i < (bfs L j).length by omega)
  have hzero := bfs_zero hLk (show j < L.length by omega)
  simp (maxSteps := 1000000) (disch := omega) only [hf0.ix Try.underlying38 cs3, Int.toNat_natCast, hci, S, S1, S2, S3, S4, S5, ST, eq_self, reduceIte, reduceCtorEq, Nat.reduceEqDiff, Nat.reduceAdd]
  refine brD.intro (fun e => ?_) (fun e => ?_)
  · simp (maxSteps := 1000000) (disch := omega) only [S, S1, S2, S3, S4, S5, ST, eq_self, reduceIte, reduceCtorEq, Nat.reduceEqDiff, Nat.reduceAdd]
    refine hQ _ _ _ ?_
    simp (maxSteps := 1000000) (disch := omega) only [S, S1, S2, S3, S4, S5, ST, eq_self, reduceIte, reduceCtorEq, Nat.reduceEqDiff, Nat.reduceAdd]
    rw [decide_eq_false (show ¬ 0 ≤ (bfs L j).getD i 0 by omega), if_neg (by omega)]
    exact ⟨⟨_, rfl, .inl ⟨rfl, rfl⟩⟩, pA.trans (pB.trans pC)⟩
  have e0 : 0 ≤ (bfs L j).getD i 0 := by omega
  rw [decide_eq_true e0, if_pos e0] at hQ
  obtain ⟨d, hd⟩ : ∃ d : Nat, (bfs L j).getD i 0 = d := ⟨((bfs L j).getD i 0).toNat, by omega⟩
  rw [hd, Int.toNat_natCast] at hQ
  simp (maxSteps := 1000000) (disch := omega) only [S, S1, S2, S3, S4, S5, ST, eq_self, reduceIte, reduceCtorEq, Nat.reduceEqDiff, Nat.reduceAdd]
  generalize hD : C ++ [AObj.cells [.int .i64 (i : Int)] 3 false] = D
  have pD : C <+: D := by rw [← hD]; exact List.prefix_append _ _
  have cD : D[C.length]? = some (.cells (ints [(i : Int)]) 3 false) := by rw [← hD]; exact at_new ..
  have lD : D.length = C.length + 1 := by rw [← hD]; simp
  have own0 : Own 3 C D (.slice (some ⟨C.length, 0, none⟩) 1 1) [(i : Int)] := .inr ⟨C.length, rfl, Nat.le_refl _, cD⟩
  have hW : [(i : Int)] ++ (wyS L (bfs L j) (j : Int) d (i : Int)).tail = wyS L (bfs L j) (j : Int) d (i : Int) := (wyS_head _ _ _ _ _).symm
  generalize hWW : wyS L (bfs L j) (j : Int) d (i : Int) = W at hW hQ
  have hWl : W.length = d + 1 := by rw [← hWW]; exact (wy_len hLk hsy (by omega) d i (by omega) hd).1
  have hbN : ∀ x, x < N → (bfs L j).getD x 0 < N := by
    intro x hx
    obtain ⟨q, h⟩ := bfs_DI hLk (show j < L.length by omega)
    have h1 := h.bi.lo x (by omega)
    have h2 := h.bi.len_le
    have h1' : (bfs L j).getD x 0 < (q.length : Nat) := h1.2
    have h2' : q.length ≤ L.length := h2
    omega
  have hdN : d < N := by have := hbN i (by omega); omega
  refine LoopH.by (fun m s H' => ∃ (c : Nat) (O : List Int), c < N ∧ (bfs L j).getD c 0 = (m : Int) ∧ s 1 = .int .i64 (c : Int) ∧ s 2 = .int .i64 (j : Int) ∧ s 8 = v ∧ s 9 = fv ∧ Own 3 C H' (s 10) O ∧ O ++ (wyS L (bfs L j) (j : Int) m (c : Int)).tail = W ∧ C <+: H') d ?_ ?_
  · refine ⟨i, [(i : Int)], ?_⟩
    have hW2 : (i : Int) :: (wyS L (bfs L j) (j : Int) d (i : Int)).tail = W := by rw [hWW]; exact hW
    simp (maxSteps := 1000000) (disch := omega) only [S, S1, S2, S3, S4, S5, ST, eq_self, reduceIte, reduceCtorEq, Nat.reduceEqDiff, Nat.reduceAdd]
    (repeat' first | exact hd | exact own0 | exact hW2 | exact pD | apply And.intro) <;> first | (simp only [Value.int.injEq, true_and]; omega) | omega | rfl | assumption | (simp; done) | (simp; omega)
  rintro m s H' ⟨c, O, hc, hm, h1, h2, h8, h9, hO, hT, pH⟩
  generalize hU : s 10 = U at *
  simp (maxSteps := 1000000) (disch := omega) only [h1, h2, h8, h9, hU, S, S1, S2, S3, S4, S5, ST, eq_self, reduceIte, reduceCtorEq, Nat.reduceEqDiff, Nat.reduceAdd]
  by_cases ec : c = j
  · have ec' : ¬ ¬ (c : Int) = (j : Int) := by omega
    subst ec
    simp (maxSteps := 1000000) (disch := omega) only [decide_eq_false ec', h1, h2, h8, h9, hU, S, S1, S2, S3, S4, S5, ST, eq_self, reduceIte, reduceCtorEq, Nat.reduceEqDiff, Nat.reduceAdd]
    refine hQ _ _ _ ?_
    simp (maxSteps := 1000000) (disch := omega) only [hO.row.tup, S, S1, S2, S3, S4, S5, ST, eq_self, reduceIte, reduceCtorEq, Nat.reduceEqDiff, Nat.reduceAdd]
    rw [wyS_end] at hT
    have hOW : O = W := by simpa using hT
    rw [← hOW]
    exact ⟨⟨U, rfl, hO.row⟩, pA.trans (pB.trans (pC.trans pH))⟩
  · have ec' : ¬ (c : Int) = (j : Int) := by omega
    have hcN := hbN c hc
    have hpos := far_pos hLk hsy (show j < L.length by omega) (show c < L.length by omega) (by omega) ec
    obtain ⟨k, rfl⟩ : ∃ k, m = k + 1 := ⟨m - 1, by omega⟩
    obtain ⟨n1, n2, n3⟩ := nx_ok hLk hsy (show j < L.length by omega) (show c < L.length by omega) hm
    obtain ⟨nx, hnx⟩ : ∃ nx : Nat, nxS L (bfs L j) (c : Int) = nx := ⟨(nxS L (bfs L j) (c : Int)).toNat, by have := hLk c _ n1; omega⟩
    have hnr := hLk c _ n1
    rw [hnx] at n1 n2 n3 hnr
    rw [Int.toNat_natCast] at n2
    have hT2 : (O ++ [(nx : Int)]) ++ (wyS L (bfs L j) (j : Int) k (nx : Int)).tail = W := by
      rw [← hT]
      have : (wyS L (bfs L j) (j : Int) (k + 1) (c : Int)).tail = wyS L (bfs L j) (j : Int) k (nx : Int) := by
        simp only [wyS]; rw [if_neg ec', hnx]; rfl
      rw [this, List.append_assoc]
      congr 1
      exact (wyS_head _ _ _ _ _).symm
    obtain ⟨us, hus, hvb, hul, hin⟩ := hv.pre (pC.trans pH)
    have hcc := hus.cell (show c < us.length by omega)
    have hrow := (hin c (by omega)).1
    have hfH := hf0.pre pH
    simp (maxSteps := 1000000) (disch := omega) only [decide_eq_true ec', h1, h2, h8, h9, hU, hus.ix Try.underlying26 cs38, Int.toNat_natCast, hcc, hrow.len Try.underlying38, S, S1, S2, S3, S4, S5, ST, eq_self, reduceIte, reduceCtorEq, Nat.reduceEqDiff, Nat.reduceAdd]
    generalize hxs : L.getD c [] = xs at *
    have hxl := hsm c
    rw [hxs] at hxl
    have hxr : ∀ z ∈ xs, 0 ≤ z ∧ z < N := fun z hz => by have := hLk c z (by rw [hxs]; exact hz); omega
    refine LoopH.by (fun m' s' H'' => ∃ (q : Nat), m' + q = xs.length ∧ s' 1 = .int .i64 (c : Int) ∧ s' 2 = .int .i64 (j : Int) ∧ s' 8 = v ∧ s' 9 = fv ∧ s' 10 = U ∧ s' 31 = us.getD c undef ∧ s' 32 = .int .i64 (xs.length : Int) ∧ s' 33 = .int .i64 ((q : Nat) : Int) ∧ H' = H'' ∧ (xs.drop q).find? (fun k => decide ((bfs L j).getD k.toNat 0 = (bfs L j).getD c 0 - 1)) = some (nx : Int)) xs.length ?_ ?_
    · refine ⟨0, ?_⟩
      simp (maxSteps := 1000000) (disch := omega) only [h1, h2, h8, h9, hU, S, S1, S2, S3, S4, S5, ST, eq_self, reduceIte, reduceCtorEq, Nat.reduceEqDiff, Nat.reduceAdd]
      (repeat' first | exact n3 | apply And.intro) <;> first | (simp only [Value.int.injEq, true_and]; omega) | omega | rfl | assumption | (simp; done) | (simp; omega)
    rintro m' s' H'' ⟨q, hm', g1, g2, g8, g9, g10, g31, g32, g33, rfl, hfd⟩
    simp (maxSteps := 1000000) (disch := omega) only [g1, g2, g8, g9, g10, g31, g32, g33, S, S1, S2, S3, S4, S5, ST, eq_self, reduceIte, reduceCtorEq, Nat.reduceEqDiff, Nat.reduceAdd]
    refine brD.intro (fun g => ?_) (fun g => ?_)
    · have hq : q < xs.length := by omega
      have hzm : xs.getD q 0 ∈ xs := by simp [hq]
      have hzr := hxr _ hzm
      have hcq := hrow.cell hq
      obtain ⟨z, hz⟩ : ∃ z : Nat, xs.getD q 0 = z := ⟨(xs.getD q 0).toNat, by omega⟩
      rw [hz] at hcq hzr
      have hfz := hfH.cell (show z < (bfs L j).length by omega)
      have hfc := hfH.cell (show c < (bfs L j).length by omega)
      have hdrop : xs.drop q = (z : Int) :: xs.drop (q + 1) := by
        rw [List.drop_eq_getElem_cons hq]
        congr 1
        rw [← hz]; simp [hq]
      rw [hdrop, List.find?_cons, Int.toNat_natCast] at hfd
      have hwr : IntKind.i64.wrap ((bfs L j).getD c 0 - 1) = (bfs L j).getD c 0 - 1 := wrap64 (by omega) (by omega)
      simp (maxSteps := 1000000) (disch := omega) only [g1, g2, g8, g9, g10, g31, g32, g33, hrow.ix Try.underlying38 cs3, hfH.ix Try.underlying38 cs3, Int.toNat_natCast, hcq, hfz, hfc, hwr, S, S1, S2, S3, S4, S5, ST, eq_self, reduceIte, reduceCtorEq, Nat.reduceEqDiff, Nat.reduceAdd]
      by_cases e5 : (bfs L j).getD z 0 = (bfs L j).getD c 0 - 1
      · rw [decide_eq_true e5] at hfd
        have hzn : z = nx := by
          have := Option.some.inj hfd
          omega
        subst hzn
        obtain ⟨U', H2, j1, j2, j3, j4, j5, j6⟩ := own1_38 hO pH (by
          have : O.length ≤ W.length := by rw [← hT]; simp
          omega) (z : Int)
        simp (maxSteps := 1000000) (disch := omega) only [decide_eq_true e5, g1, g2, g8, g9, g10, g31, g32, g33, j1, S, S1, S2, S3, S4, S5, ST, eq_self, reduceIte, reduceCtorEq, Nat.reduceEqDiff, Nat.reduceAdd]
        refine ⟨k, by omega, z, O ++ [(z : Int)], ?_⟩
        (repeat' first | exact n2 | exact j2 | exact hT2 | exact j3 | apply And.intro) <;> first | (simp only [Value.int.injEq, true_and]; omega) | omega | rfl | assumption | (simp; done) | (simp; omega)
      · rw [decide_eq_false e5] at hfd
        simp (maxSteps := 1000000) (disch := omega) only [decide_eq_false e5, g1, g2, g8, g9, g10, g31, g32, g33, wrap64, S, S1, S2, S3, S4, S5, ST, eq_self, reduceIte, reduceCtorEq, Nat.reduceEqDiff, Nat.reduceAdd]
        refine ⟨m' - 1, by omega, q + 1, ?_⟩
        (repeat' first | exact hfd | apply And.intro) <;> first | (simp only [Value.int.injEq, true_and]; omega) | omega | rfl | assumption | (simp; done) | (simp; omega)
    · rw [List.drop_of_length_le (by omega)] at hfd
      simp at hfd
theorem bsRowW {H0 : AH} {v : Value} {xs : List Int} (h : Row 3 H0 v xs) (K : AH) : buildSliceA Try.prog 26 1 [(0, v)] K = some (.slice (some ⟨K.length, 0, none⟩) 1 1, K ++ [.cells [v] 38 false]) := by
  obtain ⟨q, eq⟩ := h.shape
  rw [eq]
  exact bs1 Try.underlying26 cs38 ze38 ⟨by kernel_rfl, by kernel_rfl⟩ K rfl
/-- is there a way between two states; the states of the first -/
def wkB (ls : List (List Int)) (ps : List (Int × Int)) (x y : List Int) : Bool := decide (x ∈ ls ∧ y ∈ ls ∧ 0 ≤ (bfs (rdS ls.length ps) (ls.idxOf y)).getD (ls.idxOf x) 0)
def wkL (ls : List (List Int)) (ps : List (Int × Int)) (x y : List Int) : List (List Int) :=
  if wkB ls ps x y = true then (wyS (rdS ls.length ps) (bfs (rdS ls.length ps) (ls.idxOf y)) ((ls.idxOf y : Nat) : Int) ((bfs (rdS ls.length ps) (ls.idxOf y)).getD (ls.idxOf x) 0).toNat ((ls.idxOf x : Nat) : Int)).map fun k => ls.getD k.toNat [] else []
theorem idx_of {ls : List (List Int)} (h : SrtL ls) {t : List Int} {i : Nat} (hi : i < ls.length) (e : ls.getD i [] = t) : i = ls.idxOf t := by
  have hm : t ∈ ls := by rw [← e]; simp [hi]
  have h1 := List.idxOf_lt_length_iff.2 hm
  refine srt_uniq h hi h1 ?_
  rw [e]
  simp [h1]
theorem idx_lt {ls : List (List Int)} {t : List Int} (h : t ∈ ls) : ls.idxOf t < ls.length := List.idxOf_lt_length_iff.2 h
set_option maxRecDepth 20000 in
set_option maxHeartbeats 4000000 in
theorem walk_c {a b va vb : Value} {us : List Value} {ls : List (List Int)} {ps : List (Int × Int)} {x y : List Int} {H : AH} (hr : SpRow H a b ls ps) (h : Sts H a us ls) (hn : ls.length ≤ 1000) (hp : ps.length ≤ 1000000) (hps : StpOk ls.length ps) (hdeg : ∀ x, (nbS ps x).length ≤ 12)
    (hx : Row 3 H va x) (hy : Row 3 H vb y) (hlx : x.length ≤ 1099511627776) (hly : y.length ≤ 1099511627776) :
    ACalls Try.prog 122 [.agg (List.toArray [a, b]), va, vb] H fun r H' => (∃ g, r = .tuple (List.toArray [g, .bool (wkB ls ps x y)]) ∧ InL H.length H'.length 38 3 H' g (wkL ls ps x y)) ∧ H <+: H' := by
  refine in122 rfl ?_
  intro Q hQ
  have hul := h.len
  simp (maxSteps := 1000000) (disch := omega) only [cd122, hr.box, S, S1, S2, S3, S4, S5, ST, eq_self, reduceIte, reduceCtorEq, Nat.reduceEqDiff, Nat.reduceAdd]
  generalize hA : H ++ [AObj.cells [a, b] 28 false] = A
  have pA : H <+: A := by rw [← hA]; exact List.prefix_append _ _
  have cA : A[H.length]? = some (.cells [a, b] 28 false) := by rw [← hA]; exact at_new ..
  simp (maxSteps := 1000000) (disch := omega) only [ld_agg ag28 cs28 cA, S, S1, S2, S3, S4, S5, ST, eq_self, reduceIte, reduceCtorEq, Nat.reduceEqDiff, Nat.reduceAdd]
  refine CallH.by (place_c (hr.pre pA) (h.pre pA) (hx.pre pA) hlx) ?_
  rintro _ B ⟨⟨i, rfl, hi⟩, pB⟩
  have cB := pre_at pB cA
  have pHB := pA.trans pB
  simp (maxSteps := 1000000) (disch := omega) only [ld_agg ag28 cs28 cB, S, S1, S2, S3, S4, S5, ST, eq_self, reduceIte, reduceCtorEq, Nat.reduceEqDiff, Nat.reduceAdd]
  refine CallH.by (place_c (hr.pre pHB) (h.pre pHB) (hy.pre pHB) hly) ?_
  rintro _ C ⟨⟨j, rfl, hj⟩, pC⟩
  have cC := pre_at pC cB
  have pHC := pHB.trans pC
  simp (maxSteps := 1000000) (disch := omega) only [S, S1, S2, S3, S4, S5, ST, eq_self, reduceIte, reduceCtorEq, Nat.reduceEqDiff, Nat.reduceAdd]
  by_cases ex : x ∈ ls
  rotate_left
  · have hb : wkB ls ps x y = false := by unfold wkB; rw [decide_eq_false (fun q => ex q.1)]
    simp (maxSteps := 1000000) (disch := omega) only [decide_eq_false ex, S, S1, S2, S3, S4, S5, ST, eq_self, reduceIte, reduceCtorEq, Nat.reduceEqDiff, Nat.reduceAdd]
    refine hQ _ _ _ ?_
    simp (maxSteps := 1000000) (disch := omega) only [S, S1, S2, S3, S4, S5, ST, eq_self, reduceIte, reduceCtorEq, Nat.reduceEqDiff, Nat.reduceAdd]
    rw [hb, show wkL ls ps x y = [] by unfold wkL; rw [hb]; rfl]
    exact ⟨⟨_, rfl, .inl ⟨rfl, rfl⟩⟩, pHC⟩
  by_cases ey : y ∈ ls
  rotate_left
  · have hb : wkB ls ps x y = false := by unfold wkB; rw [decide_eq_false (fun q => ey q.2.1)]
    simp (maxSteps := 1000000) (disch := omega) only [decide_eq_true ex, decide_eq_false ey, S, S1, S2, S3, S4, S5, ST, eq_self, reduceIte, reduceCtorEq, Nat.reduceEqDiff, Nat.reduceAdd]
    refine hQ _ _ _ ?_
    simp (maxSteps := 1000000) (disch := omega) only [S, S1, S2, S3, S4, S5, ST, eq_self, reduceIte, reduceCtorEq, Nat.reduceEqDiff, Nat.reduceAdd]
    rw [hb, show wkL ls ps x y = [] by unfold wkL; rw [hb]; rfl]
    exact ⟨⟨_, rfl, .inl ⟨rfl, rfl⟩⟩, pHC⟩
  obtain ⟨i1, i2⟩ := hi ex
  obtain ⟨j1, j2⟩ := hj ey
  have hie := idx_of h.srt i1 i2
  have hje := idx_of h.srt j1 j2
  simp (maxSteps := 1000000) (disch := omega) only [decide_eq_true ex, decide_eq_true ey, ld_agg ag28 cs28 cC, S, S1, S2, S3, S4, S5, ST, eq_self, reduceIte, reduceCtorEq, Nat.reduceEqDiff, Nat.reduceAdd]
  refine CallH.by (firstWay_c (hr.pre pHC) hn hp hps hdeg i1 j1) ?_
  rintro _ D ⟨⟨g, rfl, hg⟩, pD⟩
  have hb : wkB ls ps x y = decide (0 ≤ (bfs (rdS ls.length ps) j).getD i 0) := by
    unfold wkB
    rw [← hie, ← hje]
    exact decide_eq_decide.2 ⟨fun q => q.2.2, fun q => ⟨ex, ey, q⟩⟩
  have hwl : wkL ls ps x y = (if 0 ≤ (bfs (rdS ls.length ps) j).getD i 0 then wyS (rdS ls.length ps) (bfs (rdS ls.length ps) j) (j : Int) ((bfs (rdS ls.length ps) j).getD i 0).toNat (i : Int) else []).map fun k => ls.getD k.toNat [] := by
    unfold wkL
    rw [hb, ← hie, ← hje]
    by_cases q : 0 ≤ (bfs (rdS ls.length ps) j).getD i 0
    · rw [if_pos (decide_eq_true q), if_pos q]
    · rw [if_neg (by simpa using q), if_neg q]; rfl
  have hrng : ∀ z ∈ (if 0 ≤ (bfs (rdS ls.length ps) j).getD i 0 then wyS (rdS ls.length ps) (bfs (rdS ls.length ps) j) (j : Int) ((bfs (rdS ls.length ps) j).getD i 0).toNat (i : Int) else []), 0 ≤ z ∧ z < ls.length := by
    intro z hz
    split at hz
    · rename_i q
      have := (wy_len (rdS_ok hps) (rdS_sym ps) (by rw [rdS_len]; exact j1) ((bfs (rdS ls.length ps) j).getD i 0).toNat i (by rw [rdS_len]; exact i1) (by omega)).2 z hz
      rwa [rdS_len] at this
    · simp at hz
  have hwy : (if 0 ≤ (bfs (rdS ls.length ps) j).getD i 0 then wyS (rdS ls.length ps) (bfs (rdS ls.length ps) j) (j : Int) ((bfs (rdS ls.length ps) j).getD i 0).toNat (i : Int) else []).length ≤ 1000000 := by
    split
    · rename_i q
      have hL := rdS_ok hps
      have hlt : j < (rdS ls.length ps).length := by rw [rdS_len]; exact j1
      have := (wy_len hL (rdS_sym ps) hlt ((bfs (rdS ls.length ps) j).getD i 0).toNat i (by rw [rdS_len]; exact i1) (by omega)).1
      obtain ⟨q', h'⟩ := bfs_DI hL hlt
      have h1 := h'.bi.lo i (by rw [rdS_len]; exact i1)
      have h2 := h'.bi.len_le
      have h1' : (bfs (rdS ls.length ps) j).getD i 0 < (q'.length : Nat) := h1.2
      have h2' : q'.length ≤ (rdS ls.length ps).length := h2
      rw [rdS_len] at h2'
      omega
    · simp
  rw [hwl, hb] at hQ
  generalize (if 0 ≤ (bfs (rdS ls.length ps) j).getD i 0 then wyS (rdS ls.length ps) (bfs (rdS ls.length ps) j) (j : Int) ((bfs (rdS ls.length ps) j).getD i 0).toNat (i : Int) else []) = W at *
  generalize decide (0 ≤ (bfs (rdS ls.length ps) j).getD i 0) = ok at *
  have u0 := InU.new H.length 38 3 D (pHC.trans pD).length_le
  simp (maxSteps := 1000000) (disch := omega) only [S, S1, S2, S3, S4, S5, ST, eq_self, reduceIte, reduceCtorEq, Nat.reduceEqDiff, Nat.reduceAdd]
  generalize hE : D ++ [AObj.cells [] 38 false] = E at *
  have pE : D <+: E := by rw [← hE]; exact List.prefix_append _ _
  have lE : E.length = D.length + 1 := by rw [← hE]; simp
  have cE := pre_at (pD.trans pE) cC
  have hgE := hg.pre pE
  have hlD := (pHC.trans pD).length_le
  have hHC : A.length ≤ D.length := (pB.trans (pC.trans pD)).length_le
  have lA : A.length = H.length + 1 := by rw [← hA]; simp
  have u0' : InU A.length E.length 38 3 E D.length [] ((W.take 0).map fun k => ls.getD k.toNat []) := by
    rw [lE]
    have := InU.new A.length 38 3 D hHC
    rw [hE] at this
    exact this
  simp (maxSteps := 1000000) (disch := omega) only [hgE.len Try.underlying38, S, S1, S2, S3, S4, S5, ST, eq_self, reduceIte, reduceCtorEq, Nat.reduceEqDiff, Nat.reduceAdd]
  have pDE := pE
  refine LoopH.by (fun m s H' => ∃ (i o : Nat) (vs : List Value), m + i = W.length ∧ s 3 = .pointer (some ⟨H.length, 0, none⟩) ∧ s 13 = .bool ok ∧ s 14 = .slice (some ⟨o, 0, none⟩) ((W.take i).map fun k => ls.getD k.toNat []).length ((W.take i).map fun k => ls.getD k.toNat []).length ∧ s 43 = g ∧ s 44 = .int .i64 (W.length : Int) ∧ s 45 = .int .i64 ((i : Nat) : Int) ∧ D.length ≤ o ∧ InU A.length H'.length 38 3 H' o vs ((W.take i).map fun k => ls.getD k.toNat []) ∧ D <+: H') W.length ?_ ?_
  · exact ⟨0, D.length, [], by simp, rfl, rfl, rfl, rfl, rfl, rfl, Nat.le_refl _, u0', pDE⟩
  rintro m s H' ⟨i, o, vs, hm, h3, h13, h14, h43, h44, h45, hoD, hin, hpp⟩
  have hgH := hg.pre hpp
  have cH := pre_at (pD.trans hpp) cC
  have hH := h.pre (pHC.trans (pD.trans hpp))
  have hml : ((W.take i).map fun k => ls.getD k.toNat []).length = i := by rw [List.length_map, List.length_take]; omega
  simp (maxSteps := 1000000) (disch := omega) only [h3, h13, h14, h43, h44, h45, S, S1, S2, S3, S4, S5, ST, eq_self, reduceIte, reduceCtorEq, Nat.reduceEqDiff, Nat.reduceAdd]
  refine brD.intro (fun q => ?_) (fun q => ?_)
  · have hi : i < W.length := by omega
    have hzm : W.getD i 0 ∈ W := by simp [hi]
    have hzr := hrng _ hzm
    have hst : (W.take (i + 1)).map (fun k => ls.getD k.toNat []) = (W.take i).map (fun k => ls.getD k.toNat []) ++ [ls.getD (W.getD i 0).toNat []] := by
      rw [List.take_add_one, List.getElem?_eq_getElem hi, List.map_append]
      have : W.getD i 0 = W[i] := by simp [hi]
      rw [this]; rfl
    have hci := hgH.cell hi
    obtain ⟨z, hz⟩ : ∃ z : Nat, W.getD i 0 = z := ⟨(W.getD i 0).toNat, by omega⟩
    rw [hz, Int.toNat_natCast] at hst
    rw [hz] at hci hzr
    have hcz := hH.cell (show z < ls.length by omega)
    simp (maxSteps := 1000000) (disch := omega) only [h3, h13, h14, h43, h44, h45, hgH.ix Try.underlying38 cs3, Int.toNat_natCast, hci, cell_of cH, hH.row.ix Try.underlying26 cs38, hcz, S, S1, S2, S3, S4, S5, ST, eq_self, reduceIte, reduceCtorEq, Nat.reduceEqDiff, Nat.reduceAdd]
    refine CallH.by (Clone_c _ _ H' (hH.each z (by omega)) (hH.small z (by omega))) ?_
    rintro c F ⟨hc, pF⟩
    have hinw := InI.of hc.mine
    obtain ⟨H3, k1, k2, k3, k4⟩ := (hin.pre pF).app1 (P := Try.prog) (t2 := 26) Try.underlying26 cs38 (by rw [by38]; decide) zk38 hinw (by have := hpp.length_le; omega) pF.length_le (Nat.le_refl _) (by omega)
    rw [hml] at k1 k2
    rw [← hst] at k2
    have hml2 : ((W.take (i + 1)).map fun k => ls.getD k.toNat []).length = i + 1 := by rw [List.length_map, List.length_take]; omega
    have f1 : D <+: H3 := prefix_of fun j x hx' => k4 j x (by have := at_lt hx'; omega) (pre_at (hpp.trans pF) hx')
    have f2 : InU A.length H3.length 38 3 H3 (F.length + 1) (vs.take i ++ [c]) ((W.take (i + 1)).map fun k => ls.getD k.toNat []) := by rw [k3]; exact k2
    have hlF := (hpp.trans pF).length_le
    simp (maxSteps := 1000000) (disch := omega) only [h3, h13, h14, h43, h44, h45, hml, bsRowW hc.row, k1, wrap64, S, S1, S2, S3, S4, S5, ST, eq_self, reduceIte, reduceCtorEq, Nat.reduceEqDiff, Nat.reduceAdd]
    refine ⟨m - 1, by omega, i + 1, F.length + 1, vs.take i ++ [c], ?_⟩
    rw [hml2]
    (repeat' first | exact f1 | exact f2 | apply And.intro) <;> first | (simp only [Value.int.injEq, true_and]; omega) | omega | rfl | assumption | (simp; done) | (simp; omega)
  · have hi : i = W.length := by omega
    subst hi
    simp (maxSteps := 1000000) (disch := omega) only [h13, h14, S, S1, S2, S3, S4, S5, ST, eq_self, reduceIte, reduceCtorEq, Nat.reduceEqDiff, Nat.reduceAdd]
    refine hQ _ _ _ ?_
    simp (maxSteps := 1000000) (disch := omega) only [S, S1, S2, S3, S4, S5, ST, eq_self, reduceIte, reduceCtorEq, Nat.reduceEqDiff, Nat.reduceAdd]
    have e1 : W.take W.length = W := List.take_length
    rw [e1] at hin ⊢
    exact ⟨⟨_, rfl, hin.inl.wide (by omega) (Nat.le_refl _)⟩, pHC.trans (pD.trans hpp)⟩
end Go.Proofs.Ytlfongfhbkefmaa.Ai
namespace Go.Proofs.Ytlfongfhbkefmaa.Ai
open Go Go.RowKit
set_option linter.unusedVariables false
set_option linter.unusedSimpArgs false
/-- the list so far in the variable pe, and what stays (fx) -/
structure LSt (HB : AH) (fx : List (Nat × AObj)) (pe : Nat) (F : Nat → Prop) (H : AH) (ed : List Int) : Prop where
  fix : ∀ q ∈ fx, H[q.1]? = some q.2 ∧ ¬ F q.1 ∧ q.1 ≠ pe
  e : ∃ oe zs, H[pe]? = some (.cells [.slice (some ⟨oe, 0, none⟩) ed.length ed.length] 38 false) ∧ H[oe]? = some (.cells (ints zs) 3 false) ∧ zs.take ed.length = ed ∧ ¬ F oe ∧ oe ≠ pe ∧ (∀ q ∈ fx, q.1 ≠ oe) ∧ HB.length ≤ oe
  out : ¬ F pe
  lo : HB.length ≤ pe
  pre : HB <+: H
section
variable {HB : AH} {fx : List (Nat × AObj)} {pe : Nat} {F F' : Nat → Prop} {H H' : AH} {ed : List Int}
/-- what changes other objects leaves all this -/
theorem LSt.cb (h : LSt HB fx pe F H ed) (hlive : ∀ o, F o → HB.length ≤ o) (hF : ∀ o, F' o → F o ∨ H.length ≤ o) (hk : ∀ o y, ¬ F o → H[o]? = some y → H'[o]? = some y) : LSt HB fx pe F' H' ed := by
  obtain ⟨oe, zs, e1, e2, e3, e4, e5⟩ := h.e
  have no : ∀ {o x}, ¬ F o → H[o]? = some x → ¬ F' o := fun ho hx hf => by
    rcases hF _ hf with g | g
    · exact ho g
    · have := at_lt hx; omega
  refine ⟨fun q hq => ?_, ⟨oe, zs, hk _ _ h.out e1, hk _ _ e4 e2, e3, no e4 e2, e5⟩, no h.out e1, h.lo, ?_⟩
  · obtain ⟨q1, q2, q3⟩ := h.fix q hq
    exact ⟨hk _ _ q2 q1, no q2 q1, q3⟩
  · exact prefix_of fun o x hx => hk o x (fun hf => by have := hlive o hf; have := at_lt hx; omega) (pre_at h.pre hx)
theorem LSt.grow (h : LSt HB fx pe F H ed) (hlive : ∀ o, F o → HB.length ≤ o) (hp : H <+: H') : LSt HB fx pe F H' ed := h.cb hlive (fun o ho => .inl ho) fun o y _ hy => pre_at hp hy
theorem LSt.row (h : LSt HB fx pe F H ed) : ∃ w, cellA H pe 0 = some w ∧ Row 3 H w ed ∧ ¬ F (rowO w) ∧ isTup w = false := by
  obtain ⟨oe, zs, e1, e2, e3, e4, e5⟩ := h.e
  refine ⟨_, cell_of e1 0, ?_, e4, rfl⟩
  have hzl : ed.length ≤ zs.length := by
    have := congrArg List.length e3
    rw [List.length_take] at this; omega
  refine .inr ⟨oe, 0, ints zs, false, rfl, e2, by rw [ints_len]; omega, ?_⟩
  rw [List.drop_zero]
  have : (ints zs).take ed.length = ints (zs.take ed.length) := by simp [ints, List.map_take]
  rw [this, e3]
/-- one more -/
theorem LSt.push (h : LSt HB fx pe F H ed) (hlive : ∀ o, F o → o < H.length) (hb : ed.length ≤ 1048576) (x : Int) :
    ∃ w H2 H3, cellA H pe 0 = some (.slice (some w) ed.length ed.length) ∧ appendA Try.prog 38 38 (.slice (some w) ed.length ed.length) (.slice (some ⟨H.length, 0, none⟩) 1 1) (H ++ [.cells [.int .i64 x] 3 false]) = some (.slice (some ⟨H.length + 1, 0, none⟩) (ed.length + 1) (ed.length + 1), H2) ∧
      storeA Try.prog 38 (.pointer (some ⟨pe, 0, none⟩)) (.slice (some ⟨H.length + 1, 0, none⟩) (ed.length + 1) (ed.length + 1)) H2 = some H3 ∧ LSt HB fx pe F H3 (ed ++ [x]) ∧ (∀ o y, F o → H[o]? = some y → H3[o]? = some y) ∧ H.length ≤ H3.length ∧
      ∀ o y, o ≠ pe → (∀ w', cellA H pe 0 = some w' → o ≠ rowO w') → H[o]? = some y → H3[o]? = some y := by
  obtain ⟨oe, zs, e1, e2, e3, e4, e8, e5, e9⟩ := h.e
  have hzl : ed.length ≤ zs.length := by
    have := congrArg List.length e3
    rw [List.length_take] at this; omega
  have k1 := app_q (P := Try.prog) (t := 38) (k := 0) (n := ed.length) (c := ed.length) (x := x) Try.underlying38 cs3 (by rw [by3]; decide) zk3 e2 (by omega) (by omega)
  rw [List.drop_zero, e3] at k1
  have at_ : ∀ {o y}, o ≠ oe → H[o]? = some y → (H.set oe .dead ++ [AObj.cells [.int .i64 x] 3 false, .cells (ints (ed ++ [x])) 3 false])[o]? = some y := by
    intro o y ho hy
    rw [List.getElem?_append_left (by simpa using at_lt hy), List.getElem?_set_ne (fun e => ho e.symm)]
    exact hy
  have a1 := at_ (fun e => e8 e.symm) e1
  have hst := st_at (P := Try.prog) (t := 38) (i := 0) (y := .slice (some ⟨H.length + 1, 0, none⟩) (ed.length + 1) (ed.length + 1)) cs38 a1 (by show 0 < 1; decide) rfl rfl
  have l1 := at_lt e1
  have l2 := at_lt e2
  have aw : ∀ {o y}, o ≠ oe → o ≠ pe → H[o]? = some y → ((H.set oe .dead ++ [AObj.cells [.int .i64 x] 3 false, .cells (ints (ed ++ [x])) 3 false]).set pe (.cells ([Value.slice (some ⟨oe, 0, none⟩) ed.length ed.length].set 0 (.slice (some ⟨H.length + 1, 0, none⟩) (ed.length + 1) (ed.length + 1))) 38 false))[o]? = some y := by
    intro o y ho1 ho2 hy
    rw [List.getElem?_set_ne (fun e => ho2 e.symm)]
    exact at_ ho1 hy
  have lo := h.lo
  refine ⟨_, _, _, cell_of e1 0, k1, hst, ⟨fun q hq => ?_, ⟨H.length + 1, ed ++ [x], ?_, ?_, ?_, ?_, by omega, fun q hq => ?_, by have := h.pre.length_le; omega⟩, h.out, h.lo, ?_⟩, ?_, by simp, ?_⟩
  · obtain ⟨q1, q2, q3⟩ := h.fix q hq
    exact ⟨aw (e5 q hq) q3 q1, q2, q3⟩
  · rw [List.getElem?_set_self (by simp; omega)]
    simp
  · rw [List.getElem?_set_ne (by omega), List.getElem?_append_right (by simp)]
    simp
  · rw [List.take_of_length_le (Nat.le_refl _)]
  · intro hf; have := hlive _ hf; omega
  · have := at_lt (h.fix q hq).1; omega
  · exact prefix_of fun o y hy => aw (by have := at_lt hy; omega) (by have := at_lt hy; omega) (pre_at h.pre hy)
  · intro o y hf hy
    exact aw (fun e => e4 (e ▸ hf)) (fun e => h.out (e ▸ hf)) hy
  · intro o y ho1 ho2 hy
    exact aw (ho2 _ (cell_of e1 0)) ho1 hy
/-- the last one away -/
theorem LSt.pop {x : Int} (h : LSt HB fx pe F H (ed ++ [x])) :
    ∃ w c, cellA H pe 0 = some (.slice (some w) (ed.length + 1) c) ∧ sliceA Try.prog 38 (.slice (some w) (ed.length + 1) c) none (some (.int .i64 (ed.length : Int))) none H = some (.slice (some w) ed.length ed.length) ∧
      ∃ H3, storeA Try.prog 38 (.pointer (some ⟨pe, 0, none⟩)) (.slice (some w) ed.length ed.length) H = some H3 ∧ LSt HB fx pe F H3 ed ∧ (∀ o y, F o → H[o]? = some y → H3[o]? = some y) ∧ H3.length = H.length := by
  obtain ⟨oe, zs, e1, e2, e3, e4, e8, e5, e9⟩ := h.e
  have hl : (ed ++ [x]).length = ed.length + 1 := by simp
  rw [hl] at e1 e3
  have hz : zs.take ed.length = ed := by
    have := congrArg (List.take ed.length) e3
    rw [List.take_take, Nat.min_eq_left (by omega)] at this
    simpa using this
  have hsl := sl_own (P := Try.prog) (t := 38) (k := 0) (n := ed.length + 1) (c := ed.length + 1) Try.underlying38 cs3 e2 lo_none (bound_some (k := .i64) (i := (ed.length : Int)) (by omega) (ed.length + 1)) (Nat.zero_le _) (by omega)
  simp only [Int.toNat_natCast, Nat.add_zero, Nat.sub_zero] at hsl
  have hst := st_at (P := Try.prog) (t := 38) (i := 0) (y := .slice (some ⟨oe, 0, none⟩) ed.length ed.length) cs38 e1 (by show 0 < 1; decide) rfl rfl
  have aw : ∀ {o y}, o ≠ pe → H[o]? = some y → (H.set pe (.cells ([Value.slice (some ⟨oe, 0, none⟩) (ed.length + 1) (ed.length + 1)].set 0 (.slice (some ⟨oe, 0, none⟩) ed.length ed.length)) 38 false))[o]? = some y := by
    intro o y ho hy
    rw [List.getElem?_set_ne (fun e => ho e.symm)]; exact hy
  have lo := h.lo
  refine ⟨_, _, cell_of e1 0, hsl, _, hst, ⟨fun q hq => ?_, ⟨oe, zs, ?_, aw e8 e2, hz, e4, e8, e5, e9⟩, h.out, h.lo, ?_⟩, fun o y hf hy => aw (fun e => h.out (e ▸ hf)) hy, by simp⟩
  · obtain ⟨q1, q2, q3⟩ := h.fix q hq
    exact ⟨aw q3 q1, q2, q3⟩
  · rw [List.getElem?_set_self (at_lt e1)]; rfl
  · exact prefix_of fun o y hy => aw (by have := at_lt hy; omega) (pre_at h.pre hy)
end
/-- the objects of a list of lists -/
def Obs (o : Nat) (us : List Value) (ls : List (List Int)) (j : Nat) : Prop := j = o ∨ ∃ i, i < ls.length ∧ us.getD i undef ≠ .slice none 0 0 ∧ j = rowO (us.getD i undef)
theorem InU.refit2 {lo hi : Nat} {e2 e : TypeId} {H H' : AH} {o : Nat} {us : List Value} {ls : List (List Int)} (h : InU lo hi e2 e H o us ls) (hk : ∀ j y, Obs o us ls j → H[j]? = some y → H'[j]? = some y) : InU lo H'.length e2 e H' o us ls := by
  obtain ⟨h1, h2, h3, h4, h5, h6⟩ := h
  have k3 := hk _ _ (.inl rfl) h3
  refine ⟨h1, at_lt k3, k3, h4, fun i hi => ⟨?_, (h5 i hi).2⟩, h6⟩
  rcases (h5 i hi).1 with g | ⟨oo, zs, g1, g2, g3, g4, g5⟩
  · exact .inl g
  · have := hk oo _ (.inr ⟨i, hi, (by rw [g1]; intro e; cases e), (by rw [g1]; rfl)⟩) g4
    exact .inr ⟨oo, zs, g1, g2, at_lt this, this, g5⟩
theorem InU.obs {lo hi : Nat} {e2 e : TypeId} {H : AH} {o : Nat} {us : List Value} {ls : List (List Int)} (h : InU lo hi e2 e H o us ls) {j : Nat} (hj : Obs o us ls j) : lo ≤ j ∧ j < hi := by
  obtain ⟨h1, h2, h3, h4, h5, h6⟩ := h
  rcases hj with rfl | ⟨i, hi, hn, rfl⟩
  · exact ⟨h1, h2⟩
  · rcases (h5 i hi).1.at_ with g | g
    · exact absurd g hn
    · exact g
theorem getD_snoc {us : List Value} {n i : Nat} {c : Value} (hn : n ≤ us.length) : (us.take n ++ [c]).getD i undef = if i < n then us.getD i undef else if i = n then c else undef := by
  rw [List.getD_eq_getElem?_getD, List.getElem?_append]
  have hl : (us.take n).length = n := by simp; omega
  rw [hl]
  split
  · rw [List.getElem?_take, if_pos (by assumption), List.getD_eq_getElem?_getD]
  · split
    · rename_i h; subst h; simp
    · rw [List.getElem?_eq_none (by simp; omega)]; rfl
/-- the lists found so far, in the variable po -/
def IOut (HB : AH) (po : Nat) (out : List (List Int)) (F : Nat → Prop) (H : AH) : Prop :=
  ∃ o us, H[po]? = some (.cells [.slice (some ⟨o, 0, none⟩) out.length out.length] 26 false) ∧ InU HB.length H.length 38 3 H o us out ∧ HB.length ≤ po ∧ ¬ Obs o us out po ∧ F = fun j => j = po ∨ Obs o us out j
theorem IOut.live {HB H : AH} {po : Nat} {out : List (List Int)} {F : Nat → Prop} (h : IOut HB po out F H) {o : Nat} (ho : F o) : o < H.length ∧ HB.length ≤ o := by
  obtain ⟨oo, us, h1, h2, h3, h4, rfl⟩ := h
  have ho' : o = po ∨ Obs oo us out o := ho
  rcases ho' with rfl | hj
  · exact ⟨at_lt h1, h3⟩
  · have := h2.obs hj
    exact ⟨this.2, this.1⟩
theorem IOut.keep {HB H H' : AH} {po : Nat} {out : List (List Int)} {F : Nat → Prop} (h : IOut HB po out F H) (hk : ∀ o y, F o → H[o]? = some y → H'[o]? = some y) : IOut HB po out F H' := by
  obtain ⟨oo, us, h1, h2, h3, h4, rfl⟩ := h
  exact ⟨oo, us, hk _ _ (.inl rfl) h1, h2.refit2 fun j y hj hy => hk _ _ (.inr hj) hy, h3, h4, rfl⟩
/-- one more list, a copy -/
theorem IOut.push {HB H C : AH} {po : Nat} {out : List (List Int)} {F : Nat → Prop} (h : IOut HB po out F H) (hp : HB <+: H) {c : Value} {xs : List Int} (pC : H <+: C) (hc : Own 3 H C c xs) (hb : out.length ≤ 1000000000) :
    ∃ w H3 H4, cellA H po 0 = some (.slice (some w) out.length out.length) ∧ cellA C po 0 = some (.slice (some w) out.length out.length) ∧ buildSliceA Try.prog 26 1 [(0, c)] C = some (.slice (some ⟨C.length, 0, none⟩) 1 1, C ++ [.cells [c] 38 false]) ∧
      appendA Try.prog 26 26 (.slice (some w) out.length out.length) (.slice (some ⟨C.length, 0, none⟩) 1 1) (C ++ [.cells [c] 38 false]) = some (.slice (some ⟨C.length + 1, 0, none⟩) (out.length + 1) (out.length + 1), H3) ∧
      storeA Try.prog 26 (.pointer (some ⟨po, 0, none⟩)) (.slice (some ⟨C.length + 1, 0, none⟩) (out.length + 1) (out.length + 1)) H3 = some H4 ∧
      ∃ F', IOut HB po (out ++ [xs]) F' H4 ∧ (∀ o, F' o → F o ∨ H.length ≤ o) ∧ ∀ o y, ¬ F o → H[o]? = some y → H4[o]? = some y := by
  obtain ⟨o, us, h2, h3, h4, h7, rfl⟩ := h
  have c2 := pre_at pC h2
  have hinw := InI.of hc.mine
  obtain ⟨H3, k1, k2, k3, k4⟩ := (h3.pre pC).app1 (P := Try.prog) (t2 := 26) Try.underlying26 cs38 (by rw [by38]; decide) zk38 hinw hp.length_le pC.length_le (Nat.le_refl _) (by omega)
  have hbs : buildSliceA Try.prog 26 1 [(0, c)] C = some (.slice (some ⟨C.length, 0, none⟩) 1 1, C ++ [.cells [c] 38 false]) := by
    obtain ⟨q, eq⟩ := hc.row.shape
    rw [eq]
    exact bs1 Try.underlying26 cs38 ze38 ⟨by kernel_rfl, by kernel_rfl⟩ C rfl
  have lC := pC.length_le
  have l2 := at_lt h2
  have d2 := k4 po _ (fun e => h7 (.inl e)) c2
  have hst := st_at (P := Try.prog) (t := 26) (i := 0) (y := .slice (some ⟨C.length + 1, 0, none⟩) (out.length + 1) (out.length + 1)) cs26 d2 (by show 0 < 1; decide) rfl rfl
  have e2 : (H3.set po (.cells ([Value.slice (some ⟨o, 0, none⟩) out.length out.length].set 0 (.slice (some ⟨C.length + 1, 0, none⟩) (out.length + 1) (out.length + 1))) 26 false))[po]? = some (.cells [.slice (some ⟨C.length + 1, 0, none⟩) (out.length + 1) (out.length + 1)] 26 false) := by
    rw [List.getElem?_set_self (by omega)]; rfl
  have hal : (out ++ [xs]).length = out.length + 1 := by simp
  have hcO : c = .slice none 0 0 ∨ H.length ≤ rowO c := by
    rcases hc with ⟨q, _⟩ | ⟨oc, q, hoc, _⟩
    · exact .inl q
    · exact .inr (by rw [q]; exact hoc)
  have hul := h3.2.2.2.1
  have aw2 : Away po (C.length + 1) (us.take out.length ++ [c]) (out ++ [xs]) := by
    refine ⟨by omega, fun i hi => ?_⟩
    rw [hal] at hi
    rw [getD_snoc hul]
    split
    · rename_i hi2
      by_cases hn : us.getD i undef = .slice none 0 0
      · exact .inl hn
      · exact .inr fun e => h7 (.inr ⟨i, hi2, hn, e.symm⟩)
    · rw [if_pos (by omega)]
      exact hcO.imp id fun q => by omega
  have k2' := (k2.wide (Nat.le_refl _) (Nat.le_of_eq k3.symm) : InU HB.length H3.length 38 3 H3 _ _ _)
  refine ⟨_, H3, _, cell_of h2 0, cell_of c2 0, hbs, k1, hst, fun j => j = po ∨ Obs (C.length + 1) (us.take out.length ++ [c]) (out ++ [xs]) j, ⟨C.length + 1, us.take out.length ++ [c], by rw [hal]; exact e2, ?_, h4, ?_, rfl⟩, ?_, ?_⟩
  · have := k2'.moveq aw2 (H' := H3.set po (.cells ([Value.slice (some ⟨o, 0, none⟩) out.length out.length].set 0 (.slice (some ⟨C.length + 1, 0, none⟩) (out.length + 1) (out.length + 1))) 26 false)) (fun j y hj hy => by rw [List.getElem?_set_ne (fun e => hj e.symm)]; exact hy)
    simpa using this
  · rintro (e | ⟨i, hi, hn, e⟩)
    · omega
    · rcases aw2.2 i hi with q | q
      · exact hn q
      · exact q e.symm
  · rintro j (e | e | ⟨i, hi, hn, e⟩)
    · exact .inl (.inl e)
    · exact .inr (by omega)
    · rw [getD_snoc hul] at hn e
      rw [hal] at hi
      by_cases hi2 : i < out.length
      · rw [if_pos hi2] at hn e
        exact .inl (.inr (.inr ⟨i, hi2, hn, e⟩))
      · rw [if_neg hi2, if_pos (by omega)] at hn e
        rcases hcO with q | q
        · exact absurd q hn
        · exact .inr (by omega)
  · intro j y hj hy
    rw [List.getElem?_set_ne (fun e => hj (.inl e.symm))]
    exact k4 j y (fun e => hj (.inr (.inl e))) (pre_at pC hy)
end Go.Proofs.Ytlfongfhbkefmaa.Ai
namespace Go.Proofs.Ytlfongfhbkefmaa.Ai
open Go
def ords240 : List (Nat × List (Nat × Bool)) := []
def cd240 : Cd := (.seq (.reg [⟨⟨some 3, Op.assign (Operand.const (Value.bool false)), none⟩, []⟩]) (.seq (.reg [⟨⟨some 4, Op.load 3 (Operand.tmp 1), none⟩, []⟩,
  ⟨⟨some 5, Op.move (Operand.tmp 0), none⟩, []⟩,
  ⟨⟨some 6, Op.call { callee := (Callee.value (Operand.func 237)), args := #[(Operand.tmp 4), (Operand.tmp 5)], argTypes := #[3, 3] }, none⟩, []⟩,
  ⟨⟨some 3, Op.assign (Operand.tmp 6), none⟩, []⟩]) .ret))
theorem sl240 : slim Try.f240.ntmps ords240 (Try.f240.body.getD .skip) = some cd240 := by kernel_rfl
theorem in240 {args : List Value} {H : AH} {R : Value → AH → Prop} (hl : args.length = 2) (h : ∀ (Q : Exit → Sl → AH → Prop), (∀ e s H, endA Try.prog [ResultVar.tmp 3] R e s H → Q e s H) → wpC Try.prog cd240 Q (enterA args) H) : ACalls Try.prog 240 args H R :=
  ACalls.intro (by kernel_rfl) Try.func240 rfl (by kernel_rfl) sl240 hl (of_decide_eq_true (by kernel_rfl)) (by kernel_rfl) h
def ords239 : List (Nat × List (Nat × Bool)) := [(1, [(0, false), (1, false), (2, true), (3, false), (4, true), (5, true)])]
def cd239 : Cd := (.seq (.seq (.reg [⟨⟨some 8, Op.load 38 (Operand.tmp 1), none⟩, []⟩,
  ⟨⟨some 9, Op.call { callee := (Callee.builtin Builtin.len), args := #[(Operand.tmp 8)], argTypes := #[38] }, none⟩, []⟩,
  ⟨⟨some 10, Op.load 3 (Operand.tmp 2), none⟩, []⟩,
  ⟨⟨some 11, Op.binOp BinOp.sub 3 (Operand.tmp 10) (Operand.const (Value.int IntKind.i64 3)) 3, none⟩, []⟩,
  ⟨⟨some 12, Op.binOp BinOp.eql 3 (Operand.tmp 9) (Operand.tmp 11) 3, none⟩, []⟩]) (.cond (Operand.tmp 12) (.seq (.reg [⟨⟨some 13, Op.load 26 (Operand.tmp 3), none⟩, []⟩,
  ⟨⟨some 14, Op.load 38 (Operand.tmp 1), none⟩, []⟩,
  ⟨⟨some 15, Op.call { callee := (Callee.value (Operand.func 87)), args := #[(Operand.tmp 14)], argTypes := #[38] }, none⟩, [⟨some 13, Op.load 26 (Operand.tmp 3), none⟩]⟩,
  ⟨⟨some 16, Op.buildSlice 26 1 #[(0, (Operand.tmp 15))], none⟩, []⟩,
  ⟨⟨some 17, Op.call { callee := (Callee.builtin Builtin.append), args := #[(Operand.tmp 13), (Operand.tmp 16)], argTypes := #[26, 26] }, none⟩, []⟩,
  ⟨⟨none, Op.store 26 (Operand.tmp 3) (Operand.tmp 17), none⟩, []⟩]) .ret) .skip)) (.block 0 (.loop (.seq (.seq (.reg [⟨⟨some 18, Op.move (Operand.tmp 0), none⟩, []⟩,
  ⟨⟨some 19, Op.load 38 (Operand.tmp 4), none⟩, []⟩,
  ⟨⟨some 20, Op.call { callee := (Callee.builtin Builtin.len), args := #[(Operand.tmp 19)], argTypes := #[38] }, none⟩, []⟩,
  ⟨⟨some 21, Op.binOp BinOp.lss 3 (Operand.tmp 18) (Operand.tmp 20) 3, none⟩, []⟩]) (.cond (Operand.tmp 21) .skip (.exit 0))) (.seq (.block 1 (.seq (.reg [⟨⟨some 24, Op.load 38 (Operand.tmp 4), none⟩, []⟩,
  ⟨⟨some 25, Op.move (Operand.tmp 0), none⟩, []⟩,
  ⟨⟨some 26, Op.indexAddr 38 (Operand.tmp 24) (Operand.tmp 25), none⟩, []⟩,
  ⟨⟨some 27, Op.load 3 (Operand.tmp 26), none⟩, []⟩,
  ⟨⟨some 7, Op.alloc 3, none⟩, []⟩,
  ⟨⟨none, Op.store 3 (Operand.tmp 7) (Operand.tmp 27), none⟩, []⟩]) (.seq (.reg [⟨⟨some 28, Op.load 38 (Operand.tmp 1), none⟩, []⟩,
  ⟨⟨some 29, Op.makeFunc (Fn.func 240) #[] #[(Operand.tmp 7)], none⟩, []⟩,
  ⟨⟨some 30, Op.call { callee := (Callee.value (Operand.func 181)), args := #[(Operand.tmp 28), (Operand.tmp 29)], argTypes := #[38, 90] }, none⟩, []⟩,
  ⟨⟨some 31, Op.unOp UnOp.not 4 (Operand.tmp 30), none⟩, []⟩]) (.cond (Operand.tmp 31) (.seq (.reg [⟨⟨some 32, Op.load 38 (Operand.tmp 1), none⟩, []⟩,
  ⟨⟨some 33, Op.load 3 (Operand.tmp 7), none⟩, []⟩,
  ⟨⟨some 34, Op.buildSlice 38 1 #[(0, (Operand.tmp 33))], none⟩, []⟩,
  ⟨⟨some 35, Op.call { callee := (Callee.builtin Builtin.append), args := #[(Operand.tmp 32), (Operand.tmp 34)], argTypes := #[38, 38] }, none⟩, []⟩,
  ⟨⟨none, Op.store 38 (Operand.tmp 1) (Operand.tmp 35), none⟩, []⟩]) (.seq (.reg [⟨⟨some 36, Op.load 186 (Operand.tmp 5), none⟩, []⟩,
  ⟨⟨some 37, Op.move (Operand.tmp 0), none⟩, []⟩,
  ⟨⟨some 38, Op.binOp BinOp.add 3 (Operand.tmp 37) (Operand.const (Value.int IntKind.i64 1)) 3, none⟩, []⟩,
  ⟨⟨some 39, Op.call { callee := (Callee.value (Operand.tmp 36)), args := #[(Operand.tmp 38)], argTypes := #[3] }, none⟩, []⟩]) (.reg [⟨⟨some 40, Op.load 38 (Operand.tmp 1), none⟩, []⟩,
  ⟨⟨some 41, Op.load 38 (Operand.tmp 1), none⟩, []⟩,
  ⟨⟨some 42, Op.call { callee := (Callee.builtin Builtin.len), args := #[(Operand.tmp 41)], argTypes := #[38] }, none⟩, []⟩,
  ⟨⟨some 43, Op.binOp BinOp.sub 3 (Operand.tmp 42) (Operand.const (Value.int IntKind.i64 1)) 3, none⟩, []⟩,
  ⟨⟨some 44, Op.slice 38 (Operand.tmp 40) none (some (Operand.tmp 43)) none, none⟩, []⟩,
  ⟨⟨none, Op.store 38 (Operand.tmp 1) (Operand.tmp 44), none⟩, []⟩]))) .skip)))) (.reg [⟨⟨some 22, Op.move (Operand.tmp 0), none⟩, []⟩,
  ⟨⟨some 23, Op.binOp BinOp.add 3 (Operand.tmp 22) (Operand.const (Value.int IntKind.i64 1)) 3, none⟩, []⟩,
  ⟨⟨some 0, Op.assign (Operand.tmp 23), none⟩, []⟩]))))))
theorem sl239 : slim Try.f239.ntmps ords239 (Try.f239.body.getD .skip) = some cd239 := by kernel_rfl
theorem in239 {args : List Value} {H : AH} {R : Value → AH → Prop} (hl : args.length = 6) (h : ∀ (Q : Exit → Sl → AH → Prop), (∀ e s H, endA Try.prog [] R e s H → Q e s H) → wpC Try.prog cd239 Q (enterA args) H) : ACalls Try.prog 239 args H R :=
  ACalls.intro (by kernel_rfl) Try.func239 rfl (by kernel_rfl) sl239 hl (of_decide_eq_true (by kernel_rfl)) (by kernel_rfl) h
def ords196 : List (Nat × List (Nat × Bool)) := []
def cd196 : Cd := (.seq (.reg [⟨⟨some 1, Op.box 3 (Operand.tmp 0), none⟩, []⟩,
  ⟨⟨some 2, Op.assign (Operand.const (Value.slice none 0 0)), none⟩, []⟩]) (.seq (.reg [⟨⟨some 7, Op.buildSlice 26 0 #[], none⟩, []⟩,
  ⟨⟨some 8, Op.load 3 (Operand.tmp 1), none⟩, []⟩,
  ⟨⟨some 9, Op.call { callee := (Callee.value (Operand.func 238)), args := #[(Operand.tmp 8)], argTypes := #[3] }, none⟩, []⟩,
  ⟨⟨some 10, Op.buildSlice 38 0 #[], none⟩, []⟩,
  ⟨⟨some 3, Op.alloc 26, none⟩, []⟩,
  ⟨⟨some 4, Op.alloc 38, none⟩, []⟩,
  ⟨⟨some 5, Op.alloc 38, none⟩, []⟩,
  ⟨⟨none, Op.store 26 (Operand.tmp 3) (Operand.tmp 7), none⟩, []⟩,
  ⟨⟨none, Op.store 38 (Operand.tmp 4) (Operand.tmp 9), none⟩, []⟩,
  ⟨⟨none, Op.store 38 (Operand.tmp 5) (Operand.tmp 10), none⟩, []⟩]) (.seq (.reg [⟨⟨some 6, Op.alloc 186, none⟩, []⟩]) (.seq (.reg [⟨⟨some 11, Op.makeFunc (Fn.func 239) #[] #[(Operand.tmp 5), (Operand.tmp 1), (Operand.tmp 3), (Operand.tmp 4), (Operand.tmp 6)], none⟩, []⟩,
  ⟨⟨none, Op.store 186 (Operand.tmp 6) (Operand.tmp 11), none⟩, []⟩]) (.seq (.reg [⟨⟨some 12, Op.load 186 (Operand.tmp 6), none⟩, []⟩,
  ⟨⟨some 13, Op.call { callee := (Callee.value (Operand.tmp 12)), args := #[(Operand.const (Value.int IntKind.i64 0))], argTypes := #[3] }, none⟩, []⟩]) (.seq (.reg [⟨⟨some 14, Op.load 26 (Operand.tmp 3), none⟩, []⟩,
  ⟨⟨some 2, Op.assign (Operand.tmp 14), none⟩, []⟩]) .ret))))))
theorem sl196 : slim Try.f196.ntmps ords196 (Try.f196.body.getD .skip) = some cd196 := by kernel_rfl
theorem in196 {args : List Value} {H : AH} {R : Value → AH → Prop} (hl : args.length = 1) (h : ∀ (Q : Exit → Sl → AH → Prop), (∀ e s H, endA Try.prog [ResultVar.tmp 2] R e s H → Q e s H) → wpC Try.prog cd196 Q (enterA args) H) : ACalls Try.prog 196 args H R :=
  ACalls.intro (by kernel_rfl) Try.func196 rfl (by kernel_rfl) sl196 hl (of_decide_eq_true (by kernel_rfl)) (by kernel_rfl) h
end Go.Proofs.Ytlfongfhbkefmaa.Ai
namespace Go.Proofs.Ytlfongfhbkefmaa.Ai
open Go Go.RowKit
set_option linter.unusedVariables false
set_option linter.unusedSimpArgs false
theorem agT : isAggA Try.prog 186 = some false := by kernel_rfl
theorem csT : Try.prog.cellsOf 186 = 1 := by kernel_rfl
theorem alloc_iT (H : AH) : allocA Try.prog 3 H = some (.pointer (some ⟨H.length, 0, none⟩), H ++ [.cells [.int .i64 0] 3 false]) := by kernel_rfl
theorem alloc_slT (H : AH) : allocA Try.prog 38 H = some (.pointer (some ⟨H.length, 0, none⟩), H ++ [.cells [.slice none 0 0] 38 false]) := by kernel_rfl
theorem alloc_llT (H : AH) : allocA Try.prog 26 H = some (.pointer (some ⟨H.length, 0, none⟩), H ++ [.cells [.slice none 0 0] 26 false]) := by kernel_rfl
theorem alloc_fT (H : AH) : allocA Try.prog 186 H = some (.pointer (some ⟨H.length, 0, none⟩), H ++ [.cells [.nilFunc] 186 false]) := by kernel_rfl
theorem box_iT (H : AH) (k : Int) : boxA Try.prog 3 (.int .i64 k) H = some (.pointer (some ⟨H.length, 0, none⟩), H ++ [.cells [.int .i64 k] 3 false]) := by kernel_rfl
theorem mkf_1T (f : Fn) (p : Option Addr) : makeFuncA f [] [.pointer p] = some (.func f #[] (List.toArray [.pointer p])) := rfl
theorem mkf_5T (f : Fn) (p q r t u : Option Addr) : makeFuncA f [] [.pointer p, .pointer q, .pointer r, .pointer t, .pointer u] = some (.func f #[] (List.toArray [.pointer p, .pointer q, .pointer r, .pointer t, .pointer u])) := rfl
theorem crsClos_c (d e : Int) (o : Nat) (H : AH) (hd : I64 d) (he : I64 e) (ho : cellA H o 0 = some (.int .i64 d)) : ACalls Try.prog 240 [.int .i64 e, .pointer (some ⟨o, 0, none⟩)] H fun r H' => r = .bool (decide (Crs d e)) ∧ H = H' := by
  refine in240 rfl ?_
  intro Q hQ
  simp (maxSteps := 1000000) (disch := omega) only [cd240, ho, S, S1, S2, S3, S4, S5, ST, eq_self, reduceIte, reduceCtorEq, Nat.reduceEqDiff, Nat.reduceAdd]
  refine CallH.by (cross_c d e H hd he) ?_
  rintro _ _ ⟨rfl, rfl⟩
  simp (maxSteps := 1000000) (disch := omega) only [S, S1, S2, S3, S4, S5, ST, eq_self, reduceIte, reduceCtorEq, Nat.reduceEqDiff, Nat.reduceAdd]
  refine hQ _ _ _ ?_
  simp (maxSteps := 1000000) (disch := omega) only [S, S1, S2, S3, S4, S5, ST, eq_self, reduceIte, reduceCtorEq, Nat.reduceEqDiff, Nat.reduceAdd]
/-- what stays in the walk -/
abbrev trgFx (n : Int) (all : List Int) (pn pa oa pf pl po : Nat) : List (Nat × AObj) :=
  [(pn, .cells [.int .i64 n] 3 false), (pa, .cells [.slice (some ⟨oa, 0, none⟩) all.length all.length] 38 false), (oa, .cells (ints all) 3 false),
   (pf, .cells [.func (.func 239) #[] (List.toArray [.pointer (some ⟨pl, 0, none⟩), .pointer (some ⟨pn, 0, none⟩), .pointer (some ⟨po, 0, none⟩), .pointer (some ⟨pa, 0, none⟩), .pointer (some ⟨pf, 0, none⟩)])] 186 false)]
set_option maxRecDepth 20000 in
set_option maxHeartbeats 4000000 in
theorem trg_c {HB : AH} (n : Int) (h : Nat) (hn : n - 3 = (h : Int)) (hh : h ≤ 100) (all : List Int) (hN : all.length ≤ 28) (hall : ∀ y ∈ all, 0 ≤ y ∧ y ≤ 100) (pn pa oa pf pl po : Nat) :
    ∀ (k : Nat) (ed : List Int) (out : List (List Int)) (F : Nat → Prop) (H : AH), k ≤ all.length → ed.length + k ≤ all.length → (∀ y ∈ ed, 0 ≤ y ∧ y ≤ 100) → out.length + 2 ^ k ≤ 1000000000 → IOut HB po out F H → LSt HB (trgFx n all pn pa oa pf pl po) pl F H ed →
      ACalls Try.prog 239 [.int .i64 ((all.length - k : Nat) : Int), .pointer (some ⟨pl, 0, none⟩), .pointer (some ⟨pn, 0, none⟩), .pointer (some ⟨po, 0, none⟩), .pointer (some ⟨pa, 0, none⟩), .pointer (some ⟨pf, 0, none⟩)] H fun r H' =>
        ∃ F', IOut HB po (out ++ tex all h k ed) F' H' ∧ LSt HB (trgFx n all pn pa oa pf pl po) pl F' H' ed := by
  intro k
  induction k using Nat.strongRecOn with
  | ind k ih =>
  intro ed out F H hk hek hed hout hO hL
  refine in239 rfl ?_
  intro Q hQ
  have f1 : ∀ {F H}, LSt HB (trgFx n all pn pa oa pf pl po) pl F H ed → cellA H pn 0 = some (.int .i64 n) := fun h => cell_of (h.fix (pn, _) (.head _)).1 0
  obtain ⟨w, hw1, hw2, hw3, hw4⟩ := hL.row
  have hpos : 1 ≤ 2 ^ k := Nat.one_le_two_pow
  simp (maxSteps := 1000000) (disch := omega) only [cd239, hw1, hw2.len Try.underlying38, f1 hL, wrap64, S, S1, S2, S3, S4, S5, ST, eq_self, reduceIte, reduceCtorEq, Nat.reduceEqDiff, Nat.reduceAdd]
  refine brD.intro (fun g => ?_) (fun g => ?_)
  · have hel : ed.length = h := by omega
    have ht : tex all h k ed = [ed] := by unfold tex; rw [if_pos hel]
    rw [ht] at hQ
    have hO1 := hO
    obtain ⟨o, us, hpo, _⟩ := hO1
    simp (maxSteps := 1000000) (disch := omega) only [cell_of hpo, hw1, S, S1, S2, S3, S4, S5, ST, eq_self, reduceIte, reduceCtorEq, Nat.reduceEqDiff, Nat.reduceAdd]
    refine CallH.by (Clone_c w ed H hw2 (by omega)) ?_
    rintro c C ⟨hc, pC⟩
    obtain ⟨w2, H3, H4, p0, p1, p2, p3, p4, F', hO4, hF4, hk4⟩ := hO.push hL.pre pC hc (by omega)
    have hww := p0.symm.trans (cell_of hpo 0)
    simp only [List.getElem?_cons_zero, Option.some.injEq, Value.slice.injEq] at hww
    obtain ⟨hww, _, _⟩ := hww
    subst hww
    simp (maxSteps := 1000000) (disch := omega) only [p1, p2, p3, p4, S, S1, S2, S3, S4, S5, ST, eq_self, reduceIte, reduceCtorEq, Nat.reduceEqDiff, Nat.reduceAdd]
    refine hQ _ _ _ ?_
    simp (maxSteps := 1000000) (disch := omega) only [S, S1, S2, S3, S4, S5, ST, eq_self, reduceIte, reduceCtorEq, Nat.reduceEqDiff, Nat.reduceAdd]
    exact ⟨F', hO4, hL.cb (fun o ho => (hO.live ho).2) hF4 hk4⟩
  have hel : ed.length ≠ h := by omega
  have ht : tex all h k ed = tlp all h k ed := by unfold tex; rw [if_neg hel]
  rw [ht] at hQ
  simp (maxSteps := 1000000) (disch := omega) only [g, S, S1, S2, S3, S4, S5, ST, eq_self, reduceIte, reduceCtorEq, Nat.reduceEqDiff, Nat.reduceAdd]
  refine LoopH.by (fun m s H' => ∃ out' F', m ≤ k ∧ s 0 = .int .i64 ((all.length - m : Nat) : Int) ∧ s 1 = .pointer (some ⟨pl, 0, none⟩) ∧ s 2 = .pointer (some ⟨pn, 0, none⟩) ∧ s 3 = .pointer (some ⟨po, 0, none⟩) ∧ s 4 = .pointer (some ⟨pa, 0, none⟩) ∧ s 5 = .pointer (some ⟨pf, 0, none⟩) ∧ out'.length + 2 ^ m ≤ 1000000000 ∧ out' ++ tlp all h m ed = out ++ tlp all h k ed ∧ IOut HB po out' F' H' ∧ LSt HB (trgFx n all pn pa oa pf pl po) pl F' H' ed) k ?_ ?_
  · exact ⟨out, F, Nat.le_refl _, rfl, rfl, rfl, rfl, rfl, rfl, hout, rfl, hO, hL⟩
  rintro m s H' ⟨out', F', hmk, h0, h1, h2, h3, h4, h5, hcnt, hout', hO', hL'⟩
  have fa : ∀ {F H}, LSt HB (trgFx n all pn pa oa pf pl po) pl F H ed → H[pa]? = some (.cells [.slice (some ⟨oa, 0, none⟩) all.length all.length] 38 false) := fun h => (h.fix (pa, _) (.tail _ (.head _))).1
  have foa : ∀ {F H}, LSt HB (trgFx n all pn pa oa pf pl po) pl F H ed → H[oa]? = some (.cells (ints all) 3 false) := fun h => (h.fix (oa, _) (.tail _ (.tail _ (.head _)))).1
  simp (maxSteps := 1000000) (disch := omega) only [h0, h1, h2, h3, h4, h5, cell_of (fa hL'), S, S1, S2, S3, S4, S5, ST, eq_self, reduceIte, reduceCtorEq, Nat.reduceEqDiff, Nat.reduceAdd]
  refine brD.intro (fun g2 => ?_) (fun g2 => ?_)
  rotate_left
  · have hm0 : m = 0 := by omega
    subst hm0
    simp (maxSteps := 1000000) (disch := omega) only [S, S1, S2, S3, S4, S5, ST, eq_self, reduceIte, reduceCtorEq, Nat.reduceEqDiff, Nat.reduceAdd]
    refine hQ _ _ _ ?_
    simp (maxSteps := 1000000) (disch := omega) only [S, S1, S2, S3, S4, S5, ST, eq_self, reduceIte, reduceCtorEq, Nat.reduceEqDiff, Nat.reduceAdd]
    rw [← hout']
    simp only [tlp, List.append_nil]
    exact ⟨F', hO', hL'⟩
  obtain ⟨i, rfl⟩ : ∃ i, m = i + 1 := ⟨m - 1, by omega⟩
  have hei : all.length - (i + 1) < all.length := by omega
  have he1 : ((all.length - (i + 1) : Nat) : Int) + 1 = ((all.length - i : Nat) : Int) := by omega
  have hstep := tlp_step all h i ed
  have hP : 2 ^ (i + 1) = 2 ^ i + 2 ^ i := by rw [Nat.pow_succ]; omega
  have hpi : 1 ≤ 2 ^ i := Nat.one_le_two_pow
  generalize he : all.length - (i + 1) = e at *
  have hdm : all.getD e 0 ∈ all := by simp [hei]
  have hdr := hall _ hdm
  generalize hd : all.getD e 0 = d at *
  have hca := cell_ints (foa hL') hei
  rw [hd] at hca
  have st0 := st_at (P := Try.prog) (t := 3) (i := 0) (y := .int .i64 d) cs3 (at_new H' (.cells [.int .i64 0] 3 false)) (by show 0 < 1; decide) rfl rfl
  rw [set_new, List.set_cons_zero] at st0
  simp (maxSteps := 1000000) (disch := omega) only [h0, h1, h2, h3, h4, h5, cell_of (fa hL'), Int.toNat_natCast, Nat.zero_add, hca, alloc_iT, st0, S, S1, S2, S3, S4, S5, ST, eq_self, reduceIte, reduceCtorEq, Nat.reduceEqDiff, Nat.reduceAdd]
  generalize hG : H' ++ [AObj.cells [.int .i64 d] 3 false] = G
  have pG : H' <+: G := by rw [← hG]; exact List.prefix_append _ _
  have cG : G[H'.length]? = some (.cells [.int .i64 d] 3 false) := by rw [← hG]; exact at_new ..
  have hlv : ∀ o, F' o → HB.length ≤ o := fun o ho => (hO'.live ho).2
  have hLG := hL'.grow hlv pG
  have hOG := hO'.keep (fun o y _ hy => pre_at pG hy)
  obtain ⟨w', hw1', hw2', hw3', hw4'⟩ := hLG.row
  simp (maxSteps := 1000000) (disch := omega) only [h0, h1, h2, h3, h4, h5, hw1', mkf_1T, S, S1, S2, S3, S4, S5, ST, eq_self, reduceIte, reduceCtorEq, Nat.reduceEqDiff, Nat.reduceAdd]
  refine CallH.by (ContainsFunc_c w' ed (fun y => decide (Crs d y)) 240 [.pointer (some ⟨H'.length, 0, none⟩)] G hw2' (by omega) (fun y hy => crsClos_c d y H'.length G ⟨by omega, by omega⟩ (by have := hed y hy; exact ⟨by omega, by omega⟩) (cell_of cG 0))) ?_
  rintro _ _ ⟨rfl, rfl⟩
  have hap := apB_comm ed d
  simp (maxSteps := 1000000) (disch := omega) only [S, S1, S2, S3, S4, S5, ST, eq_self, reduceIte, reduceCtorEq, Nat.reduceEqDiff, Nat.reduceAdd]
  refine brH.intro (fun q => ?_) (fun q => ?_)
  · have hno : ¬ apB ed d = true := by rw [← hap, q]; decide
    rw [if_neg hno, List.nil_append] at hstep
    rw [hstep] at hout'
    have f2 : out'.length + 2 ^ i ≤ 1000000000 := by omega
    simp (maxSteps := 1000000) (disch := omega) only [q, h0, h1, h2, h3, h4, h5, he1, wrap64, S, S1, S2, S3, S4, S5, ST, eq_self, reduceIte, reduceCtorEq, Nat.reduceEqDiff, Nat.reduceAdd]
    refine ⟨i, by omega, out', F', by omega, ?_⟩
    (repeat' first | exact f2 | exact hout' | exact hOG | exact hLG | apply And.intro) <;> first | (simp only [Value.int.injEq, true_and]; omega) | omega | rfl | assumption | (simp; done) | (simp; omega)
  · have hyes : apB ed d = true := by rw [← hap, q]; rfl
    rw [if_pos hyes] at hstep
    obtain ⟨w3, H2, H3, p1, p2, p3, hL3, hk3, hl3, _⟩ := hLG.push (fun o ho => (hOG.live ho).1) (by omega) d
    have hO3 := hOG.keep hk3
    have hff : H3[pf]? = some (.cells [.func (.func 239) #[] (List.toArray [.pointer (some ⟨pl, 0, none⟩), .pointer (some ⟨pn, 0, none⟩), .pointer (some ⟨po, 0, none⟩), .pointer (some ⟨pa, 0, none⟩), .pointer (some ⟨pf, 0, none⟩)])] 186 false) := (hL3.fix (pf, _) (.tail _ (.tail _ (.tail _ (.head _))))).1
    simp (maxSteps := 1000000) (disch := omega) only [q, h0, h1, h2, h3, h4, h5, p1, cell_of cG, p2, p3, ld_one agT, cell_of hff, he1, wrap64, S, S1, S2, S3, S4, S5, ST, eq_self, reduceIte, reduceCtorEq, Nat.reduceEqDiff, Nat.reduceAdd]
    refine CallH.by (ih i (by omega) (ed ++ [d]) out' F' H3 (by omega) (by simp; omega) (fun y hy => by
      rcases List.mem_append.1 hy with hy | hy
      · exact hed y hy
      · simp at hy; rw [hy]; exact hdr) (by omega) hO3 hL3) ?_
    rintro _ H4 ⟨F4, hO4, hL4⟩
    obtain ⟨w4, c4, r1, r2, H5, r3, hL5, hk5, hl5⟩ := hL4.pop
    have hO5 := hO4.keep hk5
    have htl : (tex all h i (ed ++ [d])).length ≤ 2 ^ i := by
      unfold tex
      split
      · simp; exact hpi
      · have := tex_len all h i (ed ++ [d]); omega
    have f2 : (out' ++ tex all h i (ed ++ [d])).length + 2 ^ i ≤ 1000000000 := by rw [List.length_append]; omega
    have f3 : (out' ++ tex all h i (ed ++ [d])) ++ tlp all h i ed = out ++ tlp all h k ed := by rw [← hout', hstep, List.append_assoc]
    have hcl : ((ed.length + 1 : Nat) : Int) - 1 = (ed.length : Int) := by omega
    simp (maxSteps := 1000000) (disch := omega) only [h0, h1, h2, h3, h4, h5, r1, hcl, r2, r3, he1, wrap64, S, S1, S2, S3, S4, S5, ST, eq_self, reduceIte, reduceCtorEq, Nat.reduceEqDiff, Nat.reduceAdd]
    refine ⟨i, by omega, out' ++ tex all h i (ed ++ [d]), F4, by omega, ?_⟩
    (repeat' first | exact f2 | exact f3 | exact hO5 | exact hL5 | apply And.intro) <;> first | (simp only [Value.int.injEq, true_and]; omega) | omega | rfl | assumption | (simp; done) | (simp; omega)
set_option maxRecDepth 20000 in
set_option maxHeartbeats 2000000 in
theorem triangulations_c (n : Int) (H : AH) (hn : 3 ≤ n ∧ n ≤ 8) (hdg : dgI n 100 = dgs n n.toNat) :
    ACalls Try.prog 196 [.int .i64 n] H fun r H' => InL H.length H'.length 38 3 H' r (triA n) ∧ H <+: H' := by
  obtain ⟨hk1, hk2, hk3, hk4, hk5, hk6⟩ := triA_ok hn
  refine in196 rfl ?_
  intro Q hQ
  simp (maxSteps := 1000000) (disch := omega) only [cd196, box_iT, S, S1, S2, S3, S4, S5, ST, eq_self, reduceIte, reduceCtorEq, Nat.reduceEqDiff, Nat.reduceAdd]
  generalize hA : H ++ [AObj.cells [.int .i64 n] 3 false] = A
  have pA : H <+: A := by rw [← hA]; exact List.prefix_append _ _
  have cA : A[H.length]? = some (.cells [.int .i64 n] 3 false) := by rw [← hA]; exact at_new ..
  generalize hB : A ++ [AObj.cells [] 38 false] = B
  have pB : A <+: B := by rw [← hB]; exact List.prefix_append _ _
  have cB : B[A.length]? = some (.cells [] 38 false) := by rw [← hB]; exact at_new ..
  have cBA := pre_at pB cA
  simp (maxSteps := 1000000) (disch := omega) only [cell_of cBA, S, S1, S2, S3, S4, S5, ST, eq_self, reduceIte, reduceCtorEq, Nat.reduceEqDiff, Nat.reduceAdd]
  refine CallH.by (diagonals_c n B (by omega)) ?_
  rintro _ C ⟨⟨oa, rfl, hoa, hca⟩, pC⟩
  rw [hdg] at hca ⊢
  generalize hall : dgs n n.toNat = all at *
  simp (maxSteps := 1000000) (disch := omega) only [alloc_llT, alloc_slT, S, S1, S2, S3, S4, S5, ST, eq_self, reduceIte, reduceCtorEq, Nat.reduceEqDiff, Nat.reduceAdd]
  generalize hD : C ++ [AObj.cells [] 3 false] = D
  have pD : C <+: D := by rw [← hD]; exact List.prefix_append _ _
  have cD : D[C.length]? = some (.cells (ints []) 3 false) := by rw [← hD]; exact at_new ..
  generalize hE1 : D ++ [AObj.cells [.slice none 0 0] 26 false] = E1
  have pE1 : D <+: E1 := by rw [← hE1]; exact List.prefix_append _ _
  have cE1 : E1[D.length]? = some (.cells [.slice none 0 0] 26 false) := by rw [← hE1]; exact at_new ..
  generalize hE2 : E1 ++ [AObj.cells [.slice none 0 0] 38 false] = E2
  have pE2 : E1 <+: E2 := by rw [← hE2]; exact List.prefix_append _ _
  have cE2 : E2[E1.length]? = some (.cells [.slice none 0 0] 38 false) := by rw [← hE2]; exact at_new ..
  generalize hE3 : E2 ++ [AObj.cells [.slice none 0 0] 38 false] = E3
  have pE3 : E2 <+: E3 := by rw [← hE3]; exact List.prefix_append _ _
  have cE3 : E3[E2.length]? = some (.cells [.slice none 0 0] 38 false) := by rw [← hE3]; exact at_new ..
  have lA : A.length = H.length + 1 := by rw [← hA]; simp
  have lB : B.length = A.length + 1 := by rw [← hB]; simp
  have lC := pC.length_le
  have lD : D.length = C.length + 1 := by rw [← hD]; simp
  have lE1 : E1.length = D.length + 1 := by rw [← hE1]; simp
  have lE2 : E2.length = E1.length + 1 := by rw [← hE2]; simp
  have lE3 : E3.length = E2.length + 1 := by rw [← hE3]; simp
  have loa := at_lt hca
  have s1 := st_at (P := Try.prog) (t := 26) (i := 0) (y := .slice (some ⟨A.length, 0, none⟩) 0 0) cs26 (pre_at (pE2.trans pE3) cE1) (by show 0 < 1; decide) rfl rfl
  rw [List.set_cons_zero] at s1
  generalize hE4 : E3.set D.length (.cells [.slice (some ⟨A.length, 0, none⟩) 0 0] 26 false) = E4 at *
  have at4 : ∀ {o y}, o ≠ D.length → E3[o]? = some y → E4[o]? = some y := fun ho hy => by rw [← hE4, List.getElem?_set_ne (fun e => ho e.symm)]; exact hy
  have l4 : E4.length = E3.length := by rw [← hE4]; simp
  have c4 : E4[D.length]? = some (.cells [.slice (some ⟨A.length, 0, none⟩) 0 0] 26 false) := by rw [← hE4, List.getElem?_set_self (by omega)]
  have s2 := st_at (P := Try.prog) (t := 38) (i := 0) (y := .slice (some ⟨oa, 0, none⟩) all.length all.length) cs38 (at4 (by omega) (pre_at pE3 cE2)) (by show 0 < 1; decide) rfl rfl
  rw [List.set_cons_zero] at s2
  generalize hE5 : E4.set E1.length (.cells [.slice (some ⟨oa, 0, none⟩) all.length all.length] 38 false) = E5 at *
  have at5 : ∀ {o y}, o ≠ E1.length → E4[o]? = some y → E5[o]? = some y := fun ho hy => by rw [← hE5, List.getElem?_set_ne (fun e => ho e.symm)]; exact hy
  have l5 : E5.length = E4.length := by rw [← hE5]; simp
  have c5 : E5[E1.length]? = some (.cells [.slice (some ⟨oa, 0, none⟩) all.length all.length] 38 false) := by rw [← hE5, List.getElem?_set_self (by omega)]
  have s3 := st_at (P := Try.prog) (t := 38) (i := 0) (y := .slice (some ⟨C.length, 0, none⟩) 0 0) cs38 (at5 (by omega) (at4 (by omega) cE3)) (by show 0 < 1; decide) rfl rfl
  rw [List.set_cons_zero] at s3
  generalize hE6 : E5.set E2.length (.cells [.slice (some ⟨C.length, 0, none⟩) 0 0] 38 false) = E6 at *
  have at6 : ∀ {o y}, o ≠ E2.length → E5[o]? = some y → E6[o]? = some y := fun ho hy => by rw [← hE6, List.getElem?_set_ne (fun e => ho e.symm)]; exact hy
  have l6 : E6.length = E5.length := by rw [← hE6]; simp
  have c6 : E6[E2.length]? = some (.cells [.slice (some ⟨C.length, 0, none⟩) 0 0] 38 false) := by rw [← hE6, List.getElem?_set_self (by omega)]
  have old : ∀ {o y}, o < D.length → D[o]? = some y → E6[o]? = some y := fun ho hy => at6 (by omega) (at5 (by omega) (at4 (by omega) (pre_at (pE1.trans (pE2.trans pE3)) hy)))
  have st7 := st_at (P := Try.prog) (t := 186) (i := 0) (y := .func (.func 239) #[] (List.toArray [.pointer (some ⟨E2.length, 0, none⟩), .pointer (some ⟨H.length, 0, none⟩), .pointer (some ⟨D.length, 0, none⟩), .pointer (some ⟨E1.length, 0, none⟩), .pointer (some ⟨E6.length, 0, none⟩)])) csT (at_new E6 (.cells [.nilFunc] 186 false)) (by show 0 < 1; decide) rfl rfl
  rw [set_new, List.set_cons_zero] at st7
  simp (maxSteps := 1000000) (disch := omega) only [s1, s2, s3, alloc_fT, mkf_5T, st7, ld_one agT, cell_new, S, S1, S2, S3, S4, S5, ST, eq_self, reduceIte, reduceCtorEq, Nat.reduceEqDiff, Nat.reduceAdd]
  generalize hG : E6 ++ [AObj.cells [.func (.func 239) #[] (List.toArray [.pointer (some ⟨E2.length, 0, none⟩), .pointer (some ⟨H.length, 0, none⟩), .pointer (some ⟨D.length, 0, none⟩), .pointer (some ⟨E1.length, 0, none⟩), .pointer (some ⟨E6.length, 0, none⟩)])] 186 false] = G
  have pG : E6 <+: G := by rw [← hG]; exact List.prefix_append _ _
  have cG : G[E6.length]? = some (.cells [.func (.func 239) #[] (List.toArray [.pointer (some ⟨E2.length, 0, none⟩), .pointer (some ⟨H.length, 0, none⟩), .pointer (some ⟨D.length, 0, none⟩), .pointer (some ⟨E1.length, 0, none⟩), .pointer (some ⟨E6.length, 0, none⟩)])] 186 false) := by rw [← hG]; exact at_new ..
  have lG : G.length = E6.length + 1 := by rw [← hG]; simp
  have oldG : ∀ {o y}, o < D.length → D[o]? = some y → G[o]? = some y := fun ho hy => pre_at pG (old ho hy)
  have pHD := pA.trans (pB.trans (pC.trans pD))
  have pHG : H <+: G := prefix_of fun o y hy => oldG (by have := at_lt hy; omega) (pre_at pHD hy)
  have gA := oldG (by omega) (pre_at (pB.trans (pC.trans pD)) cA)
  have gB := oldG (by omega) (pre_at (pC.trans pD) cB)
  have ga := oldG (by omega) (pre_at pD hca)
  have gD := oldG (by omega) cD
  have g4 := pre_at pG (at6 (by omega) (at5 (by omega) c4))
  have g5 := pre_at pG (at6 (by omega) c5)
  have g6 := pre_at pG c6
  have nob : ∀ j, j ≠ A.length → ¬ Obs A.length [] [] j := by
    rintro j hj (e | ⟨i, hi, _⟩)
    · exact hj e
    · simp at hi
  have hO : IOut H D.length [] (fun j => j = D.length ∨ Obs A.length [] [] j) G :=
    ⟨A.length, [], g4, ⟨by omega, by omega, gB, Nat.le_refl _, fun i hi => absurd hi (by simp), fun i j _ hi _ => absurd hi (by simp)⟩, by omega, nob _ (by omega), rfl⟩
  have nF : ∀ {j}, j ≠ D.length → j ≠ A.length → ¬ ((fun j => j = D.length ∨ Obs A.length [] [] j) j) := fun h1 h2 h => h.elim h1 (nob _ h2)
  have hL : LSt H (trgFx n all H.length E1.length oa E6.length E2.length D.length) E2.length (fun j => j = D.length ∨ Obs A.length [] [] j) G [] := by
    refine ⟨?_, ⟨C.length, [], g6, gD, rfl, nF (by omega) (by omega), by omega, ?_, by omega⟩, nF (by omega) (by omega), by omega, pHG⟩
    · intro q hq
      simp only [List.mem_cons, List.not_mem_nil, or_false] at hq
      rcases hq with rfl | rfl | rfl | rfl
      · exact ⟨gA, nF (by show H.length ≠ _; omega) (by show H.length ≠ _; omega), by show H.length ≠ _; omega⟩
      · exact ⟨g5, nF (by show E1.length ≠ _; omega) (by show E1.length ≠ _; omega), by show E1.length ≠ _; omega⟩
      · exact ⟨ga, nF (by show oa ≠ _; omega) (by show oa ≠ _; omega), by show oa ≠ _; omega⟩
      · exact ⟨cG, nF (by show E6.length ≠ _; omega) (by show E6.length ≠ _; omega), by show E6.length ≠ _; omega⟩
    · intro q hq
      simp only [List.mem_cons, List.not_mem_nil, or_false] at hq
      rcases hq with rfl | rfl | rfl | rfl
      · show H.length ≠ _; omega
      · show E1.length ≠ _; omega
      · show oa ≠ _; omega
      · show E6.length ≠ _; omega
  have hpw : 2 ^ all.length ≤ 2 ^ 28 := Nat.pow_le_pow_right (by decide) hk4
  have hf := trg_c n (n - 3).toNat (by omega) (by omega) all hk4 hk5 H.length E1.length oa E6.length E2.length D.length all.length [] [] _ G (Nat.le_refl _) (by simp) (fun y hy => absurd hy (by simp)) (by simp; omega) hO hL
  have z0 : ((0 : Nat) : Int) = 0 := rfl
  rw [Nat.sub_self, z0] at hf
  refine CallH.by hf ?_
  rintro _ H' ⟨F', hO', hL'⟩
  have htri : triA n = [] ++ tex all (n - 3).toNat all.length [] := by unfold triA; rw [hall, List.nil_append]
  obtain ⟨o, us, h1, h2, _⟩ := hO'
  simp (maxSteps := 1000000) (disch := omega) only [cell_of h1, S, S1, S2, S3, S4, S5, ST, eq_self, reduceIte, reduceCtorEq, Nat.reduceEqDiff, Nat.reduceAdd]
  refine hQ _ _ _ ?_
  simp (maxSteps := 1000000) (disch := omega) only [S, S1, S2, S3, S4, S5, ST, eq_self, reduceIte, reduceCtorEq, Nat.reduceEqDiff, Nat.reduceAdd]
  rw [htri]
  exact ⟨h2.inl, hL'.pre⟩
end Go.Proofs.Ytlfongfhbkefmaa.Ai
namespace Go.Proofs.Ytlfongfhbkefmaa.Ai
open Go
theorem prm_range {p : List Int} (h : Prm p) : (∀ i, i < p.length → 0 ≤ p.getD i 0 ∧ p.getD i 0 < p.length) ∧ ∀ i j, i < p.length → j < p.length → p.getD i 0 = p.getD j 0 → i = j := by
  have hm := List.mergeSort_perm p (fun x y => decide (x ≤ y))
  have hs : (p.mergeSort (fun x y => decide (x ≤ y))).Pairwise (fun x y => decide (x ≤ y) = true) := List.pairwise_mergeSort (fun a b c h1 h2 => by simp at *; omega) (fun a b => by simp; omega) p
  have ha : Asc (p.mergeSort (fun x y => decide (x ≤ y))) := by
    intro i j hij hj
    rw [List.pairwise_iff_getElem] at hs
    have := hs i j (by omega) hj hij
    simp only [decide_eq_true_eq] at this
    rw [List.getD_eq_getElem?_getD, List.getD_eq_getElem?_getD, List.getElem?_eq_getElem hj, List.getElem?_eq_getElem (show i < (p.mergeSort (fun x y => decide (x ≤ y))).length by omega)]
    exact this
  have hat := prm_at h hm ha
  have hl := hm.length_eq
  generalize p.mergeSort (fun x y => decide (x ≤ y)) = ys at *
  have mem : ∀ y ∈ p, 0 ≤ y ∧ y < p.length := by
    intro y hy
    obtain ⟨i, hi, e⟩ := pos_ex (hm.mem_iff.2 hy)
    rw [hat i hi] at e
    omega
  have nd : ys.Nodup := by
    rw [List.Nodup, List.pairwise_iff_getElem]
    intro i j hi hj hij e
    have h1 := hat i hi
    have h2 := hat j hj
    simp only [List.getD_eq_getElem?_getD, List.getElem?_eq_getElem hi, List.getElem?_eq_getElem hj, Option.getD_some] at h1 h2
    omega
  have pd : p.Nodup := hm.nodup_iff.1 nd
  refine ⟨fun i hi => mem _ (by simp [hi]), fun i j hi hj e => ?_⟩
  rw [List.Nodup, List.pairwise_iff_getElem] at pd
  simp only [List.getD_eq_getElem?_getD, List.getElem?_eq_getElem hi, List.getElem?_eq_getElem hj, Option.getD_some] at e
  rcases Nat.lt_trichotomy i j with g | g | g
  · exact absurd e (pd i j hi hj g)
  · exact g
  · exact absurd e.symm (pd j i hj hi g)
/-- the way from y till x -/
def orb (p : List Int) (x y : Int) : Nat → List Int
  | 0 => []
  | n + 1 => if y = x then [] else y :: orb p x (p.getD y.toNat 0) n
def cycC (p : List Int) (x : Int) : List Int := x :: orb p x (p.getD x.toNat 0) p.length
theorem orb_self (p : List Int) (x : Int) (n : Nat) : orb p x x n = [] := by cases n <;> simp [orb]
/-- a way begun at x: c, and y comes next -/
structure Way (p : List Int) (x : Int) (c : List Int) (y : Int) : Prop where
  rng : ∀ z ∈ c, 0 ≤ z ∧ z < p.length
  nd : c.Nodup
  ne : c ≠ []
  head : c.getD 0 0 = x
  step : ∀ i, i + 1 < c.length → c.getD (i + 1) 0 = p.getD (c.getD i 0).toNat 0
  last : y = p.getD (c.getD (c.length - 1) 0).toNat 0
  tail : cycC p x = c ++ orb p x y (p.length + 1 - c.length)
theorem nodup_len (n : Nat) : ∀ (c : List Int), c.Nodup → (∀ z ∈ c, 0 ≤ z ∧ z < (n : Int)) → c.length ≤ n := by
  induction n with
  | zero =>
    intro c _ h
    cases c with
    | nil => simp
    | cons z c => have := h z (by simp); omega
  | succ n ih =>
    intro c hn h
    have hn' := hn.erase (n : Int)
    have hl : c.length ≤ (c.erase (n : Int)).length + 1 := by
      rw [List.length_erase]; split <;> omega
    have := ih (c.erase (n : Int)) hn' (fun z hz => by
      have h1 := h z (List.mem_of_mem_erase hz)
      have h2 : z ≠ n := fun e => by
        subst e
        exact (hn.not_mem_erase) hz
      omega)
    omega
theorem Way.len {p : List Int} {x y : Int} {c : List Int} (h : Way p x c y) : 1 ≤ c.length ∧ c.length ≤ p.length := by
  refine ⟨?_, nodup_len _ c h.nd h.rng⟩
  have := h.ne
  cases c with
  | nil => exact absurd rfl this
  | cons _ _ => simp
theorem getD_mem {c : List Int} {i : Nat} (h : i < c.length) : c.getD i 0 ∈ c := by simp [h]
theorem Way.yrng {p : List Int} {x y : Int} {c : List Int} (hp : Prm p) (h : Way p x c y) : 0 ≤ y ∧ y < p.length := by
  have hl := h.len
  have := h.rng _ (getD_mem (show c.length - 1 < c.length by omega))
  rw [h.last]
  exact (prm_range hp).1 _ (by omega)
/-- what comes again is x -/
theorem Way.back {p : List Int} {x y : Int} {c : List Int} (hp : Prm p) (h : Way p x c y) (hy : y ∈ c) : y = x := by
  have hl := h.len
  obtain ⟨i, hi, e⟩ := pos_ex hy
  by_cases h0 : i = 0
  · subst h0; rw [← e, h.head]
  · have h1 := h.step (i - 1) (by omega)
    rw [show i - 1 + 1 = i from by omega, e, h.last] at h1
    have r1 := h.rng _ (getD_mem (show c.length - 1 < c.length by omega))
    have r2 := h.rng _ (getD_mem (show i - 1 < c.length by omega))
    have := (prm_range hp).2 _ _ (by omega) (by omega) h1
    have e2 : c.getD (c.length - 1) 0 = c.getD (i - 1) 0 := by omega
    have nd := h.nd
    rw [List.Nodup, List.pairwise_iff_getElem] at nd
    simp only [List.getD_eq_getElem?_getD, List.getElem?_eq_getElem (show c.length - 1 < c.length by omega), List.getElem?_eq_getElem (show i - 1 < c.length by omega), Option.getD_some] at e2
    exact absurd e2.symm (nd (i - 1) (c.length - 1) (by omega) (by omega) (by omega))
set_option linter.unusedVariables false in
theorem Way.first {p : List Int} (hp : Prm p) {x : Nat} (hx : x < p.length) : Way p (x : Int) [(x : Int)] (p.getD x 0) :=
  ⟨fun z hz => by simp at hz; omega, by simp, by simp, rfl, fun i hi => by simp at hi, by simp, by simp [cycC]⟩
set_option linter.unusedVariables false in
theorem Way.next {p : List Int} {x y : Int} {c : List Int} (hp : Prm p) (h : Way p x c y) (hy : y ≠ x) : Way p x (c ++ [y]) (p.getD y.toNat 0) := by
  have hl := h.len
  have hyr := h.yrng hp
  have hni : y ∉ c := fun hm => hy (h.back hp hm)
  have hnd : (c ++ [y]).Nodup := List.nodup_append.2 ⟨h.nd, by simp, fun a ha b hb e => by simp at hb; subst hb; exact hni (e ▸ ha)⟩
  have hlen := nodup_len p.length (c ++ [y]) hnd (fun z hz => by
    rcases List.mem_append.1 hz with g | g
    · exact h.rng z g
    · simp at g; rw [g]; exact hyr)
  simp only [List.length_append, List.length_cons, List.length_nil] at hlen
  have at1 : ∀ i, i < c.length → (c ++ [y]).getD i 0 = c.getD i 0 := fun i hi => by
    rw [List.getD_eq_getElem?_getD, List.getD_eq_getElem?_getD, List.getElem?_append_left hi]
  have at2 : (c ++ [y]).getD c.length 0 = y := by
    rw [List.getD_eq_getElem?_getD, List.getElem?_append_right (Nat.le_refl _)]; simp
  refine ⟨fun z hz => ?_, hnd, by simp, by rw [at1 0 (by omega)]; exact h.head, fun i hi => ?_, ?_, ?_⟩
  · rcases List.mem_append.1 hz with g | g
    · exact h.rng z g
    · simp at g; rw [g]; exact hyr
  · simp only [List.length_append, List.length_cons, List.length_nil] at hi
    by_cases c1 : i + 1 < c.length
    · rw [at1 _ c1, at1 _ (by omega)]; exact h.step i c1
    · have : i = c.length - 1 := by omega
      subst this
      rw [show c.length - 1 + 1 = c.length from by omega, at2, at1 _ (by omega)]
      exact h.last
  · simp only [List.length_append, List.length_cons, List.length_nil, Nat.add_sub_cancel]
    rw [at2]
  · have := h.tail
    obtain ⟨n, hn⟩ : ∃ n, p.length + 1 - c.length = n + 1 := ⟨p.length - c.length, by omega⟩
    rw [hn] at this
    simp only [orb, if_neg hy] at this
    rw [this]
    simp only [List.length_append, List.length_cons, List.length_nil, List.append_assoc, List.cons_append, List.nil_append]
    rw [show p.length + 1 - (c.length + (0 + 1)) = n from by omega]
theorem Way.done {p : List Int} {x : Int} {c : List Int} (h : Way p x c x) : c = cycC p x := by
  rw [h.tail, orb_self, List.append_nil]
/-- a set that nothing leads into from outside -/
def Shut (p s : List Int) : Prop := (∀ z ∈ s, 0 ≤ z ∧ z < p.length) ∧ ∀ z : Nat, z < p.length → p.getD z 0 ∈ s → (z : Int) ∈ s
theorem Way.out {p s : List Int} {x y : Int} {c : List Int} (h : Way p x c y) (hs : Shut p s) (hd : ∀ z ∈ c, z ∉ s) : y ∉ s := by
  have hl := h.len
  have hm := getD_mem (show c.length - 1 < c.length by omega)
  have r := h.rng _ hm
  intro hy
  rw [h.last] at hy
  have := hs.2 (c.getD (c.length - 1) 0).toNat (by omega) hy
  rw [show (((c.getD (c.length - 1) 0).toNat : Nat) : Int) = c.getD (c.length - 1) 0 from by omega] at this
  exact hd _ hm this
end Go.Proofs.Ytlfongfhbkefmaa.Ai
namespace Go.Proofs.Ytlfongfhbkefmaa.Ai
open Go
set_option linter.unusedVariables false
/-- the place of a number -/
def ax (q : List Int) (x : Int) : Int := idxP (fun y => decide (x = y)) q 0
theorem idxP_at (p : Int → Bool) : ∀ (xs : List Int) (k : Nat), xs.any p = true → ∃ i : Nat, i < xs.length ∧ idxP p xs k = ((k + i : Nat) : Int) ∧ p (xs.getD i 0) = true
  | [], k, h => by simp at h
  | x :: xs, k, h => by
    by_cases hx : p x = true
    · exact ⟨0, by simp, by simp [idxP, hx], by simpa using hx⟩
    · have : xs.any p = true := by simpa [hx] using h
      obtain ⟨i, h1, h2, h3⟩ := idxP_at p xs (k + 1) this
      refine ⟨i + 1, by simpa using h1, ?_, by simpa using h3⟩
      rw [idxP, if_neg hx, h2]
      congr 1; omega
theorem ax_at {q : List Int} {x : Int} (h : x ∈ q) : ∃ i : Nat, i < q.length ∧ ax q x = (i : Int) ∧ q.getD i 0 = x := by
  obtain ⟨i, h1, h2, h3⟩ := idxP_at (fun y => decide (x = y)) q 0 (by simpa using h)
  refine ⟨i, h1, by rw [ax, h2]; congr 1; omega, ?_⟩
  have := of_decide_eq_true h3
  exact this.symm
def swp (p : List Int) (a b : Nat) : List Int := (p.set a (p.getD b 0)).set b (p.getD a 0)
theorem swp_len (p : List Int) (a b : Nat) : (swp p a b).length = p.length := by simp [swp]
theorem swp_at (p : List Int) (a b k : Nat) (ha : a < p.length) (hb : b < p.length) (hk : k < p.length) : (swp p a b).getD k 0 = if k = b then p.getD a 0 else if k = a then p.getD b 0 else p.getD k 0 := by
  unfold swp
  rw [List.getD_eq_getElem?_getD, List.getElem?_set]
  by_cases h1 : b = k
  · subst h1
    rw [if_pos rfl, if_pos (by simpa using hb), if_pos rfl]; rfl
  · rw [if_neg h1, if_neg (fun e => h1 e.symm), List.getElem?_set]
    by_cases h2 : a = k
    · subst h2
      rw [if_pos rfl, if_pos ha, if_pos rfl]; rfl
    · rw [if_neg h2, if_neg (fun e => h2 e.symm), ← List.getD_eq_getElem?_getD]
theorem mem_getD {q : List Int} {k : Nat} (h : k < q.length) : q.getD k 0 ∈ q := by simp [h]
theorem swp_prm {p : List Int} (h : Prm p) {a b : Nat} (ha : a < p.length) (hb : b < p.length) : Prm (swp p a b) := by
  refine ⟨by rw [swp_len]; exact h.1, fun x hx => ?_⟩
  rw [swp_len] at hx
  obtain ⟨i, hi, e⟩ := pos_ex (h.2 x hx)
  have mk : ∀ k, k < p.length → (swp p a b).getD k 0 = x → (x : Int) ∈ swp p a b := fun k hk e => by
    rw [← e]; exact mem_getD (by rw [swp_len]; exact hk)
  by_cases h1 : i = a
  · subst h1; exact mk b hb (by rw [swp_at p _ b b ha hb hb, if_pos rfl]; exact e)
  · by_cases h2 : i = b
    · subst h2
      by_cases h3 : a = i
      · exact absurd h3.symm h1
      · exact mk a ha (by rw [swp_at p a _ a ha hb ha, if_neg h3, if_pos rfl]; exact e)
    · exact mk i hi (by rw [swp_at p a b i ha hb hi, if_neg h2, if_neg h1]; exact e)
structure SrtOk (p : List Int) (x : Nat) (o : List (Int × Int)) (q : List Int) : Prop where
  prm : Prm q
  len : q.length = p.length
  fix : ∀ y, y < x → q.getD y 0 = y
  few : o.length ≤ x
theorem SrtOk.place {p : List Int} {x : Nat} {o : List (Int × Int)} {q : List Int} (h : SrtOk p x o q) (hx : x < p.length) : ∃ i : Nat, x ≤ i ∧ i < p.length ∧ ax q x = (i : Int) ∧ q.getD i 0 = x ∧ (q.getD x 0 = x ↔ i = x) := by
  obtain ⟨i, h1, h2, h3⟩ := ax_at (h.prm.2 x (by rw [h.len]; exact hx))
  have hl := h.len
  refine ⟨i, ?_, by omega, h2, h3, fun e => ?_, fun e => by rw [← e]; rw [h3]; rw [e]⟩
  · by_cases hlt : i < x
    · have := h.fix i hlt
      omega
    · omega
  · exact (prm_range h.prm).2 i x h1 (by omega) (by rw [h3, e])
theorem SrtOk.next {p : List Int} {x i : Nat} {o : List (Int × Int)} {q : List Int} (h : SrtOk p x o q) (hx : x < p.length) (h1 : x ≤ i) (h2 : i < p.length) (h3 : q.getD i 0 = x) (hne : i ≠ x) : SrtOk p (x + 1) (o ++ [((x : Int), (i : Int))]) (swp q x i) := by
  have hl := h.len
  refine ⟨swp_prm h.prm (by omega) (by omega), by rw [swp_len]; exact hl, fun y hy => ?_, by have := h.few; simp; omega⟩
  rw [swp_at q x i y (by omega) (by omega) (by omega), if_neg (by omega)]
  by_cases hc : y = x
  · rw [if_pos hc, h3, hc]
  · rw [if_neg hc]; exact h.fix y (by omega)
def swOk (n : Nat) (s : Int × Int) : Prop := 0 ≤ s.1 ∧ s.1 < s.2 ∧ s.2 < n
instance (n : Nat) (s : Int × Int) : Decidable (swOk n s) := inferInstanceAs (Decidable (_ ∧ _))
def plcOk (p : List Int) (ss : List (Int × Int)) : Prop := Prm p ∧ ∀ s ∈ ss, swOk p.length s
instance (p : List Int) (ss : List (Int × Int)) : Decidable (plcOk p ss) := inferInstanceAs (Decidable (_ ∧ _))
end Go.Proofs.Ytlfongfhbkefmaa.Ai
namespace Go.Proofs.Ytlfongfhbkefmaa.Ai
open Go
def ords82 : List (Nat × List (Nat × Bool)) := []
def cd82 : Cd := (.seq (.reg [⟨⟨some 2, Op.assign (Operand.const (Value.slice none 0 0)), none⟩, []⟩]) (.seq (.reg [⟨⟨some 3, Op.buildSlice 38 0 #[], none⟩, []⟩,
  ⟨⟨some 4, Op.move (Operand.tmp 0), none⟩, []⟩,
  ⟨⟨some 5, Op.call { callee := (Callee.builtin Builtin.append), args := #[(Operand.tmp 3), (Operand.tmp 4)], argTypes := #[38, 38] }, none⟩, []⟩,
  ⟨⟨some 2, Op.assign (Operand.tmp 5), none⟩, []⟩]) .ret))
theorem sl82 : slim Try.f82.ntmps ords82 (Try.f82.body.getD .skip) = some cd82 := by kernel_rfl
theorem in82 {args : List Value} {H : AH} {R : Value → AH → Prop} (hl : args.length = 1) (h : ∀ (Q : Exit → Sl → AH → Prop), (∀ e s H, endA Try.prog [ResultVar.tmp 2] R e s H → Q e s H) → wpC Try.prog cd82 Q (enterA args) H) : ACalls Try.prog 82 args H R :=
  ACalls.intro (by kernel_rfl) Try.func82 rfl (by kernel_rfl) sl82 hl (of_decide_eq_true (by kernel_rfl)) (by kernel_rfl) h
end Go.Proofs.Ytlfongfhbkefmaa.Ai
namespace Go.Proofs.Ytlfongfhbkefmaa.Ai
open Go Go.RowKit
set_option linter.unusedVariables false
set_option linter.unusedSimpArgs false
set_option maxRecDepth 20000 in
theorem l1Own_c (v : Value) (xs : List Int) (H : AH) (hr : Row 3 H v xs) (hlen : xs.length ≤ 1099511627776) : ACalls Try.prog 82 [v] H fun r H' => Own 3 H H' r xs ∧ H <+: H' := by
  refine in82 rfl ?_
  intro Q hQ
  simp (maxSteps := 1000000) (disch := omega) only [cd82, S, S1, S2, S3, S4, S5, ST, eq_self, reduceIte, reduceCtorEq, Nat.reduceEqDiff, Nat.reduceAdd]
  have hp := List.prefix_append H [AObj.cells [] 3 false]
  have ho : Own 3 H (H ++ [AObj.cells [] 3 false]) (.slice (some ⟨H.length, 0, none⟩) 0 0) [] := .inr ⟨H.length, rfl, Nat.le_refl _, at_new ..⟩
  obtain ⟨v', H2, k1, k2, k3, _⟩ := ho.app (P := Try.prog) (t := 38) Try.underlying38 cs3 (by rw [by3]; decide) zk3 (hr.pre hp) hp (by simp; omega)
  simp (maxSteps := 1000000) (disch := omega) only [k1, S, S1, S2, S3, S4, S5, ST, eq_self, reduceIte, reduceCtorEq, Nat.reduceEqDiff, Nat.reduceAdd]
  refine hQ _ _ _ ?_
  simp (maxSteps := 1000000) (disch := omega) only [k2.row.tup, S, S1, S2, S3, S4, S5, ST, eq_self, reduceIte, reduceCtorEq, Nat.reduceEqDiff, Nat.reduceAdd]
  exact ⟨k2, k3⟩
end Go.Proofs.Ytlfongfhbkefmaa.Ai
namespace Go.Proofs.Ytlfongfhbkefmaa.Ai
open Go
def ords188 : List (Nat × List (Nat × Bool)) := [(7, [(0, false), (1, false), (2, false), (3, false), (4, false), (5, false), (6, false), (7, false), (8, false), (9, false), (10, false), (11, false), (12, false), (13, false), (14, false), (15, false), (16, false), (17, false), (18, false), (19, false), (20, false), (21, false), (22, true), (23, false), (24, false)]), (8, [(0, false), (1, false), (2, false), (3, false), (5, false), (6, false), (7, false), (8, false), (9, false), (4, true), (10, true), (11, true), (12, true), (13, true)])]
def cd188 : Cd := (.seq (.reg [⟨⟨some 6, Op.assign (Operand.const (Value.slice none 0 0)), none⟩, []⟩]) (.seq (.seq (.reg [⟨⟨some 9, Op.move (Operand.tmp 2), none⟩, []⟩,
  ⟨⟨some 10, Op.call { callee := (Callee.builtin Builtin.len), args := #[(Operand.tmp 9)], argTypes := #[38] }, none⟩, []⟩,
  ⟨⟨some 11, Op.move (Operand.tmp 0), none⟩, []⟩,
  ⟨⟨some 12, Op.binOp BinOp.sub 3 (Operand.tmp 11) (Operand.const (Value.int IntKind.i64 3)) 3, none⟩, []⟩,
  ⟨⟨some 13, Op.binOp BinOp.eql 3 (Operand.tmp 10) (Operand.tmp 12) 3, none⟩, []⟩]) (.cond (Operand.tmp 13) (.seq (.reg [⟨⟨some 14, Op.move (Operand.tmp 2), none⟩, []⟩,
  ⟨⟨some 15, Op.buildSlice 26 1 #[(0, (Operand.tmp 14))], none⟩, []⟩,
  ⟨⟨some 6, Op.assign (Operand.tmp 15), none⟩, []⟩]) .ret) .skip)) (.seq (.reg [⟨⟨some 16, Op.buildSlice 26 0 #[], none⟩, []⟩,
  ⟨⟨some 7, Op.assign (Operand.tmp 16), none⟩, []⟩]) (.seq (.seq (.reg [⟨⟨some 8, Op.assign (Operand.const (Value.int IntKind.i64 0)), none⟩, []⟩]) (.block 0 (.loop (.seq (.seq (.reg [⟨⟨some 17, Op.move (Operand.tmp 8), none⟩, []⟩,
  ⟨⟨some 18, Op.move (Operand.tmp 1), none⟩, []⟩,
  ⟨⟨some 19, Op.call { callee := (Callee.builtin Builtin.len), args := #[(Operand.tmp 18)], argTypes := #[38] }, none⟩, []⟩,
  ⟨⟨some 20, Op.binOp BinOp.lss 3 (Operand.tmp 17) (Operand.tmp 19) 3, none⟩, []⟩]) (.cond (Operand.tmp 20) .skip (.exit 0))) (.seq (.block 1 (.seq (.seq (.reg [⟨⟨some 23, Op.move (Operand.tmp 2), none⟩, []⟩,
  ⟨⟨some 24, Op.call { callee := (Callee.builtin Builtin.len), args := #[(Operand.tmp 23)], argTypes := #[38] }, none⟩, []⟩,
  ⟨⟨some 25, Op.binOp BinOp.gtr 3 (Operand.tmp 24) (Operand.const (Value.int IntKind.i64 0)) 3, none⟩, []⟩,
  ⟨⟨some 26, Op.move (Operand.tmp 25), none⟩, []⟩,
  ⟨⟨some 27, Op.move (Operand.tmp 1), some (26, true)⟩, []⟩,
  ⟨⟨some 28, Op.move (Operand.tmp 8), some (26, true)⟩, []⟩,
  ⟨⟨some 29, Op.indexAddr 38 (Operand.tmp 27) (Operand.tmp 28), some (26, true)⟩, []⟩,
  ⟨⟨some 30, Op.load 3 (Operand.tmp 29), some (26, true)⟩, []⟩,
  ⟨⟨some 31, Op.move (Operand.tmp 2), some (26, true)⟩, []⟩,
  ⟨⟨some 32, Op.move (Operand.tmp 2), some (26, true)⟩, []⟩,
  ⟨⟨some 33, Op.call { callee := (Callee.builtin Builtin.len), args := #[(Operand.tmp 32)], argTypes := #[38] }, some (26, true)⟩, []⟩,
  ⟨⟨some 34, Op.binOp BinOp.sub 3 (Operand.tmp 33) (Operand.const (Value.int IntKind.i64 1)) 3, some (26, true)⟩, []⟩,
  ⟨⟨some 35, Op.indexAddr 38 (Operand.tmp 31) (Operand.tmp 34), some (26, true)⟩, []⟩,
  ⟨⟨some 36, Op.load 3 (Operand.tmp 35), some (26, true)⟩, []⟩,
  ⟨⟨some 37, Op.binOp BinOp.leq 3 (Operand.tmp 30) (Operand.tmp 36) 3, some (26, true)⟩, []⟩,
  ⟨⟨some 38, Op.pick (Operand.tmp 26) (Operand.tmp 37) (Operand.const (Value.bool false)), none⟩, []⟩,
  ⟨⟨some 39, Op.move (Operand.tmp 38), none⟩, []⟩,
  ⟨⟨some 40, Op.move (Operand.tmp 2), some (39, false)⟩, []⟩,
  ⟨⟨some 41, Op.move (Operand.tmp 1), some (39, false)⟩, []⟩,
  ⟨⟨some 42, Op.move (Operand.tmp 8), some (39, false)⟩, []⟩,
  ⟨⟨some 43, Op.indexAddr 38 (Operand.tmp 41) (Operand.tmp 42), some (39, false)⟩, []⟩,
  ⟨⟨some 44, Op.load 3 (Operand.tmp 43), some (39, false)⟩, []⟩,
  ⟨⟨some 45, Op.call { callee := (Callee.value (Operand.func 234)), args := #[(Operand.tmp 40), (Operand.tmp 44)], argTypes := #[38, 3] }, some (39, false)⟩, []⟩,
  ⟨⟨some 46, Op.unOp UnOp.not 4 (Operand.tmp 45), some (39, false)⟩, []⟩,
  ⟨⟨some 47, Op.pick (Operand.tmp 39) (Operand.const (Value.bool true)) (Operand.tmp 46), none⟩, []⟩]) (.cond (Operand.tmp 47) (.exit 1) .skip)) (.reg [⟨⟨some 48, Op.move (Operand.tmp 7), none⟩, []⟩,
  ⟨⟨some 49, Op.move (Operand.tmp 0), none⟩, []⟩,
  ⟨⟨some 50, Op.move (Operand.tmp 1), none⟩, []⟩,
  ⟨⟨some 51, Op.move (Operand.tmp 2), none⟩, []⟩,
  ⟨⟨some 53, Op.move (Operand.tmp 1), none⟩, []⟩,
  ⟨⟨some 54, Op.move (Operand.tmp 8), none⟩, []⟩,
  ⟨⟨some 55, Op.indexAddr 38 (Operand.tmp 53) (Operand.tmp 54), none⟩, []⟩,
  ⟨⟨some 56, Op.load 3 (Operand.tmp 55), none⟩, []⟩,
  ⟨⟨some 57, Op.buildSlice 38 1 #[(0, (Operand.tmp 56))], none⟩, []⟩,
  ⟨⟨some 52, Op.call { callee := (Callee.value (Operand.func 82)), args := #[(Operand.tmp 51)], argTypes := #[38] }, none⟩, [⟨some 57, Op.buildSlice 38 1 #[(0, (Operand.tmp 56))], none⟩, ⟨some 56, Op.load 3 (Operand.tmp 55), none⟩]⟩,
  ⟨⟨some 58, Op.call { callee := (Callee.builtin Builtin.append), args := #[(Operand.tmp 52), (Operand.tmp 57)], argTypes := #[38, 38] }, none⟩, []⟩,
  ⟨⟨some 59, Op.call { callee := (Callee.value (Operand.func 188)), args := #[(Operand.tmp 49), (Operand.tmp 50), (Operand.tmp 58)], argTypes := #[3, 38, 38] }, none⟩, []⟩,
  ⟨⟨some 60, Op.call { callee := (Callee.builtin Builtin.append), args := #[(Operand.tmp 48), (Operand.tmp 59)], argTypes := #[26, 26] }, none⟩, []⟩,
  ⟨⟨some 7, Op.assign (Operand.tmp 60), none⟩, []⟩]))) (.reg [⟨⟨some 21, Op.move (Operand.tmp 8), none⟩, []⟩,
  ⟨⟨some 22, Op.binOp BinOp.add 3 (Operand.tmp 21) (Operand.const (Value.int IntKind.i64 1)) 3, none⟩, []⟩,
  ⟨⟨some 8, Op.assign (Operand.tmp 22), none⟩, []⟩])))))) (.seq (.reg [⟨⟨some 61, Op.move (Operand.tmp 7), none⟩, []⟩,
  ⟨⟨some 6, Op.assign (Operand.tmp 61), none⟩, []⟩]) .ret)))))
theorem sl188 : slim Try.f188.ntmps ords188 (Try.f188.body.getD .skip) = some cd188 := by kernel_rfl
theorem in188 {args : List Value} {H : AH} {R : Value → AH → Prop} (hl : args.length = 3) (h : ∀ (Q : Exit → Sl → AH → Prop), (∀ e s H, endA Try.prog [ResultVar.tmp 6] R e s H → Q e s H) → wpC Try.prog cd188 Q (enterA args) H) : ACalls Try.prog 188 args H R :=
  ACalls.intro (by kernel_rfl) Try.func188 rfl (by kernel_rfl) sl188 hl (of_decide_eq_true (by kernel_rfl)) (by kernel_rfl) h
end Go.Proofs.Ytlfongfhbkefmaa.Ai
namespace Go.Proofs.Ytlfongfhbkefmaa.Ai
open Go Go.RowKit
set_option linter.unusedVariables false
set_option linter.unusedSimpArgs false
theorem tlp_zero (all : List Int) (h : Nat) (ed : List Int) : tlp all h 0 ed = [] := rfl
set_option maxRecDepth 20000 in
set_option maxHeartbeats 4000000 in
theorem l8Fill_c (n : Int) (h : Nat) (hn : n - 3 = (h : Int)) (hh : h ≤ 100) (va : Value) (all : List Int) (hN : all.length ≤ 28) (hall : ∀ y ∈ all, 0 ≤ y ∧ y ≤ 100) (hasc : ∀ i j, i < j → j < all.length → all.getD i 0 < all.getD j 0) :
    ∀ (r : Nat) (ed : List Int) (w : Value) (lo : Nat) (H : AH), Row 3 H va all → InI lo H.length 3 H w ed → lo ≤ H.length → r ≤ all.length → ed.length + r ≤ all.length → (∀ y ∈ ed, 0 ≤ y ∧ y ≤ 100) → (ed.length = 0 → r = all.length) → (0 < ed.length → 0 < all.length - r ∧ ed.getD (ed.length - 1) 0 = all.getD (all.length - r - 1) 0) →
      ACalls Try.prog 188 [.int .i64 n, va, w] H fun g H' => InL lo H'.length 38 3 H' g (tex all h r ed) ∧ H <+: H' := by
  intro r
  induction r using Nat.strongRecOn with
  | ind r ih =>
  intro ed w lo H hr hw hlo hrl hel hed hz hlast
  have hrow := hw.row.1
  refine in188 rfl ?_
  intro Q hQ
  simp (maxSteps := 1000000) (disch := omega) only [cd188, hrow.len Try.underlying38, wrap64, S, S1, S2, S3, S4, S5, ST, eq_self, reduceIte, reduceCtorEq, Nat.reduceEqDiff, Nat.reduceAdd]
  refine brD.intro (fun e => ?_) (fun e => ?_)
  · have hek : ed.length = h := by omega
    have ht : tex all h r ed = [ed] := by unfold tex; rw [if_pos hek]
    rw [ht] at hQ
    have hbs : buildSliceA Try.prog 26 1 [(0, w)] H = some (.slice (some ⟨H.length, 0, none⟩) 1 1, H ++ [.cells [w] 38 false]) := by
      obtain ⟨q, eq⟩ := hrow.shape
      rw [eq]
      exact bs1 Try.underlying26 cs38 ze38 ⟨by kernel_rfl, by kernel_rfl⟩ H rfl
    simp (maxSteps := 1000000) (disch := omega) only [hbs, S, S1, S2, S3, S4, S5, ST, eq_self, reduceIte, reduceCtorEq, Nat.reduceEqDiff, Nat.reduceAdd]
    refine hQ _ _ _ ?_
    simp (maxSteps := 1000000) (disch := omega) only [S, S1, S2, S3, S4, S5, ST, eq_self, reduceIte, reduceCtorEq, Nat.reduceEqDiff, Nat.reduceAdd]
    refine ⟨.inr ⟨H.length, [w], rfl, ?_⟩, List.prefix_append _ _⟩
    refine ⟨by omega, by simp, at_new .., by simp, ?_, ?_⟩
    · intro i hi
      have hi0 : i = 0 := by simpa using hi
      subst hi0
      refine ⟨(hw.pre (List.prefix_append H _)).wide (Nat.le_refl _) (by simp), ?_⟩
      rcases hw.at_ with q | q
      · exact .inl q
      · refine .inr ?_
        show rowO w ≠ H.length
        omega
    · intro i j hij hi hj
      simp at hi hj; omega
  have hek : ed.length ≠ h := by omega
  have ht : tex all h r ed = tlp all h r ed := by unfold tex; rw [if_neg hek]
  rw [ht] at hQ
  have u0 := InU.new lo 38 3 H hlo
  have hPr : 2 ^ r ≤ 2 ^ 28 := Nat.pow_le_pow_right (by decide) (by omega)
  have etd : ((ed.length : Int) - 1).toNat = ed.length - 1 := by omega
  simp (maxSteps := 1000000) (disch := omega) only [e, S, S1, S2, S3, S4, S5, ST, eq_self, reduceIte, reduceCtorEq, Nat.reduceEqDiff, Nat.reduceAdd]
  refine LoopH.by (fun m s H' => ∃ i o us L, m + i = all.length ∧ s 0 = .int .i64 n ∧ s 1 = va ∧ s 2 = w ∧ s 7 = .slice (some ⟨o, 0, none⟩) L.length L.length ∧ s 8 = .int .i64 ((i : Nat) : Int) ∧ H.length ≤ o ∧ InU lo H'.length 38 3 H' o us L ∧ L ++ tlp all h (min r m) ed = tlp all h r ed ∧ L.length + 2 ^ (min r m) ≤ 2 ^ r ∧ H <+: H') all.length ?_ ?_
  · refine ⟨0, H.length, [], [], by simp, rfl, rfl, rfl, rfl, rfl, Nat.le_refl _, ?_, ?_, ?_, List.prefix_append _ _⟩
    · simpa using u0
    · rw [Nat.min_eq_left hrl]; rfl
    · rw [Nat.min_eq_left hrl]; simp
  rintro m s H' ⟨i, o, us, L, hm, h0, h1, h2, h7, h8, hoA, hin, hL, hcnt, hp⟩
  have hrH := hr.pre hp
  have wH := hrow.pre hp
  simp (maxSteps := 1000000) (disch := omega) only [h0, h1, h2, h7, h8, hrH.len Try.underlying38, S, S1, S2, S3, S4, S5, ST, eq_self, reduceIte, reduceCtorEq, Nat.reduceEqDiff, Nat.reduceAdd]
  refine brD.intro (fun g => ?_) (fun g => ?_)
  rotate_left
  · have hm0 : m = 0 := by omega
    subst hm0
    rw [Nat.min_eq_right (Nat.zero_le _), tlp_zero, List.append_nil] at hL
    simp (maxSteps := 1000000) (disch := omega) only [h7, S, S1, S2, S3, S4, S5, ST, eq_self, reduceIte, reduceCtorEq, Nat.reduceEqDiff, Nat.reduceAdd]
    refine hQ _ _ _ ?_
    simp (maxSteps := 1000000) (disch := omega) only [h7, S, S1, S2, S3, S4, S5, ST, eq_self, reduceIte, reduceCtorEq, Nat.reduceEqDiff, Nat.reduceAdd]
    rw [← hL]
    exact ⟨hin.inl, hp⟩
  have hi : i < all.length := by omega
  have hdm : all.getD i 0 ∈ all := by simp [hi]
  have hdr := hall _ hdm
  simp (maxSteps := 1000000) (disch := omega) only [h0, h1, h2, h7, h8, wH.len Try.underlying38, S, S1, S2, S3, S4, S5, ST, eq_self, reduceIte, reduceCtorEq, Nat.reduceEqDiff, Nat.reduceAdd]
  refine brD.intro (fun g3 => ?_) (fun g3 => ?_)
  · obtain ⟨hl1, hl2⟩ := hlast (by omega)
    have hlc := wH.cell (show ed.length - 1 < ed.length by omega)
    rw [hl2] at hlc
    have hdc0 := hrH.cell hi
    simp (maxSteps := 1000000) (disch := omega) only [g3, h0, h1, h2, h7, h8, etd, wH.len Try.underlying38, wH.ix Try.underlying38 cs3, hrH.ix Try.underlying38 cs3, hlc, hdc0, Int.toNat_natCast, wrap64, S, S1, S2, S3, S4, S5, ST, eq_self, reduceIte, reduceCtorEq, Nat.reduceEqDiff, Nat.reduceAdd]
    refine brD.intro (fun g4 => ?_) (fun g4 => ?_)
    · have hlt : i < all.length - r := by
        apply Decidable.byContradiction
        intro hc
        have := hasc (all.length - r - 1) i (by omega) hi
        omega
      have hm1 : min r m = r := Nat.min_eq_left (by omega)
      have hm2 : min r (m - 1) = r := Nat.min_eq_left (by omega)
      rw [hm1] at hL hcnt
      simp (maxSteps := 1000000) (disch := omega) only [g3, g4, h0, h1, h2, h7, h8, wrap64, S, S1, S2, S3, S4, S5, ST, eq_self, reduceIte, reduceCtorEq, Nat.reduceEqDiff, Nat.reduceAdd]
      refine ⟨m - 1, by omega, i + 1, o, us, L, by omega, ?_⟩
      rw [hm2]
      (repeat' first | exact hin | exact hL | exact hcnt | exact hp | apply And.intro) <;> first | (simp only [Value.int.injEq, true_and]; omega) | omega | rfl | assumption | (simp; done) | (simp; omega)
    · have hB0 : all.length - r ≤ i := by
        apply Decidable.byContradiction
        intro hc
        by_cases he : i = all.length - r - 1
        · rw [he] at g4; omega
        · have := hasc i (all.length - r - 1) (by omega) (by omega)
          omega
      obtain ⟨j, rfl⟩ : ∃ j, m = j + 1 := ⟨m - 1, by omega⟩
      have hmr : min r (j + 1) = j + 1 := Nat.min_eq_right (by omega)
      have hmr2 : min r j = j := Nat.min_eq_right (by omega)
      rw [hmr] at hL hcnt
      have hNi : all.length - (j + 1) = i := by omega
      have hstep := tlp_step all h j ed
      rw [hNi] at hstep
      have hP : 2 ^ (j + 1) = 2 ^ j + 2 ^ j := by rw [Nat.pow_succ]; omega
      have hpi : 1 ≤ 2 ^ j := Nat.one_le_two_pow
      generalize hd : all.getD i 0 = d at *
      have hdc := hrH.cell hi
      rw [hd] at hdc
      simp (maxSteps := 1000000) (disch := omega) only [g3, g4, h0, h1, h2, h7, h8, hrH.ix Try.underlying38 cs3, hdc, Int.toNat_natCast, S, S1, S2, S3, S4, S5, ST, eq_self, reduceIte, reduceCtorEq, Nat.reduceEqDiff, Nat.reduceAdd]
      refine CallH.by (l8Apart_c w ed d H' wH (by omega) (fun y hy => by have := hed y hy; exact ⟨by omega, by omega⟩) ⟨by omega, by omega⟩) ?_
      rintro _ _ ⟨rfl, rfl⟩
      have hap : (!ed.any fun y => decide (Crs y d)) = apB ed d := rfl
      rw [hap]
      cases hq : apB ed d
      · rw [hq] at hstep
        simp only [Bool.false_eq_true, if_false, List.nil_append] at hstep
        rw [hstep] at hL
        simp (maxSteps := 1000000) (disch := omega) only [g3, g4, h0, h1, h2, h7, h8, wrap64, S, S1, S2, S3, S4, S5, ST, eq_self, reduceIte, reduceCtorEq, Nat.reduceEqDiff, Nat.reduceAdd]
        refine ⟨j, by omega, i + 1, o, us, L, by omega, ?_⟩
        rw [hmr2]
        have f1 : L.length + 2 ^ j ≤ 2 ^ r := by omega
        (repeat' first | exact hin | exact hL | exact f1 | exact hp | apply And.intro) <;> first | (simp only [Value.int.injEq, true_and]; omega) | omega | rfl | assumption | (simp; done) | (simp; omega)
      · rw [hq, if_pos rfl] at hstep
        simp (maxSteps := 1000000) (disch := omega) only [g3, g4, h0, h1, h2, h7, h8, hrH.ix Try.underlying38 cs3, hdc, Int.toNat_natCast, S, S1, S2, S3, S4, S5, ST, eq_self, reduceIte, reduceCtorEq, Nat.reduceEqDiff, Nat.reduceAdd]
        generalize hB : H' ++ [AObj.cells [.int .i64 d] 3 false] = B
        have pB : H' <+: B := by rw [← hB]; exact List.prefix_append _ _
        have cB : B[H'.length]? = some (.cells [.int .i64 d] 3 false) := by rw [← hB]; exact at_new ..
        have lB : B.length = H'.length + 1 := by rw [← hB]; simp
        refine CallH.by (l1Own_c w ed B (wH.pre pB) (by omega)) ?_
        rintro c C ⟨hc, pC⟩
        have cC := pre_at pC cB
        have hrC := hrH.pre (pB.trans pC)
        have hdC := hrC.cell hi
        rw [hd] at hdC
        have hx : Row 3 C (.slice (some ⟨H'.length, 0, none⟩) 1 1) [d] := .inr ⟨H'.length, 0, [.int .i64 d], false, rfl, cC, by simp, rfl⟩
        obtain ⟨v', H2, k1, k2, k3, k4, k5⟩ := hc.app (P := Try.prog) Try.underlying38 cs3 (by rw [by3]; decide) zk3 hx pC (by simp; omega)
        have pH2 := pB.trans k3
        simp (maxSteps := 1000000) (disch := omega) only [g3, g4, h0, h1, h2, h7, h8, hdC, cC, cB, k1, S, S1, S2, S3, S4, S5, ST, eq_self, reduceIte, reduceCtorEq, Nat.reduceEqDiff, Nat.reduceAdd]
        have hrec := ih j (by omega) (ed ++ [d]) v' B.length H2 (hrH.pre pH2) (InI.of k2.mine) k3.length_le (by omega) (by simp; omega) (fun y hy => by
          rcases List.mem_append.1 hy with hy | hy
          · exact hed y hy
          · simp at hy; rw [hy]; exact hdr) (fun h0 => by simp at h0) (fun _ => ⟨by omega, by
            have e1 : (ed ++ [d]).getD ((ed ++ [d]).length - 1) 0 = d := by
              rw [List.length_append, List.getD_eq_getElem?_getD, List.getElem?_append_right (by simp)]; simp
            have e2 : all.length - j - 1 = i := by omega
            rw [e1, e2, hd]⟩)
        refine CallH.by hrec ?_
        rintro gL H3 ⟨hgL, p3⟩
        have htl : (tex all h j (ed ++ [d])).length ≤ 2 ^ j := by
          unfold tex
          split
          · simp; exact hpi
          · have := tex_len all h j (ed ++ [d]); omega
        have pH3 := pH2.trans p3
        have l3 := pH3.length_le
        obtain ⟨v2, H5, o', us', q1, q2, q3, q4, q5, q6⟩ := (hin.pre pH3).appL (P := Try.prog) (t2 := 26) Try.underlying26 cs38 (by rw [by38]; decide) zk38 (hgL.wide (lo' := H'.length) (by omega) (Nat.le_refl _)) (by have := hp.length_le; omega) l3 (Nat.le_refl _) (by omega)
        have f1 : H <+: H5 := prefix_of fun j' x hx' => q5 j' x (by have := at_lt hx'; omega) (pre_at (hp.trans pH3) hx')
        have f2 : (L ++ tex all h j (ed ++ [d])) ++ tlp all h j ed = tlp all h r ed := by rw [← hL, hstep, List.append_assoc]
        have f3 : (L ++ tex all h j (ed ++ [d])).length + 2 ^ j ≤ 2 ^ r := by rw [List.length_append]; omega
        have f4 : H.length ≤ o' := by have := (hp.trans pH3).length_le; omega
        simp (maxSteps := 1000000) (disch := omega) only [h0, h1, h2, h7, h8, q1, q2, wrap64, S, S1, S2, S3, S4, S5, ST, eq_self, reduceIte, reduceCtorEq, Nat.reduceEqDiff, Nat.reduceAdd]
        refine ⟨j, by omega, i + 1, o', us', L ++ tex all h j (ed ++ [d]), by omega, ?_⟩
        rw [hmr2]
        (repeat' first | exact f1 | exact f2 | exact f3 | exact f4 | exact q3 | apply And.intro) <;> first | (simp only [Value.int.injEq, true_and]; omega) | omega | rfl | assumption | (simp; done) | (simp; omega)
  · have hz' := hz (by omega)
    have hB0 : all.length - r ≤ i := by omega
    obtain ⟨j, rfl⟩ : ∃ j, m = j + 1 := ⟨m - 1, by omega⟩
    have hmr : min r (j + 1) = j + 1 := Nat.min_eq_right (by omega)
    have hmr2 : min r j = j := Nat.min_eq_right (by omega)
    rw [hmr] at hL hcnt
    have hNi : all.length - (j + 1) = i := by omega
    have hstep := tlp_step all h j ed
    rw [hNi] at hstep
    have hP : 2 ^ (j + 1) = 2 ^ j + 2 ^ j := by rw [Nat.pow_succ]; omega
    have hpi : 1 ≤ 2 ^ j := Nat.one_le_two_pow
    generalize hd : all.getD i 0 = d at *
    have hdc := hrH.cell hi
    rw [hd] at hdc
    simp (maxSteps := 1000000) (disch := omega) only [g3, h0, h1, h2, h7, h8, hrH.ix Try.underlying38 cs3, hdc, Int.toNat_natCast, S, S1, S2, S3, S4, S5, ST, eq_self, reduceIte, reduceCtorEq, Nat.reduceEqDiff, Nat.reduceAdd]
    refine CallH.by (l8Apart_c w ed d H' wH (by omega) (fun y hy => by have := hed y hy; exact ⟨by omega, by omega⟩) ⟨by omega, by omega⟩) ?_
    rintro _ _ ⟨rfl, rfl⟩
    have hap : (!ed.any fun y => decide (Crs y d)) = apB ed d := rfl
    rw [hap]
    cases hq : apB ed d
    · rw [hq] at hstep
      simp only [Bool.false_eq_true, if_false, List.nil_append] at hstep
      rw [hstep] at hL
      simp (maxSteps := 1000000) (disch := omega) only [g3, h0, h1, h2, h7, h8, wrap64, S, S1, S2, S3, S4, S5, ST, eq_self, reduceIte, reduceCtorEq, Nat.reduceEqDiff, Nat.reduceAdd]
      refine ⟨j, by omega, i + 1, o, us, L, by omega, ?_⟩
      rw [hmr2]
      have f1 : L.length + 2 ^ j ≤ 2 ^ r := by omega
      (repeat' first | exact hin | exact hL | exact f1 | exact hp | apply And.intro) <;> first | (simp only [Value.int.injEq, true_and]; omega) | omega | rfl | assumption | (simp; done) | (simp; omega)
    · rw [hq, if_pos rfl] at hstep
      simp (maxSteps := 1000000) (disch := omega) only [g3, h0, h1, h2, h7, h8, hrH.ix Try.underlying38 cs3, hdc, Int.toNat_natCast, S, S1, S2, S3, S4, S5, ST, eq_self, reduceIte, reduceCtorEq, Nat.reduceEqDiff, Nat.reduceAdd]
      generalize hB : H' ++ [AObj.cells [.int .i64 d] 3 false] = B
      have pB : H' <+: B := by rw [← hB]; exact List.prefix_append _ _
      have cB : B[H'.length]? = some (.cells [.int .i64 d] 3 false) := by rw [← hB]; exact at_new ..
      have lB : B.length = H'.length + 1 := by rw [← hB]; simp
      refine CallH.by (l1Own_c w ed B (wH.pre pB) (by omega)) ?_
      rintro c C ⟨hc, pC⟩
      have cC := pre_at pC cB
      have hrC := hrH.pre (pB.trans pC)
      have hdC := hrC.cell hi
      rw [hd] at hdC
      have hx : Row 3 C (.slice (some ⟨H'.length, 0, none⟩) 1 1) [d] := .inr ⟨H'.length, 0, [.int .i64 d], false, rfl, cC, by simp, rfl⟩
      obtain ⟨v', H2, k1, k2, k3, k4, k5⟩ := hc.app (P := Try.prog) Try.underlying38 cs3 (by rw [by3]; decide) zk3 hx pC (by simp; omega)
      have pH2 := pB.trans k3
      simp (maxSteps := 1000000) (disch := omega) only [g3, h0, h1, h2, h7, h8, hdC, cC, cB, k1, S, S1, S2, S3, S4, S5, ST, eq_self, reduceIte, reduceCtorEq, Nat.reduceEqDiff, Nat.reduceAdd]
      have hrec := ih j (by omega) (ed ++ [d]) v' B.length H2 (hrH.pre pH2) (InI.of k2.mine) k3.length_le (by omega) (by simp; omega) (fun y hy => by
        rcases List.mem_append.1 hy with hy | hy
        · exact hed y hy
        · simp at hy; rw [hy]; exact hdr) (fun h0 => by simp at h0) (fun _ => ⟨by omega, by
          have e1 : (ed ++ [d]).getD ((ed ++ [d]).length - 1) 0 = d := by
            rw [List.length_append, List.getD_eq_getElem?_getD, List.getElem?_append_right (by simp)]; simp
          have e2 : all.length - j - 1 = i := by omega
          rw [e1, e2, hd]⟩)
      refine CallH.by hrec ?_
      rintro gL H3 ⟨hgL, p3⟩
      have htl : (tex all h j (ed ++ [d])).length ≤ 2 ^ j := by
        unfold tex
        split
        · simp; exact hpi
        · have := tex_len all h j (ed ++ [d]); omega
      have pH3 := pH2.trans p3
      have l3 := pH3.length_le
      obtain ⟨v2, H5, o', us', q1, q2, q3, q4, q5, q6⟩ := (hin.pre pH3).appL (P := Try.prog) (t2 := 26) Try.underlying26 cs38 (by rw [by38]; decide) zk38 (hgL.wide (lo' := H'.length) (by omega) (Nat.le_refl _)) (by have := hp.length_le; omega) l3 (Nat.le_refl _) (by omega)
      have f1 : H <+: H5 := prefix_of fun j' x hx' => q5 j' x (by have := at_lt hx'; omega) (pre_at (hp.trans pH3) hx')
      have f2 : (L ++ tex all h j (ed ++ [d])) ++ tlp all h j ed = tlp all h r ed := by rw [← hL, hstep, List.append_assoc]
      have f3 : (L ++ tex all h j (ed ++ [d])).length + 2 ^ j ≤ 2 ^ r := by rw [List.length_append]; omega
      have f4 : H.length ≤ o' := by have := (hp.trans pH3).length_le; omega
      simp (maxSteps := 1000000) (disch := omega) only [h0, h1, h2, h7, h8, q1, q2, wrap64, S, S1, S2, S3, S4, S5, ST, eq_self, reduceIte, reduceCtorEq, Nat.reduceEqDiff, Nat.reduceAdd]
      refine ⟨j, by omega, i + 1, o', us', L ++ tex all h j (ed ++ [d]), by omega, ?_⟩
      rw [hmr2]
      (repeat' first | exact f1 | exact f2 | exact f3 | exact f4 | exact q3 | apply And.intro) <;> first | (simp only [Value.int.injEq, true_and]; omega) | omega | rfl | assumption | (simp; done) | (simp; omega)
end Go.Proofs.Ytlfongfhbkefmaa.Ai
namespace Go.Proofs.Ytlfongfhbkefmaa.Ai
open Go
def ords185 : List (Nat × List (Nat × Bool)) := []
def cd185 : Cd := (.seq (.reg [⟨⟨some 4, Op.assign (Operand.const (Value.int IntKind.i64 0)), none⟩, []⟩]) (.seq (.seq (.reg [⟨⟨some 6, Op.move (Operand.tmp 0), none⟩, []⟩,
  ⟨⟨some 7, Op.call { callee := (Callee.builtin Builtin.len), args := #[(Operand.tmp 6)], argTypes := #[26] }, none⟩, []⟩,
  ⟨⟨some 8, Op.move (Operand.const (Value.int IntKind.i64 0)), none⟩, []⟩]) (.block 0 (.loop (.seq (.reg [⟨⟨some 9, Op.binOp BinOp.lss 3 (Operand.tmp 8) (Operand.tmp 7) 3, none⟩, []⟩]) (.seq (.cond (Operand.tmp 9) .skip (.exit 0)) (.seq (.block 1 (.seq (.reg [⟨⟨some 10, Op.move (Operand.tmp 8), none⟩, []⟩,
  ⟨⟨some 5, Op.assign (Operand.tmp 10), none⟩, []⟩]) (.seq (.reg [⟨⟨some 11, Op.move (Operand.tmp 1), none⟩, []⟩,
  ⟨⟨some 12, Op.move (Operand.tmp 0), none⟩, []⟩,
  ⟨⟨some 13, Op.move (Operand.tmp 5), none⟩, []⟩,
  ⟨⟨some 14, Op.indexAddr 26 (Operand.tmp 12) (Operand.tmp 13), none⟩, []⟩,
  ⟨⟨some 15, Op.load 38 (Operand.tmp 14), none⟩, []⟩,
  ⟨⟨some 16, Op.call { callee := (Callee.value (Operand.tmp 11)), args := #[(Operand.tmp 15)], argTypes := #[38] }, none⟩, []⟩]) (.cond (Operand.tmp 16) (.seq (.reg [⟨⟨some 17, Op.move (Operand.tmp 5), none⟩, []⟩,
  ⟨⟨some 4, Op.assign (Operand.tmp 17), none⟩, []⟩]) .ret) .skip)))) (.reg [⟨⟨some 18, Op.binOp BinOp.add 3 (Operand.tmp 8) (Operand.const (Value.int IntKind.i64 1)) 3, none⟩, []⟩,
  ⟨⟨some 8, Op.move (Operand.tmp 18), none⟩, []⟩]))))))) (.seq (.reg [⟨⟨some 4, Op.assign (Operand.const (Value.int IntKind.i64 (-1))), none⟩, []⟩]) .ret)))
theorem sl185 : slim Try.f185.ntmps ords185 (Try.f185.body.getD .skip) = some cd185 := by kernel_rfl
theorem in185 {args : List Value} {H : AH} {R : Value → AH → Prop} (hl : args.length = 2) (h : ∀ (Q : Exit → Sl → AH → Prop), (∀ e s H, endA Try.prog [ResultVar.tmp 4] R e s H → Q e s H) → wpC Try.prog cd185 Q (enterA args) H) : ACalls Try.prog 185 args H R :=
  ACalls.intro (by kernel_rfl) Try.func185 rfl (by kernel_rfl) sl185 hl (of_decide_eq_true (by kernel_rfl)) (by kernel_rfl) h
def ords193 : List (Nat × List (Nat × Bool)) := []
def cd193 : Cd := (.seq (.reg [⟨⟨some 4, Op.assign (Operand.const (Value.bool false)), none⟩, []⟩]) (.seq (.reg [⟨⟨some 5, Op.move (Operand.tmp 0), none⟩, []⟩,
  ⟨⟨some 6, Op.move (Operand.tmp 1), none⟩, []⟩,
  ⟨⟨some 7, Op.call { callee := (Callee.value (Operand.func 185)), args := #[(Operand.tmp 5), (Operand.tmp 6)], argTypes := #[26, 69] }, none⟩, []⟩,
  ⟨⟨some 8, Op.binOp BinOp.geq 3 (Operand.tmp 7) (Operand.const (Value.int IntKind.i64 0)) 3, none⟩, []⟩,
  ⟨⟨some 4, Op.assign (Operand.tmp 8), none⟩, []⟩]) .ret))
theorem sl193 : slim Try.f193.ntmps ords193 (Try.f193.body.getD .skip) = some cd193 := by kernel_rfl
theorem in193 {args : List Value} {H : AH} {R : Value → AH → Prop} (hl : args.length = 2) (h : ∀ (Q : Exit → Sl → AH → Prop), (∀ e s H, endA Try.prog [ResultVar.tmp 4] R e s H → Q e s H) → wpC Try.prog cd193 Q (enterA args) H) : ACalls Try.prog 193 args H R :=
  ACalls.intro (by kernel_rfl) Try.func193 rfl (by kernel_rfl) sl193 hl (of_decide_eq_true (by kernel_rfl)) (by kernel_rfl) h
end Go.Proofs.Ytlfongfhbkefmaa.Ai
namespace Go.Proofs.Ytlfongfhbkefmaa.Ai
open Go Go.RowKit
set_option linter.unusedVariables false
set_option linter.unusedSimpArgs false
/-- the place of the first that is true, or -1 -/
def idxB : List Bool → Nat → Int
  | [], _ => -1
  | b :: bs, k => if b = true then (k : Int) else idxB bs (k + 1)
theorem idxB_step (bs : List Bool) (i : Nat) (hi : i < bs.length) : idxB (bs.drop i) i = if bs.getD i false = true then (i : Int) else idxB (bs.drop (i + 1)) (i + 1) := by
  rw [List.drop_eq_getElem_cons hi]
  simp [idxB, hi]
theorem idxB_any : ∀ (bs : List Bool) (k : Nat), (0 ≤ idxB bs k) ↔ bs.any id = true
  | [], k => by simp [idxB]
  | b :: bs, k => by
    simp only [idxB, List.any_cons, id]
    cases b with
    | true => simp
    | false => simp only [Bool.false_eq_true, if_false, Bool.false_or]; exact idxB_any bs (k + 1)
theorem IndexFuncL_c (v : Value) (us : List Value) (bs : List Bool) (g : FuncId) (caps : List Value) (H : AH) (hr : RowV 38 H v us) (hlen : us.length ≤ 1099511627776) (hb : bs.length = us.length)
    (hp : ∀ i, i < us.length → ∀ H1, H <+: H1 → ACalls Try.prog g (us.getD i undef :: caps) H1 fun r H' => r = .bool (bs.getD i false) ∧ H1 <+: H') :
    ACalls Try.prog 185 [v, .func (.func g) #[] (List.toArray caps)] H fun r H' => r = .int .i64 (idxB bs 0) ∧ H <+: H' := by
  refine in185 rfl ?_
  intro Q hQ
  simp (maxSteps := 1000000) (disch := omega) only [cd185, hr.len Try.underlying26, S, S1, S2, S3, S4, S5, ST, eq_self, reduceIte, reduceCtorEq, Nat.reduceEqDiff, Nat.reduceAdd]
  refine LoopH.by (fun m s H' => ∃ i, m + i = us.length ∧ s 0 = v ∧ s 1 = .func (.func g) #[] (List.toArray caps) ∧ s 8 = .int .i64 ((i : Nat) : Int) ∧ s 7 = .int .i64 (us.length : Int) ∧ H <+: H' ∧ idxB bs 0 = idxB (bs.drop i) i) us.length ?_ ?_
  · exact ⟨0, by simp, rfl, rfl, rfl, rfl, List.prefix_refl _, by simp⟩
  · rintro m s H' ⟨i, hm, h0, h1, h8, h7, hpp, hn⟩
    have hr' := hr.pre hpp
    simp (maxSteps := 1000000) (disch := omega) only [h0, h1, h8, h7, S, S1, S2, S3, S4, S5, ST, eq_self, reduceIte, reduceCtorEq, Nat.reduceEqDiff, Nat.reduceAdd]
    refine brD.intro (fun g => ?_) (fun g => ?_) <;> simp (maxSteps := 1000000) (disch := omega) only [h0, h1, h8, h7, hr'.ix Try.underlying26 cs38, hr'.cell, Int.toNat_natCast, S, S1, S2, S3, S4, S5, ST, eq_self, reduceIte, reduceCtorEq, Nat.reduceEqDiff, Nat.reduceAdd]
    · have hi : i < us.length := by omega
      rw [idxB_step bs i (by omega)] at hn
      refine CallH.by (hp i hi H' hpp) ?_
      rintro _ H2 ⟨rfl, hp2⟩
      simp (maxSteps := 1000000) (disch := omega) only [S, S1, S2, S3, S4, S5, ST, eq_self, reduceIte, reduceCtorEq, Nat.reduceEqDiff, Nat.reduceAdd]
      refine brH.intro (fun e => ?_) (fun e => ?_) <;> simp (maxSteps := 1000000) (disch := omega) only [h0, h1, h8, h7, wrap64, S, S1, S2, S3, S4, S5, ST, eq_self, reduceIte, reduceCtorEq, Nat.reduceEqDiff, Nat.reduceAdd]
      · refine hQ _ _ _ ?_
        simp (maxSteps := 1000000) (disch := omega) only [S, S1, S2, S3, S4, S5, ST, eq_self, reduceIte, reduceCtorEq, Nat.reduceEqDiff, Nat.reduceAdd]
        rw [hn, if_pos e]
        exact ⟨rfl, hpp.trans hp2⟩
      · rw [if_neg (by rw [e]; decide)] at hn
        exact ⟨m - 1, by omega, i + 1, by omega, by simp, hpp.trans hp2, hn⟩
    · refine hQ _ _ _ ?_
      simp (maxSteps := 1000000) (disch := omega) only [S, S1, S2, S3, S4, S5, ST, eq_self, reduceIte, reduceCtorEq, Nat.reduceEqDiff, Nat.reduceAdd]
      rw [hn, List.drop_of_length_le (by omega)]
      exact ⟨rfl, hpp⟩
theorem ContainsFuncL_c (v : Value) (us : List Value) (bs : List Bool) (g : FuncId) (caps : List Value) (H : AH) (hr : RowV 38 H v us) (hlen : us.length ≤ 1099511627776) (hb : bs.length = us.length)
    (hp : ∀ i, i < us.length → ∀ H1, H <+: H1 → ACalls Try.prog g (us.getD i undef :: caps) H1 fun r H' => r = .bool (bs.getD i false) ∧ H1 <+: H') :
    ACalls Try.prog 193 [v, .func (.func g) #[] (List.toArray caps)] H fun r H' => r = .bool (bs.any id) ∧ H <+: H' := by
  refine in193 rfl ?_
  intro Q hQ
  simp (maxSteps := 1000000) (disch := omega) only [cd193, S, S1, S2, S3, S4, S5, ST, eq_self, reduceIte, reduceCtorEq, Nat.reduceEqDiff, Nat.reduceAdd]
  refine CallH.by (IndexFuncL_c v us bs g caps H hr hlen hb hp) ?_
  rintro _ H1 ⟨rfl, hp1⟩
  simp (maxSteps := 1000000) (disch := omega) only [S, S1, S2, S3, S4, S5, ST, eq_self, reduceIte, reduceCtorEq, Nat.reduceEqDiff, Nat.reduceAdd]
  refine hQ _ _ _ ?_
  simp (maxSteps := 1000000) (disch := omega) only [S, S1, S2, S3, S4, S5, ST, eq_self, reduceIte, reduceCtorEq, Nat.reduceEqDiff, Nat.reduceAdd]
  refine ⟨?_, hp1⟩
  have := idxB_any bs 0
  by_cases h : 0 ≤ idxB bs 0
  · simp [h, this.1 h]
  · have h2 : bs.any id = false := by cases e : bs.any id <;> first | rfl | exact absurd (this.2 e) h
    simp [h, h2]
end Go.Proofs.Ytlfongfhbkefmaa.Ai
namespace Go.Proofs.Ytlfongfhbkefmaa.Ai
open Go
def ords116 : List (Nat × List (Nat × Bool)) := []
def cd116 : Cd := (.seq (.reg [⟨⟨some 4, Op.assign (Operand.const (Value.bool false)), none⟩, []⟩]) (.seq (.reg [⟨⟨some 5, Op.move (Operand.tmp 0), none⟩, []⟩,
  ⟨⟨some 6, Op.call { callee := (Callee.value (Operand.func 186)), args := #[(Operand.tmp 5)], argTypes := #[3] }, none⟩, []⟩,
  ⟨⟨some 7, Op.move (Operand.tmp 6), none⟩, []⟩,
  ⟨⟨some 8, Op.move (Operand.tmp 0), some (7, true)⟩, []⟩,
  ⟨⟨some 9, Op.move (Operand.tmp 1), some (7, true)⟩, []⟩,
  ⟨⟨some 10, Op.call { callee := (Callee.value (Operand.func 187)), args := #[(Operand.tmp 8), (Operand.tmp 9)], argTypes := #[3, 38] }, some (7, true)⟩, []⟩,
  ⟨⟨some 11, Op.pick (Operand.tmp 7) (Operand.tmp 10) (Operand.const (Value.bool false)), none⟩, []⟩,
  ⟨⟨some 4, Op.assign (Operand.tmp 11), none⟩, []⟩]) .ret))
theorem sl116 : slim Try.f116.ntmps ords116 (Try.f116.body.getD .skip) = some cd116 := by kernel_rfl
theorem in116 {args : List Value} {H : AH} {R : Value → AH → Prop} (hl : args.length = 2) (h : ∀ (Q : Exit → Sl → AH → Prop), (∀ e s H, endA Try.prog [ResultVar.tmp 4] R e s H → Q e s H) → wpC Try.prog cd116 Q (enterA args) H) : ACalls Try.prog 116 args H R :=
  ACalls.intro (by kernel_rfl) Try.func116 rfl (by kernel_rfl) sl116 hl (of_decide_eq_true (by kernel_rfl)) (by kernel_rfl) h
def ords194 : List (Nat × List (Nat × Bool)) := []
def cd194 : Cd := (.seq (.reg [⟨⟨some 3, Op.assign (Operand.const (Value.bool false)), none⟩, []⟩]) (.seq (.reg [⟨⟨some 4, Op.load 3 (Operand.tmp 1), none⟩, []⟩,
  ⟨⟨some 5, Op.move (Operand.tmp 0), none⟩, []⟩,
  ⟨⟨some 6, Op.call { callee := (Callee.value (Operand.func 195)), args := #[(Operand.tmp 4), (Operand.tmp 5)], argTypes := #[3, 38] }, none⟩, []⟩,
  ⟨⟨some 7, Op.unOp UnOp.not 4 (Operand.tmp 6), none⟩, []⟩,
  ⟨⟨some 3, Op.assign (Operand.tmp 7), none⟩, []⟩]) .ret))
theorem sl194 : slim Try.f194.ntmps ords194 (Try.f194.body.getD .skip) = some cd194 := by kernel_rfl
theorem in194 {args : List Value} {H : AH} {R : Value → AH → Prop} (hl : args.length = 2) (h : ∀ (Q : Exit → Sl → AH → Prop), (∀ e s H, endA Try.prog [ResultVar.tmp 3] R e s H → Q e s H) → wpC Try.prog cd194 Q (enterA args) H) : ACalls Try.prog 194 args H R :=
  ACalls.intro (by kernel_rfl) Try.func194 rfl (by kernel_rfl) sl194 hl (of_decide_eq_true (by kernel_rfl)) (by kernel_rfl) h
def ords120 : List (Nat × List (Nat × Bool)) := []
def cd120 : Cd := (.seq (.reg [⟨⟨some 2, Op.box 3 (Operand.tmp 0), none⟩, []⟩,
  ⟨⟨some 4, Op.assign (Operand.const (Value.bool false)), none⟩, []⟩]) (.seq (.reg [⟨⟨some 5, Op.load 3 (Operand.tmp 2), none⟩, []⟩,
  ⟨⟨some 6, Op.call { callee := (Callee.value (Operand.func 192)), args := #[(Operand.tmp 5)], argTypes := #[3] }, none⟩, []⟩,
  ⟨⟨some 7, Op.move (Operand.tmp 6), none⟩, []⟩,
  ⟨⟨some 8, Op.move (Operand.tmp 1), some (7, true)⟩, []⟩,
  ⟨⟨some 9, Op.makeFunc (Fn.func 194) #[] #[(Operand.tmp 2)], some (7, true)⟩, []⟩,
  ⟨⟨some 10, Op.call { callee := (Callee.value (Operand.func 193)), args := #[(Operand.tmp 8), (Operand.tmp 9)], argTypes := #[26, 69] }, some (7, true)⟩, []⟩,
  ⟨⟨some 11, Op.unOp UnOp.not 4 (Operand.tmp 10), some (7, true)⟩, []⟩,
  ⟨⟨some 12, Op.pick (Operand.tmp 7) (Operand.tmp 11) (Operand.const (Value.bool false)), none⟩, []⟩,
  ⟨⟨some 4, Op.assign (Operand.tmp 12), none⟩, []⟩]) .ret))
theorem sl120 : slim Try.f120.ntmps ords120 (Try.f120.body.getD .skip) = some cd120 := by kernel_rfl
theorem in120 {args : List Value} {H : AH} {R : Value → AH → Prop} (hl : args.length = 2) (h : ∀ (Q : Exit → Sl → AH → Prop), (∀ e s H, endA Try.prog [ResultVar.tmp 4] R e s H → Q e s H) → wpC Try.prog cd120 Q (enterA args) H) : ACalls Try.prog 120 args H R :=
  ACalls.intro (by kernel_rfl) Try.func120 rfl (by kernel_rfl) sl120 hl (of_decide_eq_true (by kernel_rfl)) (by kernel_rfl) h
end Go.Proofs.Ytlfongfhbkefmaa.Ai
namespace Go.Proofs.Ytlfongfhbkefmaa.Ai
open Go Go.RowKit
set_option linter.unusedVariables false
set_option linter.unusedSimpArgs false
theorem l8Valid_c (n : Int) (v : Value) (xs : List Int) (H : AH) (hr : Row 3 H v xs) (hlen : xs.length ≤ 1099511627776) (hxs : ∀ y ∈ xs, I64 y) :
    ACalls Try.prog 116 [.int .i64 n, v] H fun r H' => r = .bool (decide (3 ≤ n ∧ n ≤ 8) && triS n xs) ∧ H <+: H' := by
  refine in116 rfl ?_
  intro Q hQ
  simp (maxSteps := 1000000) (disch := omega) only [cd116, S, S1, S2, S3, S4, S5, ST, eq_self, reduceIte, reduceCtorEq, Nat.reduceEqDiff, Nat.reduceAdd]
  refine CallH.by (l8Corners_c ..) ?_
  rintro _ _ ⟨rfl, rfl⟩
  simp (maxSteps := 1000000) (disch := omega) only [S, S1, S2, S3, S4, S5, ST, eq_self, reduceIte, reduceCtorEq, Nat.reduceEqDiff, Nat.reduceAdd]
  refine brD.intro (fun h => ?_) (fun h => ?_) <;> simp (maxSteps := 1000000) (disch := omega) only [h, S, S1, S2, S3, S4, S5, ST, eq_self, reduceIte, reduceCtorEq, Nat.reduceEqDiff, Nat.reduceAdd]
  · refine CallH.by (l8Triangulates_c n v xs H (by omega) hr hlen hxs) ?_
    rintro _ H1 ⟨rfl, hp⟩
    simp (maxSteps := 1000000) (disch := omega) only [h, S, S1, S2, S3, S4, S5, ST, eq_self, reduceIte, reduceCtorEq, Nat.reduceEqDiff, Nat.reduceAdd]
    refine hQ _ _ _ ?_
    simp (maxSteps := 1000000) (disch := omega) only [h, Bool.true_and, S, S1, S2, S3, S4, S5, ST, eq_self, reduceIte, reduceCtorEq, Nat.reduceEqDiff, Nat.reduceAdd]
    exact hp
  · refine hQ _ _ _ ?_
    simp (maxSteps := 1000000) (disch := omega) only [h, Bool.false_and, S, S1, S2, S3, S4, S5, ST, eq_self, reduceIte, reduceCtorEq, Nat.reduceEqDiff, Nat.reduceAdd]
    exact List.prefix_refl _
theorem areClos_c (n : Int) (v : Value) (xs : List Int) (o : Nat) (H : AH) (hn : 0 ≤ n ∧ n ≤ 100) (ho : cellA H o 0 = some (.int .i64 n)) (hr : Row 3 H v xs) (hlen : xs.length ≤ 1099511627776) (hxs : ∀ y ∈ xs, I64 y) :
    ACalls Try.prog 194 [v, .pointer (some ⟨o, 0, none⟩)] H fun r H' => r = .bool (!triI n xs) ∧ H <+: H' := by
  refine in194 rfl ?_
  intro Q hQ
  simp (maxSteps := 1000000) (disch := omega) only [cd194, ho, S, S1, S2, S3, S4, S5, ST, eq_self, reduceIte, reduceCtorEq, Nat.reduceEqDiff, Nat.reduceAdd]
  refine CallH.by (isTriangulation_c n v xs H hn hr hlen hxs) ?_
  rintro _ H1 ⟨rfl, hp1⟩
  simp (maxSteps := 1000000) (disch := omega) only [S, S1, S2, S3, S4, S5, ST, eq_self, reduceIte, reduceCtorEq, Nat.reduceEqDiff, Nat.reduceAdd]
  refine hQ _ _ _ ?_
  simp (maxSteps := 1000000) (disch := omega) only [S, S1, S2, S3, S4, S5, ST, eq_self, reduceIte, reduceCtorEq, Nat.reduceEqDiff, Nat.reduceAdd]
  exact hp1
theorem none_bad (f : List Int → Bool) : ∀ ls : List (List Int), (!(ls.map fun l => !f l).any id) = ls.all f
  | [] => rfl
  | l :: ls => by
    have := none_bad f ls
    simp only [List.map_cons, List.any_cons, List.all_cons, id, Bool.not_or, Bool.not_not, this]
theorem box_int (H : AH) (x : Int) : boxA Try.prog 3 (.int .i64 x) H = some (.pointer (some ⟨H.length, 0, none⟩), H ++ [.cells [.int .i64 x] 3 false]) := by kernel_rfl
/-- several lists at once -/
theorem areTri_c (n : Int) (v : Value) (us : List Value) (ls : List (List Int)) (H : AH) (hr : RowV 38 H v us) (hlen : us.length ≤ 1000) (hl : ls.length = us.length)
    (hx : ∀ i, i < us.length → Row 3 H (us.getD i undef) (ls.getD i []) ∧ (ls.getD i []).length ≤ 1099511627776 ∧ ∀ y ∈ ls.getD i [], I64 y) :
    ACalls Try.prog 120 [.int .i64 n, v] H fun r H' => r = .bool (decide (3 ≤ n ∧ n ≤ 8) && ls.all (triI n)) ∧ H <+: H' := by
  refine in120 rfl ?_
  intro Q hQ
  simp (maxSteps := 1000000) (disch := omega) only [cd120, box_int, cell_new, S, S1, S2, S3, S4, S5, ST, eq_self, reduceIte, reduceCtorEq, Nat.reduceEqDiff, Nat.reduceAdd]
  have hp0 : H <+: H ++ [AObj.cells [.int .i64 n] 3 false] := List.prefix_append _ _
  have hc0 : cellA (H ++ [AObj.cells [.int .i64 n] 3 false]) H.length 0 = some (.int .i64 n) := by rw [cell_new]; rfl
  refine CallH.by (isPolygon_c ..) ?_
  rintro _ _ ⟨rfl, rfl⟩
  simp (maxSteps := 1000000) (disch := omega) only [S, S1, S2, S3, S4, S5, ST, eq_self, reduceIte, reduceCtorEq, Nat.reduceEqDiff, Nat.reduceAdd]
  refine brD.intro (fun h => ?_) (fun h => ?_) <;> simp (maxSteps := 1000000) (disch := omega) only [h, mkf_p, S, S1, S2, S3, S4, S5, ST, eq_self, reduceIte, reduceCtorEq, Nat.reduceEqDiff, Nat.reduceAdd]
  · refine CallH.by (ContainsFuncL_c v us (ls.map fun l => !triI n l) _ _ _ (hr.pre hp0) (by omega) (by simp [hl]) ?_) ?_
    · intro i hi H1 hp1
      obtain ⟨g1, g2, g3⟩ := hx i hi
      have e : (ls.map fun l => !triI n l).getD i false = !triI n (ls.getD i []) := by simp [hl ▸ hi]
      rw [e]
      refine areClos_c n _ _ _ _ (by omega) ?_ (g1.pre (hp0.trans hp1)) g2 g3
      unfold cellA at hc0 ⊢
      have : (H ++ [AObj.cells [.int .i64 n] 3 false])[H.length]? = some (.cells [.int .i64 n] 3 false) := at_new ..
      rw [pre_at hp1 this]; rfl
    rintro _ H2 ⟨rfl, hp2⟩
    simp (maxSteps := 1000000) (disch := omega) only [h, S, S1, S2, S3, S4, S5, ST, eq_self, reduceIte, reduceCtorEq, Nat.reduceEqDiff, Nat.reduceAdd]
    refine hQ _ _ _ ?_
    simp (maxSteps := 1000000) (disch := omega) only [h, Bool.true_and, S, S1, S2, S3, S4, S5, ST, eq_self, reduceIte, reduceCtorEq, Nat.reduceEqDiff, Nat.reduceAdd]
    refine ⟨?_, hp0.trans hp2⟩
    congr 1
    exact none_bad (triI n) ls
  · refine hQ _ _ _ ?_
    simp (maxSteps := 1000000) (disch := omega) only [h, Bool.false_and, S, S1, S2, S3, S4, S5, ST, eq_self, reduceIte, reduceCtorEq, Nat.reduceEqDiff, Nat.reduceAdd]
    exact hp0
end Go.Proofs.Ytlfongfhbkefmaa.Ai
namespace Go.Proofs.Ytlfongfhbkefmaa.Ai
open Go Go.RowKit
set_option linter.unusedVariables false
set_option linter.unusedSimpArgs false
/-- a diagonal is at a corner -/
def At (d c : Int) : Prop := d.tdiv 10 = c ∨ d.tmod 10 = c
instance (d c : Int) : Decidable (At d c) := inferInstanceAs (Decidable (_ ∨ _))
def Tri1 (n : Int) (xs : List Int) : Prop := (3 ≤ n ∧ n ≤ 8) ∧ triS n xs = true
instance (n : Int) (xs : List Int) : Decidable (Tri1 n xs) := inferInstanceAs (Decidable (_ ∧ _))
def Tri2 (n : Int) (xs ys : List Int) : Prop := (3 ≤ n ∧ n ≤ 8) ∧ triS n xs = true ∧ triS n ys = true
instance (n : Int) (xs ys : List Int) : Decidable (Tri2 n xs ys) := inferInstanceAs (Decidable (_ ∧ _))
theorem tri2_I (n : Int) (xs ys : List Int) : (decide (3 ≤ n ∧ n ≤ 8) && [xs, ys].all (triI n)) = decide (Tri2 n xs ys) := by
  unfold Tri2
  by_cases h : 3 ≤ n ∧ n ≤ 8
  · have h1 := tri_same n xs h
    have h2 := tri_same n ys h
    simp [h, h1, h2]
  · simp [h]
theorem Tri1.len {n : Int} {xs : List Int} (h : Tri1 n xs) : (xs.length : Int) = n - 3 := by
  have h := h.2
  unfold triS at h
  simp only [Bool.and_eq_true, decide_eq_true_eq] at h
  exact h.2
theorem Tri2.a {n : Int} {xs ys : List Int} (h : Tri2 n xs ys) : Tri1 n xs := ⟨h.1, h.2.1⟩
theorem Tri2.b {n : Int} {xs ys : List Int} (h : Tri2 n xs ys) : Tri1 n ys := ⟨h.1, h.2.2⟩
theorem Tri1.mem {n : Int} {xs : List Int} (h : Tri1 n xs) {d : Int} (hd : d ∈ xs) : d ∈ dgs n n.toNat := by
  have h := h.2
  unfold triS triOkS at h
  simp only [Bool.and_eq_true, List.all_eq_true, decide_eq_true_eq] at h
  obtain ⟨i, hi, e⟩ := List.getElem_of_mem hd
  have := (h.1 i (List.mem_range.2 hi)).1.1
  rw [List.getD_eq_getElem?_getD, List.getElem?_eq_getElem hi, Option.getD_some, e] at this
  exact this
theorem are2_c (n : Int) (v w : Value) (xs ys : List Int) (o : Nat) (H H0 : AH) (hh : H = H0 ++ [.cells [v, w] 38 false]) (ho : o = H0.length) (hr : Row 3 H0 v xs) (hlen : xs.length ≤ 1099511627776) (hxs : ∀ y ∈ xs, I64 y) (hr2 : Row 3 H0 w ys) (hlen2 : ys.length ≤ 1099511627776) (hys : ∀ y ∈ ys, I64 y) :
    ACalls Try.prog 120 [.int .i64 n, .slice (some ⟨o, 0, none⟩) 2 2] H fun r H' => r = .bool (decide (Tri2 n xs ys)) ∧ H <+: H' := by
  subst hh ho
  refine (areTri_c n _ [v, w] [xs, ys] _ (RowV.new 38 H0 [v, w]) (by simp) rfl ?_).mono ?_
  · intro i hi
    match i, hi with
    | 0, _ => exact ⟨hr.pre (List.prefix_append _ _), hlen, hxs⟩
    | 1, _ => exact ⟨hr2.pre (List.prefix_append _ _), hlen2, hys⟩
  · rintro r H' ⟨rfl, hp⟩
    exact ⟨by rw [tri2_I], hp⟩
end Go.Proofs.Ytlfongfhbkefmaa.Ai
namespace Go.Proofs.Ytlfongfhbkefmaa.Ai
open Go
def ords69 : List (Nat × List (Nat × Bool)) := []
def cd69 : Cd := (.seq (.reg [⟨⟨some 4, Op.assign (Operand.const (Value.slice none 0 0)), none⟩, []⟩]) (.seq (.reg [⟨⟨some 7, Op.buildSlice 38 0 #[], none⟩, []⟩,
  ⟨⟨some 5, Op.assign (Operand.tmp 7), none⟩, []⟩]) (.seq (.seq (.reg [⟨⟨some 6, Op.assign (Operand.const (Value.int IntKind.i64 0)), none⟩, []⟩]) (.block 0 (.loop (.seq (.seq (.reg [⟨⟨some 8, Op.move (Operand.tmp 6), none⟩, []⟩,
  ⟨⟨some 9, Op.move (Operand.tmp 0), none⟩, []⟩,
  ⟨⟨some 10, Op.call { callee := (Callee.builtin Builtin.len), args := #[(Operand.tmp 9)], argTypes := #[38] }, none⟩, []⟩,
  ⟨⟨some 11, Op.binOp BinOp.lss 3 (Operand.tmp 8) (Operand.tmp 10) 3, none⟩, []⟩]) (.cond (Operand.tmp 11) .skip (.exit 0))) (.seq (.block 1 (.seq (.reg [⟨⟨some 14, Op.move (Operand.tmp 1), none⟩, []⟩,
  ⟨⟨some 15, Op.move (Operand.tmp 0), none⟩, []⟩,
  ⟨⟨some 16, Op.move (Operand.tmp 6), none⟩, []⟩,
  ⟨⟨some 17, Op.indexAddr 38 (Operand.tmp 15) (Operand.tmp 16), none⟩, []⟩,
  ⟨⟨some 18, Op.load 3 (Operand.tmp 17), none⟩, []⟩,
  ⟨⟨some 19, Op.call { callee := (Callee.value (Operand.func 144)), args := #[(Operand.tmp 14), (Operand.tmp 18)], argTypes := #[38, 3] }, none⟩, []⟩,
  ⟨⟨some 20, Op.unOp UnOp.not 4 (Operand.tmp 19), none⟩, []⟩]) (.cond (Operand.tmp 20) (.reg [⟨⟨some 21, Op.move (Operand.tmp 5), none⟩, []⟩,
  ⟨⟨some 22, Op.move (Operand.tmp 0), none⟩, []⟩,
  ⟨⟨some 23, Op.move (Operand.tmp 6), none⟩, []⟩,
  ⟨⟨some 24, Op.indexAddr 38 (Operand.tmp 22) (Operand.tmp 23), none⟩, []⟩,
  ⟨⟨some 25, Op.load 3 (Operand.tmp 24), none⟩, []⟩,
  ⟨⟨some 26, Op.buildSlice 38 1 #[(0, (Operand.tmp 25))], none⟩, []⟩,
  ⟨⟨some 27, Op.call { callee := (Callee.builtin Builtin.append), args := #[(Operand.tmp 21), (Operand.tmp 26)], argTypes := #[38, 38] }, none⟩, []⟩,
  ⟨⟨some 5, Op.assign (Operand.tmp 27), none⟩, []⟩]) .skip))) (.reg [⟨⟨some 12, Op.move (Operand.tmp 6), none⟩, []⟩,
  ⟨⟨some 13, Op.binOp BinOp.add 3 (Operand.tmp 12) (Operand.const (Value.int IntKind.i64 1)) 3, none⟩, []⟩,
  ⟨⟨some 6, Op.assign (Operand.tmp 13), none⟩, []⟩])))))) (.seq (.reg [⟨⟨some 28, Op.move (Operand.tmp 5), none⟩, []⟩,
  ⟨⟨some 4, Op.assign (Operand.tmp 28), none⟩, []⟩]) .ret))))
theorem sl69 : slim Try.f69.ntmps ords69 (Try.f69.body.getD .skip) = some cd69 := by kernel_rfl
theorem in69 {args : List Value} {H : AH} {R : Value → AH → Prop} (hl : args.length = 2) (h : ∀ (Q : Exit → Sl → AH → Prop), (∀ e s H, endA Try.prog [ResultVar.tmp 4] R e s H → Q e s H) → wpC Try.prog cd69 Q (enterA args) H) : ACalls Try.prog 69 args H R :=
  ACalls.intro (by kernel_rfl) Try.func69 rfl (by kernel_rfl) sl69 hl (of_decide_eq_true (by kernel_rfl)) (by kernel_rfl) h
end Go.Proofs.Ytlfongfhbkefmaa.Ai
namespace Go.Proofs.Ytlfongfhbkefmaa.Ai
open Go Go.RowKit
set_option linter.unusedVariables false
set_option linter.unusedSimpArgs false
set_option maxHeartbeats 1000000 in
theorem l4Lone_c (v w : Value) (xs ys : List Int) (H : AH) (hr : Row 3 H v xs) (hr2 : Row 3 H w ys) (hl : xs.length ≤ 1000000) (hl2 : ys.length ≤ 1099511627776) :
    ACalls Try.prog 69 [v, w] H fun r H' => Own 3 H H' r (without xs ys) ∧ H <+: H' := by
  refine in69 rfl ?_
  intro Q hQ
  simp (maxSteps := 1000000) (disch := omega) only [cd69, S, S1, S2, S3, S4, S5, ST, eq_self, reduceIte, reduceCtorEq, Nat.reduceEqDiff, Nat.reduceAdd]
  refine LoopH.by (fun m s H' => ∃ i, m + i = xs.length ∧ s 0 = v ∧ s 1 = w ∧ s 6 = .int .i64 ((i : Nat) : Int) ∧ Own 3 H H' (s 5) (without (xs.take i) ys) ∧ H <+: H') xs.length ?_ ?_
  · exact ⟨0, by simp, rfl, rfl, rfl, .inr ⟨H.length, rfl, Nat.le_refl _, at_new ..⟩, List.prefix_append _ _⟩
  · rintro m s H' ⟨i, hm, h0, h1, h6, ho, hp⟩
    have hr' := hr.pre hp
    have hr2' := hr2.pre hp
    have hle := without_len (xs.take i) ys
    have htl : (xs.take i).length ≤ i := by simp; omega
    generalize hu : s 5 = u at *
    simp (maxSteps := 1000000) (disch := omega) only [h0, h1, h6, hu, hr'.len Try.underlying38, S, S1, S2, S3, S4, S5, ST, eq_self, reduceIte, reduceCtorEq, Nat.reduceEqDiff, Nat.reduceAdd]
    refine brD.intro (fun g => ?_) (fun g => ?_)
    · have hi : i < xs.length := by omega
      have hst := without_step xs ys i hi
      simp (maxSteps := 1000000) (disch := omega) only [h0, h1, h6, hu, hr'.ix Try.underlying38 cs3, hr'.cell, Int.toNat_natCast, S, S1, S2, S3, S4, S5, ST, eq_self, reduceIte, reduceCtorEq, Nat.reduceEqDiff, Nat.reduceAdd]
      refine CallH.by (l1Has_c w ys (xs.getD i 0) H' hr2' hl2) ?_
      rintro _ _ ⟨rfl, rfl⟩
      simp (maxSteps := 1000000) (disch := omega) only [S, S1, S2, S3, S4, S5, ST, eq_self, reduceIte, reduceCtorEq, Nat.reduceEqDiff, Nat.reduceAdd]
      refine brD.intro (fun e => ?_) (fun e => ?_)
      · rw [if_pos e, List.append_nil] at hst
        rw [← hst] at ho
        simp (maxSteps := 1000000) (disch := omega) only [h0, h1, h6, hu, wrap64, S, S1, S2, S3, S4, S5, ST, eq_self, reduceIte, reduceCtorEq, Nat.reduceEqDiff, Nat.reduceAdd]
        refine ⟨m - 1, by omega, i + 1, ?_⟩
        (repeat' first | exact ho | exact hp | apply And.intro) <;> first | (simp only [Value.int.injEq, true_and]; omega) | omega | rfl | assumption | (simp; done) | (simp; omega)
      · rw [if_neg e] at hst
        obtain ⟨u', H2, k1, k2, k3, k4, k5, k6⟩ := own1_38 ho hp (by omega) (xs.getD i 0)
        rw [← hst] at k2
        simp (maxSteps := 1000000) (disch := omega) only [h0, h1, h6, hu, hr'.ix Try.underlying38 cs3, hr'.cell, Int.toNat_natCast, k1, wrap64, S, S1, S2, S3, S4, S5, ST, eq_self, reduceIte, reduceCtorEq, Nat.reduceEqDiff, Nat.reduceAdd]
        refine ⟨m - 1, by omega, i + 1, ?_⟩
        (repeat' first | exact k2 | exact k3 | apply And.intro) <;> first | (simp only [Value.int.injEq, true_and]; omega) | omega | rfl | assumption | (simp; done) | (simp; omega)
    · simp (maxSteps := 1000000) (disch := omega) only [hu, S, S1, S2, S3, S4, S5, ST, eq_self, reduceIte, reduceCtorEq, Nat.reduceEqDiff, Nat.reduceAdd]
      refine hQ _ _ _ ?_
      simp (maxSteps := 1000000) (disch := omega) only [hu, ho.row.tup, S, S1, S2, S3, S4, S5, ST, eq_self, reduceIte, reduceCtorEq, Nat.reduceEqDiff, Nat.reduceAdd]
      rw [List.take_of_length_le (by omega)] at ho
      exact ⟨ho, hp⟩
end Go.Proofs.Ytlfongfhbkefmaa.Ai
