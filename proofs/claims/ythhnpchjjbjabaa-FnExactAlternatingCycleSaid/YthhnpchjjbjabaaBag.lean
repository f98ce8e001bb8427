/- Sets of small numbers as words (impl.bag). -/
import Derived.Test.YthhnpchjjbjabaaTy
import Derived.Laws.Bits64
import Derived.Test.YthhnpchjjbjabaaProg
import Derived.Test.YthhnpchjjbjabaaAiM2
import Derived.KernelRfl
/- Slim code of this translation. By the kernel. -/
namespace Go.Proofs.Ythhnpchjjbjabaa.Ai
open Go

/- (loop.example/g01128/impl.bag).has -/
def ords142 : List (Nat × List (Nat × Bool)) := []
def cd142 : Cd := (.seq (.reg [⟨⟨some 4, Op.assign (Operand.const (Value.bool false)), none⟩, []⟩]) (.seq (.reg [⟨⟨some 5, Op.move (Operand.tmp 0), none⟩, []⟩,
  ⟨⟨some 6, Op.move (Operand.tmp 1), none⟩, []⟩,
  ⟨⟨some 7, Op.binOp BinOp.shr 117 (Operand.tmp 5) (Operand.tmp 6) 3, none⟩, []⟩,
  ⟨⟨some 8, Op.binOp BinOp.and 117 (Operand.tmp 7) (Operand.const (Value.int IntKind.u64 1)) 117, none⟩, []⟩,
  ⟨⟨some 9, Op.binOp BinOp.eql 117 (Operand.tmp 8) (Operand.const (Value.int IntKind.u64 1)) 117, none⟩, []⟩,
  ⟨⟨some 4, Op.assign (Operand.tmp 9), none⟩, []⟩]) .ret))
theorem sl142 : slim Try.f142.ntmps ords142 (Try.f142.body.getD .skip) = some cd142 := by kernel_rfl
theorem in142 {args : List Value} {H : AH} {R : Value → AH → Prop} (hl : args.length = 2) (h : ∀ (Q : Exit → Sl → AH → Prop), (∀ e s H, endA Try.prog [ResultVar.tmp 4] R e s H → Q e s H) → wpC Try.prog cd142 Q (enterA args) H) : ACalls Try.prog 142 args H R :=
  ACalls.intro (by kernel_rfl) Try.func142 rfl (by kernel_rfl) sl142 hl (of_decide_eq_true (by kernel_rfl)) (by kernel_rfl) h
end Go.Proofs.Ythhnpchjjbjabaa.Ai

namespace Go.Proofs.Ythhnpchjjbjabaa.Ai
open Go Go.RowKit
set_option linter.unusedVariables false
set_option linter.unusedSimpArgs false

theorem ofInt_nat (n : Nat) (h : n < 2 ^ 64) : (BitVec.ofInt 64 (n : Int)).toNat = n := by
  rw [BitVec.ofInt_natCast, BitVec.toNat_ofNat, Nat.mod_eq_of_lt h]
theorem and_nat (a b : Nat) (ha : a < 2 ^ 64) (hb : b < 2 ^ 64) : bitsA .and .u64 (a : Int) (b : Int) = ((a &&& b : Nat) : Int) := by
  have h : a &&& b < 2 ^ 64 := Nat.lt_of_le_of_lt Nat.and_le_left ha
  have e : (BitVec.ofInt 64 (a : Int) &&& BitVec.ofInt 64 (b : Int)).toNat = a &&& b := by rw [BitVec.toNat_and, ofInt_nat a ha, ofInt_nat b hb]
  show IntKind.u64.wrap (((BitVec.ofInt 64 (a : Int) &&& BitVec.ofInt 64 (b : Int)).toNat : Nat) : Int) = _
  rw [e, IntKind.wrap_u64]; omega
theorem or_nat (a b : Nat) (ha : a < 2 ^ 64) (hb : b < 2 ^ 64) : bitsA .or .u64 (a : Int) (b : Int) = ((a ||| b : Nat) : Int) := by
  have h : a ||| b < 2 ^ 64 := Nat.or_lt_two_pow ha hb
  have e : (BitVec.ofInt 64 (a : Int) ||| BitVec.ofInt 64 (b : Int)).toNat = a ||| b := by rw [BitVec.toNat_or, ofInt_nat a ha, ofInt_nat b hb]
  show IntKind.u64.wrap (((BitVec.ofInt 64 (a : Int) ||| BitVec.ofInt 64 (b : Int)).toNat : Nat) : Int) = _
  rw [e, IntKind.wrap_u64]; omega
theorem shr_nat (a y : Nat) (hy : y ≤ 64) : (a : Int).fdiv (2 ^ (min (y : Int).toNat 64)) = ((a / 2 ^ y : Nat) : Int) := by
  rw [Int.toNat_natCast, Nat.min_eq_left hy]
  rw [Int.fdiv_eq_ediv_of_nonneg _ (Int.le_of_lt (Int.pow_pos (by decide)))]
  norm_cast
theorem bit_and (b y : Nat) : ((b / 2 ^ y) &&& 1 = 1) ↔ b.testBit y = true := by
  rw [Nat.testBit_eq_decide_div_mod_eq, Nat.and_one_is_mod]
  simp
theorem bin_shr (P : Program) (t : TypeId) (b y : Nat) (hy : y < 64) : binA P .shr t (.int .u64 (b : Int)) (.int .i64 (y : Int)) = some (.int .u64 ((b / 2 ^ y : Nat) : Int)) := by
  have : ¬ ((y : Int) < 0) := by omega
  simp only [binA, shiftA, this, if_false, IntKind.bits]
  rw [if_pos (.inr trivial)]
  have := shr_nat b y (by omega)
  simp only [this]
theorem bin_and (P : Program) (t : TypeId) (a b : Nat) (ha : a < 2 ^ 64) (hb : b < 2 ^ 64) : binA P .and t (.int .u64 (a : Int)) (.int .u64 (b : Int)) = some (.int .u64 ((a &&& b : Nat) : Int)) := by
  simp only [binA, intA, and_nat a b ha hb]
  simp
theorem bin_or (P : Program) (t : TypeId) (a b : Nat) (ha : a < 2 ^ 64) (hb : b < 2 ^ 64) : binA P .or t (.int .u64 (a : Int)) (.int .u64 (b : Int)) = some (.int .u64 ((a ||| b : Nat) : Int)) := by
  simp only [binA, intA, or_nat a b ha hb]
  simp
theorem bin_shl (P : Program) (t : TypeId) (y : Nat) (hy : y < 64) : binA P .shl t (.int .u64 1) (.int .i64 (y : Int)) = some (.int .u64 ((2 ^ y : Nat) : Int)) := by
  have h0 : ¬ ((y : Int) < 0) := by omega
  have h1 : 2 ^ y < 2 ^ 64 := Nat.pow_lt_pow_right (by decide) hy
  have h2 : (1 : Int) * 2 ^ (min (y : Int).toNat 64) = ((2 ^ y : Nat) : Int) := by
    rw [Int.toNat_natCast, Nat.min_eq_left (by omega), Int.one_mul]; norm_cast
  have h3 : binA P .shl t (.int .u64 1) (.int .i64 (y : Int)) = some (.int .u64 (IntKind.u64.wrap ((1 : Int) * 2 ^ (min (y : Int).toNat 64)))) := by
    simp only [binA, shiftA]
    rw [if_pos (.inl trivial), if_neg h0]; rfl
  have h4 : ((2 ^ y : Nat) : Int) % 18446744073709551616 = ((2 ^ y : Nat) : Int) := by
    generalize 2 ^ y = z at h1
    omega
  rw [h3, h2, IntKind.wrap_u64, h4]
theorem div_lt (b y : Nat) (hb : b < 2 ^ 64) : b / 2 ^ y < 2 ^ 64 := Nat.lt_of_le_of_lt (Nat.div_le_self _ _) hb

theorem has_c (b y : Nat) (H : AH) (hb : b < 2 ^ 64) (hy : y < 64) : ACalls Try.prog 142 [.int .u64 (b : Int), .int .i64 (y : Int)] H fun r H' => r = .bool (b.testBit y) ∧ H = H' := by
  refine in142 rfl ?_
  intro Q hQ
  have e1 := bin_shr Try.prog 117 b y hy
  have e2 : binA Try.prog .and 117 (.int .u64 ((b / 2 ^ y : Nat) : Int)) (.int .u64 1) = some (.int .u64 (((b / 2 ^ y) &&& 1 : Nat) : Int)) := bin_and Try.prog 117 (b / 2 ^ y) 1 (div_lt b y hb) (by decide)
  simp (maxSteps := 1000000) (disch := omega) only [cd142, e1, e2, S, S1, S2, S3, S4, S5, ST, eq_self, reduceIte, reduceCtorEq, Nat.reduceEqDiff, Nat.reduceAdd]
  refine hQ _ _ _ ?_
  simp (maxSteps := 1000000) (disch := omega) only [S, S1, S2, S3, S4, S5, ST, eq_self, reduceIte, reduceCtorEq, Nat.reduceEqDiff, Nat.reduceAdd]
  have : ((((b / 2 ^ y) &&& 1 : Nat) : Int) = 1) ↔ b.testBit y = true := by
    rw [← bit_and]; omega
  simp only [this]
  simp
/-- a word that is a set of numbers below L -/
def Bits (b : Nat) (L : Nat) (s : List Int) : Prop := b < 256 ∧ ∀ z, z < L → b.testBit z = decide ((z : Int) ∈ s)
theorem Bits.or {b L y : Nat} {s : List Int} (h : Bits b L s) (hy : y < 8) : Bits (b ||| 2 ^ y) L (s ++ [(y : Int)]) := by
  refine ⟨?_, fun z hz => ?_⟩
  · have h1 : 2 ^ y < 2 ^ 8 := Nat.pow_lt_pow_right (by decide) hy
    exact Nat.or_lt_two_pow (n := 8) h.1 h1
  · rw [Nat.testBit_or, h.2 z hz, Nat.testBit_two_pow]
    have e : (y = z) ↔ ((z : Int) = y) := by omega
    by_cases hm : (z : Int) ∈ s <;> by_cases hz2 : y = z <;> simp [hm, hz2, e]
    · intro hh; exact hz2 (by omega)

theorem Bits.no {b L x y : Nat} {s : List Int} (h : Bits b L s) (hx : x < L) (hy : y < L) : (b &&& (2 ^ x ||| 2 ^ y) ≠ 0) ↔ ((x : Int) ∈ s ∨ (y : Int) ∈ s) := by
  have hbx := h.2 x hx
  have hby := h.2 y hy
  constructor
  · intro hne
    apply Decidable.byContradiction
    intro hno
    rw [not_or] at hno
    rw [decide_eq_false hno.1] at hbx
    rw [decide_eq_false hno.2] at hby
    apply hne
    apply Nat.eq_of_testBit_eq
    intro z
    rw [Nat.testBit_and, Nat.testBit_or, Nat.testBit_two_pow, Nat.testBit_two_pow, Nat.zero_testBit]
    by_cases e1 : x = z
    · subst e1; rw [hbx]; rfl
    · by_cases e2 : y = z
      · subst e2; rw [hby]; rfl
      · simp [e1, e2]
  · rintro h' h0
    rcases h' with g | g
    · rw [decide_eq_true g] at hbx
      have := congrArg (fun n => Nat.testBit n x) h0
      simp only [Nat.testBit_and, Nat.testBit_or, Nat.testBit_two_pow, Nat.zero_testBit, hbx] at this
      simp at this
    · rw [decide_eq_true g] at hby
      have := congrArg (fun n => Nat.testBit n y) h0
      simp only [Nat.testBit_and, Nat.testBit_or, Nat.testBit_two_pow, Nat.zero_testBit, hby] at this
      simp at this
theorem Bits.or2 {b L x y : Nat} {s : List Int} (h : Bits b L s) (hx : x < 8) (hy : y < 8) : Bits (b ||| (2 ^ x ||| 2 ^ y)) L (s ++ [(x : Int), (y : Int)]) := by
  rw [← Nat.or_assoc]
  have := (h.or hx).or hy
  rwa [List.append_assoc] at this
end Go.Proofs.Ythhnpchjjbjabaa.Ai
