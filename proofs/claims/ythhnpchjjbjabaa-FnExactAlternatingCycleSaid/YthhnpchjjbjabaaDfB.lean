/- Bags of places: impl.bagOf, moves, difference, ends. -/
import Derived.Test.YthhnpchjjbjabaaPcP
import Derived.Test.YthhnpchjjbjabaaBag
import Derived.Test.YthhnpchjjbjabaaMatch
import Derived.Test.YthhnpchjjbjabaaGrf
import Derived.Test.YthhnpchjjbjabaaProg
import Derived.Test.YthhnpchjjbjabaaAiM2
import Derived.KernelRfl
/- Slim code of this translation. By the kernel. -/
namespace Go.Proofs.Ythhnpchjjbjabaa.Ai
open Go

/- loop.example/g01128/impl.bagOf -/
def ords165 : List (Nat × List (Nat × Bool)) := []
def cd165 : Cd := (.seq (.reg [⟨⟨some 2, Op.assign (Operand.const (Value.int IntKind.u64 0)), none⟩, []⟩]) (.seq (.reg [⟨⟨some 3, Op.assign (Operand.const (Value.int IntKind.u64 0)), none⟩, []⟩]) (.seq (.seq (.reg [⟨⟨some 6, Op.move (Operand.tmp 0), none⟩, []⟩,
  ⟨⟨some 7, Op.call { callee := (Callee.builtin Builtin.len), args := #[(Operand.tmp 6)], argTypes := #[32] }, none⟩, []⟩,
  ⟨⟨some 8, Op.move (Operand.const (Value.int IntKind.i64 0)), none⟩, []⟩]) (.block 0 (.loop (.seq (.reg [⟨⟨some 9, Op.binOp BinOp.lss 3 (Operand.tmp 8) (Operand.tmp 7) 3, none⟩, []⟩]) (.seq (.cond (Operand.tmp 9) .skip (.exit 0)) (.seq (.block 1 (.seq (.reg [⟨⟨some 10, Op.indexAddr 32 (Operand.tmp 6) (Operand.tmp 8), none⟩, []⟩,
  ⟨⟨some 11, Op.load 3 (Operand.tmp 10), none⟩, []⟩,
  ⟨⟨some 5, Op.assign (Operand.tmp 11), none⟩, []⟩]) (.reg [⟨⟨some 12, Op.move (Operand.tmp 3), none⟩, []⟩,
  ⟨⟨some 13, Op.move (Operand.tmp 5), none⟩, []⟩,
  ⟨⟨some 14, Op.binOp BinOp.shl 117 (Operand.const (Value.int IntKind.u64 1)) (Operand.tmp 13) 3, none⟩, []⟩,
  ⟨⟨some 15, Op.binOp BinOp.or 117 (Operand.tmp 12) (Operand.tmp 14) 117, none⟩, []⟩,
  ⟨⟨some 3, Op.assign (Operand.tmp 15), none⟩, []⟩]))) (.reg [⟨⟨some 16, Op.binOp BinOp.add 3 (Operand.tmp 8) (Operand.const (Value.int IntKind.i64 1)) 3, none⟩, []⟩,
  ⟨⟨some 8, Op.move (Operand.tmp 16), none⟩, []⟩]))))))) (.seq (.reg [⟨⟨some 17, Op.move (Operand.tmp 3), none⟩, []⟩,
  ⟨⟨some 2, Op.assign (Operand.tmp 17), none⟩, []⟩]) .ret))))
theorem sl165 : slim Try.f165.ntmps ords165 (Try.f165.body.getD .skip) = some cd165 := by kernel_rfl
theorem in165 {args : List Value} {H : AH} {R : Value → AH → Prop} (hl : args.length = 1) (h : ∀ (Q : Exit → Sl → AH → Prop), (∀ e s H, endA Try.prog [ResultVar.tmp 2] R e s H → Q e s H) → wpC Try.prog cd165 Q (enterA args) H) : ACalls Try.prog 165 args H R :=
  ACalls.intro (by kernel_rfl) Try.func165 rfl (by kernel_rfl) sl165 hl (of_decide_eq_true (by kernel_rfl)) (by kernel_rfl) h

/- loop.example/g01128/impl.moves -/
def ords145 : List (Nat × List (Nat × Bool)) := []
def cd145 : Cd := (.seq (.reg [⟨⟨some 4, Op.assign (Operand.const (Value.int IntKind.u64 0)), none⟩, []⟩,
  ⟨⟨some 5, Op.assign (Operand.const (Value.int IntKind.u64 0)), none⟩, []⟩]) (.seq (.reg [⟨⟨some 8, Op.move (Operand.tmp 0), none⟩, []⟩,
  ⟨⟨some 9, Op.call { callee := (Callee.value (Operand.func 165)), args := #[(Operand.tmp 8)], argTypes := #[32] }, none⟩, []⟩,
  ⟨⟨some 10, Op.move (Operand.tmp 1), none⟩, []⟩,
  ⟨⟨some 11, Op.call { callee := (Callee.value (Operand.func 165)), args := #[(Operand.tmp 10)], argTypes := #[32] }, none⟩, []⟩,
  ⟨⟨some 6, Op.assign (Operand.tmp 9), none⟩, []⟩,
  ⟨⟨some 7, Op.assign (Operand.tmp 11), none⟩, []⟩]) (.seq (.reg [⟨⟨some 12, Op.move (Operand.tmp 6), none⟩, []⟩,
  ⟨⟨some 13, Op.move (Operand.tmp 7), none⟩, []⟩,
  ⟨⟨some 14, Op.binOp BinOp.andNot 117 (Operand.tmp 12) (Operand.tmp 13) 117, none⟩, []⟩,
  ⟨⟨some 15, Op.move (Operand.tmp 7), none⟩, []⟩,
  ⟨⟨some 16, Op.move (Operand.tmp 6), none⟩, []⟩,
  ⟨⟨some 17, Op.binOp BinOp.andNot 117 (Operand.tmp 15) (Operand.tmp 16) 117, none⟩, []⟩,
  ⟨⟨some 4, Op.assign (Operand.tmp 14), none⟩, []⟩,
  ⟨⟨some 5, Op.assign (Operand.tmp 17), none⟩, []⟩]) .ret)))
theorem sl145 : slim Try.f145.ntmps ords145 (Try.f145.body.getD .skip) = some cd145 := by kernel_rfl
theorem in145 {args : List Value} {H : AH} {R : Value → AH → Prop} (hl : args.length = 2) (h : ∀ (Q : Exit → Sl → AH → Prop), (∀ e s H, endA Try.prog [ResultVar.tmp 4, ResultVar.tmp 5] R e s H → Q e s H) → wpC Try.prog cd145 Q (enterA args) H) : ACalls Try.prog 145 args H R :=
  ACalls.intro (by kernel_rfl) Try.func145 rfl (by kernel_rfl) sl145 hl (of_decide_eq_true (by kernel_rfl)) (by kernel_rfl) h

/- loop.example/g01128/impl.difference -/
def ords138 : List (Nat × List (Nat × Bool)) := []
def cd138 : Cd := (.seq (.reg [⟨⟨some 4, Op.assign (Operand.const (Value.slice none 0 0)), none⟩, []⟩]) (.seq (.reg [⟨⟨some 10, Op.move (Operand.tmp 0), none⟩, []⟩,
  ⟨⟨some 11, Op.move (Operand.tmp 1), none⟩, []⟩,
  ⟨⟨some 12, Op.call { callee := (Callee.value (Operand.func 145)), args := #[(Operand.tmp 10), (Operand.tmp 11)], argTypes := #[32, 32] }, none⟩, []⟩,
  ⟨⟨some 9, Op.move (Operand.tmp 12), none⟩, []⟩,
  ⟨⟨some 13, Op.extract (Operand.tmp 9) 0, none⟩, []⟩,
  ⟨⟨some 14, Op.extract (Operand.tmp 9) 1, none⟩, []⟩,
  ⟨⟨some 5, Op.assign (Operand.tmp 13), none⟩, []⟩,
  ⟨⟨some 6, Op.assign (Operand.tmp 14), none⟩, []⟩]) (.seq (.reg [⟨⟨some 15, Op.buildSlice 32 0 #[], none⟩, []⟩,
  ⟨⟨some 7, Op.assign (Operand.tmp 15), none⟩, []⟩]) (.seq (.seq (.reg [⟨⟨some 16, Op.move (Operand.const (Value.int IntKind.i64 0)), none⟩, []⟩]) (.block 0 (.loop (.seq (.reg [⟨⟨some 17, Op.binOp BinOp.lss 3 (Operand.tmp 16) (Operand.const (Value.int IntKind.i64 32)) 3, none⟩, []⟩]) (.seq (.cond (Operand.tmp 17) .skip (.exit 0)) (.seq (.block 1 (.seq (.reg [⟨⟨some 18, Op.move (Operand.tmp 16), none⟩, []⟩,
  ⟨⟨some 8, Op.assign (Operand.tmp 18), none⟩, []⟩]) (.seq (.reg [⟨⟨some 19, Op.move (Operand.tmp 5), none⟩, []⟩,
  ⟨⟨some 20, Op.move (Operand.tmp 6), none⟩, []⟩,
  ⟨⟨some 21, Op.binOp BinOp.or 117 (Operand.tmp 19) (Operand.tmp 20) 117, none⟩, []⟩,
  ⟨⟨some 22, Op.move (Operand.tmp 8), none⟩, []⟩,
  ⟨⟨some 23, Op.call { callee := (Callee.value (Operand.func 142)), args := #[(Operand.tmp 21), (Operand.tmp 22)], argTypes := #[117, 3] }, none⟩, []⟩]) (.cond (Operand.tmp 23) (.reg [⟨⟨some 24, Op.move (Operand.tmp 7), none⟩, []⟩,
  ⟨⟨some 25, Op.move (Operand.tmp 8), none⟩, []⟩,
  ⟨⟨some 26, Op.buildSlice 32 1 #[(0, (Operand.tmp 25))], none⟩, []⟩,
  ⟨⟨some 27, Op.call { callee := (Callee.builtin Builtin.append), args := #[(Operand.tmp 24), (Operand.tmp 26)], argTypes := #[32, 32] }, none⟩, []⟩,
  ⟨⟨some 7, Op.assign (Operand.tmp 27), none⟩, []⟩]) .skip)))) (.reg [⟨⟨some 28, Op.binOp BinOp.add 3 (Operand.tmp 16) (Operand.const (Value.int IntKind.i64 1)) 3, none⟩, []⟩,
  ⟨⟨some 16, Op.move (Operand.tmp 28), none⟩, []⟩]))))))) (.seq (.reg [⟨⟨some 29, Op.move (Operand.tmp 7), none⟩, []⟩,
  ⟨⟨some 4, Op.assign (Operand.tmp 29), none⟩, []⟩]) .ret)))))
theorem sl138 : slim Try.f138.ntmps ords138 (Try.f138.body.getD .skip) = some cd138 := by kernel_rfl
theorem in138 {args : List Value} {H : AH} {R : Value → AH → Prop} (hl : args.length = 2) (h : ∀ (Q : Exit → Sl → AH → Prop), (∀ e s H, endA Try.prog [ResultVar.tmp 4] R e s H → Q e s H) → wpC Try.prog cd138 Q (enterA args) H) : ACalls Try.prog 138 args H R :=
  ACalls.intro (by kernel_rfl) Try.func138 rfl (by kernel_rfl) sl138 hl (of_decide_eq_true (by kernel_rfl)) (by kernel_rfl) h

/- (loop.example/g01128/impl.Graph).ends -/
def ords139 : List (Nat × List (Nat × Bool)) := [(5, [(0, false), (1, false), (2, false), (3, false), (4, false), (5, false), (6, false), (7, false), (8, false), (9, false), (10, false), (11, false), (12, false), (13, false), (14, false), (15, false), (16, false), (17, true)])]
def cd139 : Cd := (.seq (.reg [⟨⟨some 2, Op.box 28 (Operand.tmp 0), none⟩, []⟩,
  ⟨⟨some 4, Op.assign (Operand.const (Value.int IntKind.u64 0)), none⟩, []⟩]) (.seq (.reg [⟨⟨some 5, Op.assign (Operand.const (Value.int IntKind.u64 0)), none⟩, []⟩]) (.seq (.seq (.reg [⟨⟨some 8, Op.move (Operand.tmp 1), none⟩, []⟩,
  ⟨⟨some 9, Op.call { callee := (Callee.builtin Builtin.len), args := #[(Operand.tmp 8)], argTypes := #[32] }, none⟩, []⟩,
  ⟨⟨some 10, Op.move (Operand.const (Value.int IntKind.i64 0)), none⟩, []⟩]) (.block 0 (.loop (.seq (.reg [⟨⟨some 11, Op.binOp BinOp.lss 3 (Operand.tmp 10) (Operand.tmp 9) 3, none⟩, []⟩]) (.seq (.cond (Operand.tmp 11) .skip (.exit 0)) (.seq (.block 1 (.seq (.reg [⟨⟨some 12, Op.indexAddr 32 (Operand.tmp 8) (Operand.tmp 10), none⟩, []⟩,
  ⟨⟨some 13, Op.load 3 (Operand.tmp 12), none⟩, []⟩,
  ⟨⟨some 7, Op.assign (Operand.tmp 13), none⟩, []⟩]) (.reg [⟨⟨some 14, Op.move (Operand.tmp 5), none⟩, []⟩,
  ⟨⟨some 15, Op.fieldAddr 28 (Operand.tmp 2) 1, none⟩, []⟩,
  ⟨⟨some 16, Op.load 22 (Operand.tmp 15), none⟩, []⟩,
  ⟨⟨some 17, Op.move (Operand.tmp 7), none⟩, []⟩,
  ⟨⟨some 18, Op.indexAddr 22 (Operand.tmp 16) (Operand.tmp 17), none⟩, []⟩,
  ⟨⟨some 19, Op.indexAddr 76 (Operand.tmp 18) (Operand.const (Value.int IntKind.i64 0)), none⟩, []⟩,
  ⟨⟨some 20, Op.load 3 (Operand.tmp 19), none⟩, []⟩,
  ⟨⟨some 21, Op.binOp BinOp.shl 117 (Operand.const (Value.int IntKind.u64 1)) (Operand.tmp 20) 3, none⟩, []⟩,
  ⟨⟨some 22, Op.fieldAddr 28 (Operand.tmp 2) 1, none⟩, []⟩,
  ⟨⟨some 23, Op.load 22 (Operand.tmp 22), none⟩, []⟩,
  ⟨⟨some 24, Op.move (Operand.tmp 7), none⟩, []⟩,
  ⟨⟨some 25, Op.indexAddr 22 (Operand.tmp 23) (Operand.tmp 24), none⟩, []⟩,
  ⟨⟨some 26, Op.indexAddr 76 (Operand.tmp 25) (Operand.const (Value.int IntKind.i64 1)), none⟩, []⟩,
  ⟨⟨some 27, Op.load 3 (Operand.tmp 26), none⟩, []⟩,
  ⟨⟨some 28, Op.binOp BinOp.shl 117 (Operand.const (Value.int IntKind.u64 1)) (Operand.tmp 27) 3, none⟩, []⟩,
  ⟨⟨some 29, Op.binOp BinOp.or 117 (Operand.tmp 21) (Operand.tmp 28) 117, none⟩, []⟩,
  ⟨⟨some 30, Op.binOp BinOp.or 117 (Operand.tmp 14) (Operand.tmp 29) 117, none⟩, []⟩,
  ⟨⟨some 5, Op.assign (Operand.tmp 30), none⟩, []⟩]))) (.reg [⟨⟨some 31, Op.binOp BinOp.add 3 (Operand.tmp 10) (Operand.const (Value.int IntKind.i64 1)) 3, none⟩, []⟩,
  ⟨⟨some 10, Op.move (Operand.tmp 31), none⟩, []⟩]))))))) (.seq (.reg [⟨⟨some 32, Op.move (Operand.tmp 5), none⟩, []⟩,
  ⟨⟨some 4, Op.assign (Operand.tmp 32), none⟩, []⟩]) .ret))))
theorem sl139 : slim Try.f139.ntmps ords139 (Try.f139.body.getD .skip) = some cd139 := by kernel_rfl
theorem in139 {args : List Value} {H : AH} {R : Value → AH → Prop} (hl : args.length = 2) (h : ∀ (Q : Exit → Sl → AH → Prop), (∀ e s H, endA Try.prog [ResultVar.tmp 4] R e s H → Q e s H) → wpC Try.prog cd139 Q (enterA args) H) : ACalls Try.prog 139 args H R :=
  ACalls.intro (by kernel_rfl) Try.func139 rfl (by kernel_rfl) sl139 hl (of_decide_eq_true (by kernel_rfl)) (by kernel_rfl) h
end Go.Proofs.Ythhnpchjjbjabaa.Ai

namespace Go.Proofs.Ythhnpchjjbjabaa.Ai
open Go Go.RowKit
set_option linter.unusedVariables false
set_option linter.unusedSimpArgs false

/-- one without another -/
def anN (a b : Nat) : Nat := (BitVec.ofNat 64 a &&& ~~~ BitVec.ofNat 64 b).toNat
theorem anN_bit (a b z : Nat) (hz : z < 64) : (anN a b).testBit z = (a.testBit z && !b.testBit z) := by
  unfold anN
  rw [BitVec.testBit_toNat, BitVec.getLsbD_and, BitVec.getLsbD_not, BitVec.getLsbD_ofNat, BitVec.getLsbD_ofNat]
  simp [hz]
theorem anN_le (a b : Nat) : anN a b ≤ a := by
  unfold anN
  rw [BitVec.toNat_and]
  refine Nat.le_trans Nat.and_le_left ?_
  rw [BitVec.toNat_ofNat]
  exact Nat.mod_le _ _
theorem bin_andNot (P : Program) (t : TypeId) (a b : Nat) (ha : a < 2 ^ 64) : binA P .andNot t (.int .u64 (a : Int)) (.int .u64 (b : Int)) = some (.int .u64 ((anN a b : Nat) : Int)) := by
  have e : bitsA .andNot .u64 (a : Int) (b : Int) = ((anN a b : Nat) : Int) := by
    show IntKind.u64.wrap (((BitVec.ofInt 64 (a : Int) &&& ~~~ BitVec.ofInt 64 (b : Int)).toNat : Nat) : Int) = _
    rw [BitVec.ofInt_natCast, BitVec.ofInt_natCast]
    show IntKind.u64.wrap ((anN a b : Nat) : Int) = _
    have := anN_le a b
    rw [IntKind.wrap_u64]; omega
  simp only [binA, intA, e]
  simp

set_option maxHeartbeats 1000000 in
theorem bagOf_c (w : Value) (xs : List Int) (H : AH) (hr : Row 3 H w xs) (hlen : xs.length ≤ 1048576) (hx : ∀ x ∈ xs, 0 ≤ x ∧ x < 32) :
    ACalls Try.prog 165 [w] H fun r H' => ∃ b : Nat, r = .int .u64 (b : Int) ∧ BagI b xs ∧ H = H' := by
  refine in165 rfl ?_
  intro Q hQ
  simp (maxSteps := 1000000) (disch := omega) only [cd165, hr.len Try.underlying32, S, S1, S2, S3, S4, S5, ST, eq_self, reduceIte, reduceCtorEq, Nat.reduceEqDiff, Nat.reduceAdd]
  refine LoopH.by (fun m s H' => ∃ (i b : Nat), m + i = xs.length ∧ s 3 = .int .u64 (b : Int) ∧ s 6 = w ∧ s 7 = .int .i64 (xs.length : Int) ∧ s 8 = .int .i64 ((i : Nat) : Int) ∧ BagI b (xs.take i) ∧ H' = H) xs.length ?_ ?_
  · exact ⟨0, 0, by simp, rfl, rfl, rfl, rfl, by simpa using BagI.zero, rfl⟩
  rintro m s H' ⟨i, b, hm, h3, h6, h7, h8, hb, rfl⟩
  simp (maxSteps := 1000000) (disch := omega) only [h3, h6, h7, h8, S, S1, S2, S3, S4, S5, ST, eq_self, reduceIte, reduceCtorEq, Nat.reduceEqDiff, Nat.reduceAdd]
  refine brD.intro (fun g => ?_) (fun g => ?_)
  · have hi : i < xs.length := by omega
    have hxm : xs.getD i 0 ∈ xs := by simp [hi]
    have hxr := hx _ hxm
    obtain ⟨x, hxe⟩ : ∃ x : Nat, xs.getD i 0 = x := ⟨(xs.getD i 0).toNat, by omega⟩
    have hc := hr.cell hi
    rw [hxe] at hc
    have hb64 : b < 2 ^ 64 := Nat.lt_of_lt_of_le hb.1 (by decide)
    have hx64 : 2 ^ x < 2 ^ 64 := Nat.pow_lt_pow_right (by decide) (by omega)
    have k1 := bin_shl Try.prog 117 x (by omega)
    have k2 := bin_or Try.prog 117 b (2 ^ x) hb64 hx64
    have f1 : BagI (b ||| 2 ^ x) (xs.take (i + 1)) := by
      have e : xs.take (i + 1) = xs.take i ++ [(x : Int)] := by
        rw [List.take_add_one, List.getElem?_eq_getElem hi, ← hxe]
        simp [hi]
      rw [e]; exact hb.or (by omega)
    simp (maxSteps := 1000000) (disch := omega) only [h3, h6, h7, h8, hr.ix Try.underlying32 cs3, Int.toNat_natCast, hc, k1, k2, wrap64, S, S1, S2, S3, S4, S5, ST, eq_self, reduceIte, reduceCtorEq, Nat.reduceEqDiff, Nat.reduceAdd]
    refine ⟨m - 1, by omega, i + 1, b ||| 2 ^ x, ?_⟩
    (repeat' first | exact f1 | apply And.intro) <;> first | (simp only [Value.int.injEq, true_and]; omega) | omega | rfl | assumption | (simp; done) | (simp; omega)
  · simp (maxSteps := 1000000) (disch := omega) only [h3, S, S1, S2, S3, S4, S5, ST, eq_self, reduceIte, reduceCtorEq, Nat.reduceEqDiff, Nat.reduceAdd]
    refine hQ _ _ _ ?_
    simp (maxSteps := 1000000) (disch := omega) only [S, S1, S2, S3, S4, S5, ST, eq_self, reduceIte, reduceCtorEq, Nat.reduceEqDiff, Nat.reduceAdd]
    rw [List.take_of_length_le (by omega)] at hb
    exact ⟨b, rfl, hb⟩

theorem moves_c (v w : Value) (xs ys : List Int) (H : AH) (hr : Row 3 H v xs) (hs : Row 3 H w ys) (hlx : xs.length ≤ 1048576) (hly : ys.length ≤ 1048576) (hx : ∀ x ∈ xs, 0 ≤ x ∧ x < 32) (hy : ∀ x ∈ ys, 0 ≤ x ∧ x < 32) :
    ACalls Try.prog 145 [v, w] H fun r H' => ∃ a b : Nat, r = .tuple (List.toArray [.int .u64 (a : Int), .int .u64 (b : Int)]) ∧ BagI a (xs.filter fun x => !decide (x ∈ ys)) ∧ BagI b (ys.filter fun x => !decide (x ∈ xs)) ∧ H = H' := by
  refine in145 rfl ?_
  intro Q hQ
  simp (maxSteps := 1000000) (disch := omega) only [cd145, S, S1, S2, S3, S4, S5, ST, eq_self, reduceIte, reduceCtorEq, Nat.reduceEqDiff, Nat.reduceAdd]
  refine CallH.by (bagOf_c v xs H hr hlx hx) ?_
  rintro _ _ ⟨a, rfl, ha, rfl⟩
  simp (maxSteps := 1000000) (disch := omega) only [S, S1, S2, S3, S4, S5, ST, eq_self, reduceIte, reduceCtorEq, Nat.reduceEqDiff, Nat.reduceAdd]
  refine CallH.by (bagOf_c w ys H hs hly hy) ?_
  rintro _ _ ⟨b, rfl, hb, rfl⟩
  have ha64 : a < 2 ^ 64 := Nat.lt_of_lt_of_le ha.1 (by decide)
  have hb64 : b < 2 ^ 64 := Nat.lt_of_lt_of_le hb.1 (by decide)
  have k1 := bin_andNot Try.prog 117 a b ha64
  have k2 := bin_andNot Try.prog 117 b a hb64
  simp (maxSteps := 1000000) (disch := omega) only [k1, k2, S, S1, S2, S3, S4, S5, ST, eq_self, reduceIte, reduceCtorEq, Nat.reduceEqDiff, Nat.reduceAdd]
  refine hQ _ _ _ ?_
  simp (maxSteps := 1000000) (disch := omega) only [S, S1, S2, S3, S4, S5, ST, eq_self, reduceIte, reduceCtorEq, Nat.reduceEqDiff, Nat.reduceAdd]
  refine ⟨_, _, rfl, ⟨Nat.lt_of_le_of_lt (anN_le a b) ha.1, fun z hz => ?_⟩, ⟨Nat.lt_of_le_of_lt (anN_le b a) hb.1, fun z hz => ?_⟩⟩
  · rw [anN_bit a b z hz, ha.2 z hz, hb.2 z hz]
    by_cases h1 : (z : Int) ∈ xs <;> by_cases h2 : (z : Int) ∈ ys <;> simp [h1, h2]
  · rw [anN_bit b a z hz, ha.2 z hz, hb.2 z hz]
    by_cases h1 : (z : Int) ∈ xs <;> by_cases h2 : (z : Int) ∈ ys <;> simp [h1, h2]

set_option maxHeartbeats 1000000 in
theorem difference_c (v w : Value) (xs ys : List Int) (H : AH) (hr : Row 3 H v xs) (hs : Row 3 H w ys) (hlx : xs.length ≤ 1048576) (hly : ys.length ≤ 1048576) (hx : ∀ x ∈ xs, 0 ≤ x ∧ x < 32) (hy : ∀ x ∈ ys, 0 ≤ x ∧ x < 32) :
    ACalls Try.prog 138 [v, w] H fun r H' => Own 3 H H' r (dix xs ys 32) ∧ H <+: H' := by
  refine in138 rfl ?_
  intro Q hQ
  simp (maxSteps := 1000000) (disch := omega) only [cd138, S, S1, S2, S3, S4, S5, ST, eq_self, reduceIte, reduceCtorEq, Nat.reduceEqDiff, Nat.reduceAdd]
  refine CallH.by (moves_c v w xs ys H hr hs hlx hly hx hy) ?_
  rintro _ _ ⟨a, b, rfl, ha, hb, rfl⟩
  simp (maxSteps := 1000000) (disch := omega) only [S, S1, S2, S3, S4, S5, ST, eq_self, reduceIte, reduceCtorEq, Nat.reduceEqDiff, Nat.reduceAdd]
  generalize hA : H ++ [AObj.cells [] 3 false] = A
  have pA : H <+: A := by rw [← hA]; exact List.prefix_append _ _
  have cA : A[H.length]? = some (.cells (ints []) 3 false) := by rw [← hA]; exact at_new ..
  have own0 : Own 3 H A (.slice (some ⟨H.length, 0, none⟩) 0 0) (dix xs ys 0) := .inr ⟨H.length, rfl, Nat.le_refl _, cA⟩
  have ha64 : a < 2 ^ 64 := Nat.lt_of_lt_of_le ha.1 (by decide)
  have hb64 : b < 2 ^ 64 := Nat.lt_of_lt_of_le hb.1 (by decide)
  have k1 := bin_or Try.prog 117 a b ha64 hb64
  refine LoopH.by (fun m s H' => ∃ (i : Nat), m + i = 32 ∧ s 5 = .int .u64 (a : Int) ∧ s 6 = .int .u64 (b : Int) ∧ s 16 = .int .i64 ((i : Nat) : Int) ∧ Own 3 H H' (s 7) (dix xs ys i) ∧ H <+: H') 32 ?_ ?_
  · refine ⟨0, ?_⟩
    simp (maxSteps := 1000000) (disch := omega) only [S, S1, S2, S3, S4, S5, ST, eq_self, reduceIte, reduceCtorEq, Nat.reduceEqDiff, Nat.reduceAdd]
    (repeat' first | exact own0 | exact pA | apply And.intro) <;> first | (simp only [Value.int.injEq, true_and]; omega) | omega | rfl | assumption | (simp; done) | (simp; omega)
  rintro m s H' ⟨i, hm, h5, h6, h16, ho, hp⟩
  generalize hU : s 7 = U at *
  simp (maxSteps := 1000000) (disch := omega) only [h5, h6, h16, hU, S, S1, S2, S3, S4, S5, ST, eq_self, reduceIte, reduceCtorEq, Nat.reduceEqDiff, Nat.reduceAdd]
  refine brD.intro (fun g => ?_) (fun g => ?_)
  · have hi : i < 32 := by omega
    simp (maxSteps := 1000000) (disch := omega) only [h5, h6, h16, hU, k1, S, S1, S2, S3, S4, S5, ST, eq_self, reduceIte, reduceCtorEq, Nat.reduceEqDiff, Nat.reduceAdd]
    refine CallH.by (has_c (a ||| b) i H' (Nat.or_lt_two_pow ha64 hb64) (by omega)) ?_
    rintro _ _ ⟨rfl, rfl⟩
    have hbit : (a ||| b).testBit i = (decide ((i : Int) ∈ xs) != decide ((i : Int) ∈ ys)) := by
      rw [Nat.testBit_or, ha.2 i (by omega), hb.2 i (by omega)]
      by_cases h1 : (i : Int) ∈ xs <;> by_cases h2 : (i : Int) ∈ ys <;> simp [h1, h2]
    rw [hbit]
    cases hh : (decide ((i : Int) ∈ xs) != decide ((i : Int) ∈ ys)) with
    | true =>
      have hd : dix xs ys (i + 1) = dix xs ys i ++ [(i : Int)] := by rw [dix, if_pos hh]
      obtain ⟨U', H2, j1, j2, j3, j4, j5, j6⟩ := own1_32 ho hp (by have := dix_len xs ys i; omega) (i : Int)
      rw [← hd] at j2
      simp (maxSteps := 1000000) (disch := omega) only [h5, h6, h16, hU, j1, wrap64, S, S1, S2, S3, S4, S5, ST, eq_self, reduceIte, reduceCtorEq, Nat.reduceEqDiff, Nat.reduceAdd]
      refine ⟨m - 1, by omega, i + 1, ?_⟩
      (repeat' first | exact j2 | exact j3 | apply And.intro) <;> first | (simp only [Value.int.injEq, true_and]; omega) | omega | rfl | assumption | (simp; done) | (simp; omega)
    | false =>
      have hd : dix xs ys (i + 1) = dix xs ys i := by rw [dix, if_neg (by rw [hh]; decide), List.append_nil]
      rw [← hd] at ho
      simp (maxSteps := 1000000) (disch := omega) only [h5, h6, h16, hU, wrap64, S, S1, S2, S3, S4, S5, ST, eq_self, reduceIte, reduceCtorEq, Nat.reduceEqDiff, Nat.reduceAdd]
      refine ⟨m - 1, by omega, i + 1, ?_⟩
      (repeat' first | exact ho | exact hp | apply And.intro) <;> first | (simp only [Value.int.injEq, true_and]; omega) | omega | rfl | assumption | (simp; done) | (simp; omega)
  · simp (maxSteps := 1000000) (disch := omega) only [hU, S, S1, S2, S3, S4, S5, ST, eq_self, reduceIte, reduceCtorEq, Nat.reduceEqDiff, Nat.reduceAdd]
    refine hQ _ _ _ ?_
    simp (maxSteps := 1000000) (disch := omega) only [hU, ho.row.tup, S, S1, S2, S3, S4, S5, ST, eq_self, reduceIte, reduceCtorEq, Nat.reduceEqDiff, Nat.reduceAdd]
    have hi : i = 32 := by omega
    subst hi
    exact ⟨ho, hp⟩

set_option maxHeartbeats 2000000 in
theorem ends_c (n : Int) (v w : Value) (es : List (Int × Int)) (ds : List Int) (H : AH) (hr : RowP 76 H v es) (hlen : es.length ≤ 1099511627776) (hg : Grd n es) (hs : Row 3 H w ds) (hld : ds.length ≤ 1048576) (hd : ∀ x ∈ ds, 0 ≤ x ∧ x < es.length) :
    ACalls Try.prog 139 [.agg (List.toArray [.int .i64 n, v]), w] H fun r H' => ∃ b : Nat, r = .int .u64 (b : Int) ∧ BagI b (seenL es ds) ∧ H <+: H' := by
  refine in139 rfl ?_
  intro Q hQ
  simp (maxSteps := 1000000) (disch := omega) only [cd139, hr.boxG, S, S1, S2, S3, S4, S5, ST, eq_self, reduceIte, reduceCtorEq, Nat.reduceEqDiff, Nat.reduceAdd]
  generalize hA : H ++ [AObj.cells [.int .i64 n, v] 28 false] = A
  have pA : H <+: A := by rw [← hA]; exact List.prefix_append _ _
  have cA : A[H.length]? = some (.cells [.int .i64 n, v] 28 false) := by rw [← hA]; exact at_new ..
  have rA := hr.pre pA
  have xA := hs.pre pA
  simp (maxSteps := 1000000) (disch := omega) only [xA.len Try.underlying32, S, S1, S2, S3, S4, S5, ST, eq_self, reduceIte, reduceCtorEq, Nat.reduceEqDiff, Nat.reduceAdd]
  refine LoopH.by (fun m s H' => ∃ (i b : Nat), m + i = ds.length ∧ s 2 = .pointer (some ⟨H.length, 0, none⟩) ∧ s 5 = .int .u64 (b : Int) ∧ s 8 = w ∧ s 9 = .int .i64 (ds.length : Int) ∧ s 10 = .int .i64 ((i : Nat) : Int) ∧ BagI b (seenL es (ds.take i)) ∧ H' = A) ds.length ?_ ?_
  · exact ⟨0, 0, by simp, rfl, rfl, rfl, rfl, rfl, by simpa [seenL] using BagI.zero, rfl⟩
  rintro m s H' ⟨i, b, hm, h2, h5, h8, h9, h10, hb, rfl⟩
  simp (maxSteps := 1000000) (disch := omega) only [h2, h5, h8, h9, h10, S, S1, S2, S3, S4, S5, ST, eq_self, reduceIte, reduceCtorEq, Nat.reduceEqDiff, Nat.reduceAdd]
  refine brD.intro (fun g => ?_) (fun g => ?_)
  · have hi : i < ds.length := by omega
    have hdm : ds.getD i 0 ∈ ds := by simp [hi]
    have hdr := hd _ hdm
    have hei : (ds.getD i 0).toNat < es.length := by omega
    have hst := seenL_take es ds i hi
    obtain ⟨x, y, ex, ey, hxy, hyn, hy8⟩ := grd_ed hg hei
    unfold ed1 ed2 at hst
    rw [ex, ey] at hst
    have hb64 : b < 2 ^ 64 := Nat.lt_of_lt_of_le hb.1 (by decide)
    have hx64 : 2 ^ x < 2 ^ 64 := Nat.pow_lt_pow_right (by decide) (by omega)
    have hy64 : 2 ^ y < 2 ^ 64 := Nat.pow_lt_pow_right (by decide) (by omega)
    have k1 := bin_shl Try.prog 117 x (by omega)
    have k2 := bin_shl Try.prog 117 y (by omega)
    have k3 := bin_or Try.prog 117 (2 ^ x) (2 ^ y) hx64 hy64
    have k5 := bin_or Try.prog 117 b (2 ^ x ||| 2 ^ y) hb64 (Nat.or_lt_two_pow hx64 hy64)
    have l0 := rA.cell0 hei
    have l1 := rA.cell1 hei
    rw [ex] at l0
    rw [ey] at l1
    have f1 : BagI (b ||| (2 ^ x ||| 2 ^ y)) (seenL es (ds.take (i + 1))) := by
      rw [hst, ← Nat.or_assoc]
      have := (hb.or (y := x) (by omega)).or (y := y) (by omega)
      rw [List.append_assoc] at this
      exact this
    simp (maxSteps := 1000000) (disch := omega) only [h2, h5, h8, h9, h10, cell_of cA, xA.ix Try.underlying32 cs3, xA.cell, rA.ix Try.underlying22 cs76, Int.toNat_natCast, l0, l1, k1, k2, k3, k5, wrap64, S, S1, S2, S3, S4, S5, ST, eq_self, reduceIte, reduceCtorEq, Nat.reduceEqDiff, Nat.reduceAdd]
    refine ⟨m - 1, by omega, i + 1, b ||| (2 ^ x ||| 2 ^ y), ?_⟩
    (repeat' first | exact f1 | apply And.intro) <;> first | (simp only [Value.int.injEq, true_and]; omega) | omega | rfl | assumption | (simp; done) | (simp; omega)
  · simp (maxSteps := 1000000) (disch := omega) only [h5, S, S1, S2, S3, S4, S5, ST, eq_self, reduceIte, reduceCtorEq, Nat.reduceEqDiff, Nat.reduceAdd]
    refine hQ _ _ _ ?_
    simp (maxSteps := 1000000) (disch := omega) only [S, S1, S2, S3, S4, S5, ST, eq_self, reduceIte, reduceCtorEq, Nat.reduceEqDiff, Nat.reduceAdd]
    rw [List.take_of_length_le (by omega)] at hb
    exact ⟨b, rfl, hb, pA⟩
end Go.Proofs.Ythhnpchjjbjabaa.Ai
