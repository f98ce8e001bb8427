/- Matchings, both sides. -/
import Derived.Test.YthhnpchjjbjabaaMatP
import Derived.Test.YthhnpchjjbjabaaGood
import Derived.Test.YthhnpchjjbjabaaHas
import Derived.Test.YthhnpchjjbjabaaBag
import Derived.Test.YthhnpchjjbjabaaPerm
import Derived.Test.YthhnpchjjbjabaaProg
import Derived.Test.YthhnpchjjbjabaaAiM2
import Derived.KernelRfl
/- Slim code of this translation. By the kernel. -/
namespace Go.Proofs.Ythhnpchjjbjabaa.Ai
open Go

/- loop.example/g01128/spec.l8Matches -/
def ords134 : List (Nat × List (Nat × Bool)) := [(5, [(0, false), (1, false), (2, false), (3, false), (4, false), (5, false), (6, false), (7, false), (8, true), (9, false), (10, false), (11, false), (12, false), (13, false), (14, false), (15, false), (16, false), (17, false), (18, false), (19, false), (20, false), (21, false), (22, false), (23, false), (24, false), (25, false)]), (7, [(0, false), (1, false), (2, false), (3, false), (4, false), (5, false), (6, false), (7, false), (8, false), (9, true)]), (10, [(0, false), (1, false), (2, false), (3, false), (5, false), (6, false), (7, false), (4, true), (8, true), (9, true)])]
def cd134 : Cd := (.seq (.reg [⟨⟨some 2, Op.box 28 (Operand.tmp 0), none⟩, []⟩,
  ⟨⟨some 4, Op.assign (Operand.const (Value.bool false)), none⟩, []⟩]) (.seq (.reg [⟨⟨some 8, Op.buildSlice 32 0 #[], none⟩, []⟩,
  ⟨⟨some 5, Op.assign (Operand.tmp 8), none⟩, []⟩]) (.seq (.seq (.reg [⟨⟨some 6, Op.assign (Operand.const (Value.int IntKind.i64 0)), none⟩, []⟩]) (.block 0 (.loop (.seq (.seq (.reg [⟨⟨some 9, Op.move (Operand.tmp 6), none⟩, []⟩,
  ⟨⟨some 10, Op.move (Operand.tmp 1), none⟩, []⟩,
  ⟨⟨some 11, Op.call { callee := (Callee.builtin Builtin.len), args := #[(Operand.tmp 10)], argTypes := #[32] }, none⟩, []⟩,
  ⟨⟨some 12, Op.binOp BinOp.lss 3 (Operand.tmp 9) (Operand.tmp 11) 3, none⟩, []⟩]) (.cond (Operand.tmp 12) .skip (.exit 0))) (.seq (.block 1 (.seq (.seq (.reg [⟨⟨some 15, Op.move (Operand.tmp 1), none⟩, []⟩,
  ⟨⟨some 16, Op.move (Operand.tmp 6), none⟩, []⟩,
  ⟨⟨some 17, Op.indexAddr 32 (Operand.tmp 15) (Operand.tmp 16), none⟩, []⟩,
  ⟨⟨some 18, Op.load 3 (Operand.tmp 17), none⟩, []⟩,
  ⟨⟨some 19, Op.fieldAddr 28 (Operand.tmp 2) 1, none⟩, []⟩,
  ⟨⟨some 20, Op.load 22 (Operand.tmp 19), none⟩, []⟩,
  ⟨⟨some 21, Op.call { callee := (Callee.builtin Builtin.len), args := #[(Operand.tmp 20)], argTypes := #[22] }, none⟩, []⟩,
  ⟨⟨some 22, Op.binOp BinOp.sub 3 (Operand.tmp 21) (Operand.const (Value.int IntKind.i64 1)) 3, none⟩, []⟩,
  ⟨⟨some 23, Op.call { callee := (Callee.value (Operand.func 93)), args := #[(Operand.tmp 18), (Operand.const (Value.int IntKind.i64 0)), (Operand.tmp 22)], argTypes := #[3, 3, 3] }, none⟩, []⟩,
  ⟨⟨some 24, Op.unOp UnOp.not 4 (Operand.tmp 23), none⟩, []⟩,
  ⟨⟨some 25, Op.move (Operand.tmp 24), none⟩, []⟩,
  ⟨⟨some 26, Op.move (Operand.tmp 6), some (25, false)⟩, []⟩,
  ⟨⟨some 27, Op.binOp BinOp.gtr 3 (Operand.tmp 26) (Operand.const (Value.int IntKind.i64 0)) 3, some (25, false)⟩, []⟩,
  ⟨⟨some 28, Op.move (Operand.tmp 27), some (25, false)⟩, []⟩,
  ⟨⟨some 29, Op.move (Operand.tmp 1), some (28, true)⟩, []⟩,
  ⟨⟨some 30, Op.move (Operand.tmp 6), some (28, true)⟩, []⟩,
  ⟨⟨some 31, Op.binOp BinOp.sub 3 (Operand.tmp 30) (Operand.const (Value.int IntKind.i64 1)) 3, some (28, true)⟩, []⟩,
  ⟨⟨some 32, Op.indexAddr 32 (Operand.tmp 29) (Operand.tmp 31), some (28, true)⟩, []⟩,
  ⟨⟨some 33, Op.load 3 (Operand.tmp 32), some (28, true)⟩, []⟩,
  ⟨⟨some 34, Op.move (Operand.tmp 1), some (28, true)⟩, []⟩,
  ⟨⟨some 35, Op.move (Operand.tmp 6), some (28, true)⟩, []⟩,
  ⟨⟨some 36, Op.indexAddr 32 (Operand.tmp 34) (Operand.tmp 35), some (28, true)⟩, []⟩,
  ⟨⟨some 37, Op.load 3 (Operand.tmp 36), some (28, true)⟩, []⟩,
  ⟨⟨some 38, Op.binOp BinOp.geq 3 (Operand.tmp 33) (Operand.tmp 37) 3, some (28, true)⟩, []⟩,
  ⟨⟨some 39, Op.pick (Operand.tmp 28) (Operand.tmp 38) (Operand.const (Value.bool false)), some (25, false)⟩, []⟩,
  ⟨⟨some 40, Op.pick (Operand.tmp 25) (Operand.const (Value.bool true)) (Operand.tmp 39), none⟩, []⟩]) (.cond (Operand.tmp 40) (.seq (.reg [⟨⟨some 4, Op.assign (Operand.const (Value.bool false)), none⟩, []⟩]) .ret) .skip)) (.seq (.reg [⟨⟨some 41, Op.fieldAddr 28 (Operand.tmp 2) 1, none⟩, []⟩,
  ⟨⟨some 42, Op.load 22 (Operand.tmp 41), none⟩, []⟩,
  ⟨⟨some 43, Op.move (Operand.tmp 1), none⟩, []⟩,
  ⟨⟨some 44, Op.move (Operand.tmp 6), none⟩, []⟩,
  ⟨⟨some 45, Op.indexAddr 32 (Operand.tmp 43) (Operand.tmp 44), none⟩, []⟩,
  ⟨⟨some 46, Op.load 3 (Operand.tmp 45), none⟩, []⟩,
  ⟨⟨some 47, Op.indexAddr 22 (Operand.tmp 42) (Operand.tmp 46), none⟩, []⟩,
  ⟨⟨some 48, Op.load 76 (Operand.tmp 47), none⟩, []⟩,
  ⟨⟨some 7, Op.alloc 76, none⟩, []⟩,
  ⟨⟨none, Op.store 76 (Operand.tmp 7) (Operand.tmp 48), none⟩, []⟩]) (.seq (.seq (.reg [⟨⟨some 49, Op.move (Operand.tmp 5), none⟩, []⟩,
  ⟨⟨some 50, Op.indexAddr 76 (Operand.tmp 7) (Operand.const (Value.int IntKind.i64 0)), none⟩, []⟩,
  ⟨⟨some 51, Op.load 3 (Operand.tmp 50), none⟩, []⟩,
  ⟨⟨some 52, Op.call { callee := (Callee.value (Operand.func 123)), args := #[(Operand.tmp 49), (Operand.tmp 51)], argTypes := #[32, 3] }, none⟩, []⟩,
  ⟨⟨some 53, Op.move (Operand.tmp 52), none⟩, []⟩,
  ⟨⟨some 54, Op.move (Operand.tmp 5), some (53, false)⟩, []⟩,
  ⟨⟨some 55, Op.indexAddr 76 (Operand.tmp 7) (Operand.const (Value.int IntKind.i64 1)), some (53, false)⟩, []⟩,
  ⟨⟨some 56, Op.load 3 (Operand.tmp 55), some (53, false)⟩, []⟩,
  ⟨⟨some 57, Op.call { callee := (Callee.value (Operand.func 123)), args := #[(Operand.tmp 54), (Operand.tmp 56)], argTypes := #[32, 3] }, some (53, false)⟩, []⟩,
  ⟨⟨some 58, Op.pick (Operand.tmp 53) (Operand.const (Value.bool true)) (Operand.tmp 57), none⟩, []⟩]) (.cond (Operand.tmp 58) (.seq (.reg [⟨⟨some 4, Op.assign (Operand.const (Value.bool false)), none⟩, []⟩]) .ret) .skip)) (.reg [⟨⟨some 59, Op.move (Operand.tmp 5), none⟩, []⟩,
  ⟨⟨some 60, Op.indexAddr 76 (Operand.tmp 7) (Operand.const (Value.int IntKind.i64 0)), none⟩, []⟩,
  ⟨⟨some 61, Op.load 3 (Operand.tmp 60), none⟩, []⟩,
  ⟨⟨some 62, Op.buildSlice 32 1 #[(0, (Operand.tmp 61))], none⟩, []⟩,
  ⟨⟨some 64, Op.indexAddr 76 (Operand.tmp 7) (Operand.const (Value.int IntKind.i64 1)), none⟩, []⟩,
  ⟨⟨some 65, Op.load 3 (Operand.tmp 64), none⟩, []⟩,
  ⟨⟨some 66, Op.buildSlice 32 1 #[(0, (Operand.tmp 65))], none⟩, []⟩,
  ⟨⟨some 63, Op.call { callee := (Callee.builtin Builtin.append), args := #[(Operand.tmp 59), (Operand.tmp 62)], argTypes := #[32, 32] }, none⟩, [⟨some 66, Op.buildSlice 32 1 #[(0, (Operand.tmp 65))], none⟩, ⟨some 65, Op.load 3 (Operand.tmp 64), none⟩]⟩,
  ⟨⟨some 67, Op.call { callee := (Callee.builtin Builtin.append), args := #[(Operand.tmp 63), (Operand.tmp 66)], argTypes := #[32, 32] }, none⟩, []⟩,
  ⟨⟨some 5, Op.assign (Operand.tmp 67), none⟩, []⟩]))))) (.reg [⟨⟨some 13, Op.move (Operand.tmp 6), none⟩, []⟩,
  ⟨⟨some 14, Op.binOp BinOp.add 3 (Operand.tmp 13) (Operand.const (Value.int IntKind.i64 1)) 3, none⟩, []⟩,
  ⟨⟨some 6, Op.assign (Operand.tmp 14), none⟩, []⟩])))))) (.seq (.reg [⟨⟨some 4, Op.assign (Operand.const (Value.bool true)), none⟩, []⟩]) .ret))))
theorem sl134 : slim Try.f134.ntmps ords134 (Try.f134.body.getD .skip) = some cd134 := by kernel_rfl
theorem in134 {args : List Value} {H : AH} {R : Value → AH → Prop} (hl : args.length = 2) (h : ∀ (Q : Exit → Sl → AH → Prop), (∀ e s H, endA Try.prog [ResultVar.tmp 4] R e s H → Q e s H) → wpC Try.prog cd134 Q (enterA args) H) : ACalls Try.prog 134 args H R :=
  ACalls.intro (by kernel_rfl) Try.func134 rfl (by kernel_rfl) sl134 hl (of_decide_eq_true (by kernel_rfl)) (by kernel_rfl) h

/- (loop.example/g01128/impl.Graph).isMatching -/
def ords137 : List (Nat × List (Nat × Bool)) := [(7, [(0, false), (1, false), (2, false), (3, false), (4, false), (5, false), (6, false), (7, false), (8, false), (9, false), (10, false), (11, false), (12, false), (13, false), (14, false), (15, false)])]
def cd137 : Cd := (.seq (.reg [⟨⟨some 2, Op.box 28 (Operand.tmp 0), none⟩, []⟩,
  ⟨⟨some 4, Op.assign (Operand.const (Value.bool false)), none⟩, []⟩]) (.seq (.seq (.reg [⟨⟨some 9, Op.move (Operand.tmp 1), none⟩, []⟩,
  ⟨⟨some 10, Op.fieldAddr 28 (Operand.tmp 2) 1, none⟩, []⟩,
  ⟨⟨some 11, Op.load 22 (Operand.tmp 10), none⟩, []⟩,
  ⟨⟨some 12, Op.call { callee := (Callee.builtin Builtin.len), args := #[(Operand.tmp 11)], argTypes := #[22] }, none⟩, []⟩,
  ⟨⟨some 13, Op.call { callee := (Callee.value (Operand.func 163)), args := #[(Operand.tmp 9), (Operand.tmp 12)], argTypes := #[32, 3] }, none⟩, []⟩,
  ⟨⟨some 14, Op.unOp UnOp.not 4 (Operand.tmp 13), none⟩, []⟩]) (.cond (Operand.tmp 14) (.seq (.reg [⟨⟨some 4, Op.assign (Operand.const (Value.bool false)), none⟩, []⟩]) .ret) .skip)) (.seq (.reg [⟨⟨some 5, Op.assign (Operand.const (Value.int IntKind.u64 0)), none⟩, []⟩]) (.seq (.seq (.reg [⟨⟨some 15, Op.move (Operand.tmp 1), none⟩, []⟩,
  ⟨⟨some 16, Op.call { callee := (Callee.builtin Builtin.len), args := #[(Operand.tmp 15)], argTypes := #[32] }, none⟩, []⟩,
  ⟨⟨some 17, Op.move (Operand.const (Value.int IntKind.i64 0)), none⟩, []⟩]) (.block 0 (.loop (.seq (.reg [⟨⟨some 18, Op.binOp BinOp.lss 3 (Operand.tmp 17) (Operand.tmp 16) 3, none⟩, []⟩]) (.seq (.cond (Operand.tmp 18) .skip (.exit 0)) (.seq (.block 1 (.seq (.reg [⟨⟨some 19, Op.indexAddr 32 (Operand.tmp 15) (Operand.tmp 17), none⟩, []⟩,
  ⟨⟨some 20, Op.load 3 (Operand.tmp 19), none⟩, []⟩,
  ⟨⟨some 7, Op.assign (Operand.tmp 20), none⟩, []⟩]) (.seq (.reg [⟨⟨some 21, Op.fieldAddr 28 (Operand.tmp 2) 1, none⟩, []⟩,
  ⟨⟨some 22, Op.load 22 (Operand.tmp 21), none⟩, []⟩,
  ⟨⟨some 23, Op.move (Operand.tmp 7), none⟩, []⟩,
  ⟨⟨some 24, Op.indexAddr 22 (Operand.tmp 22) (Operand.tmp 23), none⟩, []⟩,
  ⟨⟨some 25, Op.indexAddr 76 (Operand.tmp 24) (Operand.const (Value.int IntKind.i64 0)), none⟩, []⟩,
  ⟨⟨some 26, Op.load 3 (Operand.tmp 25), none⟩, []⟩,
  ⟨⟨some 27, Op.binOp BinOp.shl 117 (Operand.const (Value.int IntKind.u64 1)) (Operand.tmp 26) 3, none⟩, []⟩,
  ⟨⟨some 28, Op.fieldAddr 28 (Operand.tmp 2) 1, none⟩, []⟩,
  ⟨⟨some 29, Op.load 22 (Operand.tmp 28), none⟩, []⟩,
  ⟨⟨some 30, Op.move (Operand.tmp 7), none⟩, []⟩,
  ⟨⟨some 31, Op.indexAddr 22 (Operand.tmp 29) (Operand.tmp 30), none⟩, []⟩,
  ⟨⟨some 32, Op.indexAddr 76 (Operand.tmp 31) (Operand.const (Value.int IntKind.i64 1)), none⟩, []⟩,
  ⟨⟨some 33, Op.load 3 (Operand.tmp 32), none⟩, []⟩,
  ⟨⟨some 34, Op.binOp BinOp.shl 117 (Operand.const (Value.int IntKind.u64 1)) (Operand.tmp 33) 3, none⟩, []⟩,
  ⟨⟨some 35, Op.binOp BinOp.or 117 (Operand.tmp 27) (Operand.tmp 34) 117, none⟩, []⟩,
  ⟨⟨some 8, Op.assign (Operand.tmp 35), none⟩, []⟩]) (.seq (.seq (.reg [⟨⟨some 36, Op.move (Operand.tmp 5), none⟩, []⟩,
  ⟨⟨some 37, Op.move (Operand.tmp 8), none⟩, []⟩,
  ⟨⟨some 38, Op.binOp BinOp.and 117 (Operand.tmp 36) (Operand.tmp 37) 117, none⟩, []⟩,
  ⟨⟨some 39, Op.binOp BinOp.neq 117 (Operand.tmp 38) (Operand.const (Value.int IntKind.u64 0)) 117, none⟩, []⟩]) (.cond (Operand.tmp 39) (.seq (.reg [⟨⟨some 4, Op.assign (Operand.const (Value.bool false)), none⟩, []⟩]) .ret) .skip)) (.reg [⟨⟨some 40, Op.move (Operand.tmp 5), none⟩, []⟩,
  ⟨⟨some 41, Op.move (Operand.tmp 8), none⟩, []⟩,
  ⟨⟨some 42, Op.binOp BinOp.or 117 (Operand.tmp 40) (Operand.tmp 41) 117, none⟩, []⟩,
  ⟨⟨some 5, Op.assign (Operand.tmp 42), none⟩, []⟩]))))) (.reg [⟨⟨some 43, Op.binOp BinOp.add 3 (Operand.tmp 17) (Operand.const (Value.int IntKind.i64 1)) 3, none⟩, []⟩,
  ⟨⟨some 17, Op.move (Operand.tmp 43), none⟩, []⟩]))))))) (.seq (.reg [⟨⟨some 4, Op.assign (Operand.const (Value.bool true)), none⟩, []⟩]) .ret)))))
theorem sl137 : slim Try.f137.ntmps ords137 (Try.f137.body.getD .skip) = some cd137 := by kernel_rfl
theorem in137 {args : List Value} {H : AH} {R : Value → AH → Prop} (hl : args.length = 2) (h : ∀ (Q : Exit → Sl → AH → Prop), (∀ e s H, endA Try.prog [ResultVar.tmp 4] R e s H → Q e s H) → wpC Try.prog cd137 Q (enterA args) H) : ACalls Try.prog 137 args H R :=
  ACalls.intro (by kernel_rfl) Try.func137 rfl (by kernel_rfl) sl137 hl (of_decide_eq_true (by kernel_rfl)) (by kernel_rfl) h
end Go.Proofs.Ythhnpchjjbjabaa.Ai

namespace Go.Proofs.Ythhnpchjjbjabaa.Ai
open Go Go.RowKit
set_option linter.unusedVariables false
set_option linter.unusedSimpArgs false

/-- two numbers, appended one after the other -/
theorem Own.app2 {P : Program} {t e : TypeId} (hu : P.underlying t = some (.slice e)) (hc : P.cellsOf e = 1) (hby : P.bytesOf e ≤ 64) (hz : zeroOk P e = true) {H0 B : AH} {v : Value} {ys : List Int} (h : Own e H0 B v ys) (hp : H0 <+: B) (hb : ys.length ≤ 1099511627774) (a b : Int) :
    ∃ v1 H1, appendA P t t v (.slice (some ⟨B.length, 0, none⟩) 1 1) (B ++ [.cells [.int .i64 a] e false] ++ [.cells [.int .i64 b] e false]) = some (v1, H1) ∧ isTup v1 = false ∧ H1[(B ++ [AObj.cells [.int .i64 a] e false]).length]? = some (.cells [.int .i64 b] e false) ∧ Kept v B H1 ∧
      ∃ v2 H2, appendA P t t v1 (.slice (some ⟨(B ++ [AObj.cells [.int .i64 a] e false]).length, 0, none⟩) 1 1) H1 = some (v2, H2) ∧ Own e H0 H2 v2 (ys ++ [a, b]) ∧ H0 <+: H2 ∧ Kept v B H2 ∧ isTup v2 = false := by
  have hx : Row e (B ++ [.cells [.int .i64 a] e false] ++ [.cells [.int .i64 b] e false]) (.slice (some ⟨B.length, 0, none⟩) 1 1) [a] := .inr ⟨B.length, 0, [.int .i64 a], false, rfl, at_app (at_new ..) _, by simp, rfl⟩
  have p2 : B <+: B ++ [AObj.cells [.int .i64 a] e false] ++ [.cells [.int .i64 b] e false] := pre_app (List.prefix_append _ _) _
  obtain ⟨v1, H1, h1, h2, h3, h4, h5⟩ := (h.pre p2).app hu hc hby hz hx (hp.trans p2) (by simp; omega)
  have hY : H1[(B ++ [AObj.cells [.int .i64 a] e false]).length]? = some (.cells [.int .i64 b] e false) := by
    refine h4 _ _ ?_ (at_new ..)
    rcases h.row.nil with g | g
    · exact .inl g.1
    · right; simp; omega
  have hy : Row e H1 (.slice (some ⟨(B ++ [AObj.cells [.int .i64 a] e false]).length, 0, none⟩) 1 1) [b] :=
    .inr ⟨_, 0, [.int .i64 b], false, rfl, hY, by simp, rfl⟩
  obtain ⟨v2, H2, k1, k2, k3, k4, k5⟩ := h2.app hu hc hby hz hy h3 (by simp; omega)
  refine ⟨v1, H1, h1, h2.row.tup, hY, fun o y ho hoy => h4 o y ho (pre_at p2 hoy), v2, H2, k1, by simpa using k2, k3, fun o y ho hoy => k4 o y ?_ (h4 o y ho (pre_at p2 hoy)), k2.row.tup⟩
  rcases h5 with h5 | ⟨h5, h6⟩
  · right
    have := at_lt hoy
    simp only [List.length_append, List.length_cons, List.length_nil] at h5; omega
  · subst h5; exact ho

set_option maxRecDepth 20000 in
set_option maxHeartbeats 4000000 in
theorem l8Matches_c (n : Int) (v w : Value) (es : List (Int × Int)) (xs : List Int) (H : AH) (hr : RowP 76 H v es) (hx : Row 3 H w xs) (hlen : es.length ≤ 1099511627776) (hlx : xs.length ≤ 1048576) :
    ACalls Try.prog 134 [.agg (List.toArray [.int .i64 n, v]), w] H fun r H' => r = .bool (decide (Mtc es xs)) ∧ H <+: H' := by
  refine in134 rfl ?_
  intro Q hQ
  simp (maxSteps := 1000000) (disch := omega) only [cd134, hr.boxG, S, S1, S2, S3, S4, S5, ST, eq_self, reduceIte, reduceCtorEq, Nat.reduceEqDiff, Nat.reduceAdd]
  generalize hA : H ++ [AObj.cells [.int .i64 n, v] 28 false] = A
  have pA : H <+: A := by rw [← hA]; exact List.prefix_append _ _
  have cA : A[H.length]? = some (.cells [.int .i64 n, v] 28 false) := by rw [← hA]; exact at_new ..
  have rA := hr.pre pA
  try simp (maxSteps := 1000000) (disch := omega) only [S, S1, S2, S3, S4, S5, ST, eq_self, reduceIte, reduceCtorEq, Nat.reduceEqDiff, Nat.reduceAdd]
  have xA := hx.pre pA
  refine LoopH.by (fun m s H' => ∃ i, m + i = xs.length ∧ s 1 = w ∧ s 2 = .pointer (some ⟨H.length, 0, none⟩) ∧ s 6 = .int .i64 ((i : Nat) : Int) ∧ MtU es xs i ∧ Own 3 A H' (s 5) (seenL es (xs.take i)) ∧ A <+: H') xs.length ?_ ?_
  · refine ⟨0, by simp, rfl, rfl, rfl, MtU.zero _ _, .inr ⟨A.length, rfl, Nat.le_refl _, at_new ..⟩, List.prefix_append _ _⟩
  · rintro m s H' ⟨i, hm, h1, h2, h6, hu, ho, hp⟩
    have hr' := rA.pre hp
    have hx' := xA.pre hp
    have cH := pre_at hp cA
    generalize hw : s 5 = u at *
    simp (maxSteps := 1000000) (disch := omega) only [h1, h2, h6, hw, hx'.len Try.underlying32, S, S1, S2, S3, S4, S5, ST, eq_self, reduceIte, reduceCtorEq, Nat.reduceEqDiff, Nat.reduceAdd]
    refine brD.intro (fun g => ?_) (fun g => ?_)
    · have hi : i < xs.length := by omega
      have e0 : ((i : Int) - 1).toNat = i - 1 := by omega
      have hsl : (seenL es (xs.take i)).length ≤ 2097152 := by rw [seenL_len, List.length_take]; omega
      have hst := seenL_take es xs i hi
      have bad : ¬ (rsOk es.length xs i ∧ frOk es xs i) → decide (Mtc es xs) = false := fun h => decide_eq_false (MtU.no hi h)
      have nxt : rsOk es.length xs i → frOk es xs i → MtU es xs (i + 1) := hu.succ
      have hpp := pA.trans hp
      simp (maxSteps := 1000000) (disch := omega) only [h1, h2, h6, hw, cell_of cH, hr'.len Try.underlying22, hx'.ix Try.underlying32 cs3, hx'.cell, Int.toNat_natCast, wrap64, S, S1, S2, S3, S4, S5, ST, eq_self, reduceIte, reduceCtorEq, Nat.reduceEqDiff, Nat.reduceAdd]
      refine CallH.by (l1In_c _ _ _ H') ?_
      rintro _ _ ⟨rfl, rfl⟩
      simp (maxSteps := 1000000) (disch := omega) only [h1, h2, h6, hw, S, S1, S2, S3, S4, S5, ST, eq_self, reduceIte, reduceCtorEq, Nat.reduceEqDiff, Nat.reduceAdd]
      refine brD.intro (fun e1 => ?_) (fun e1 => ?_) <;> simp (maxSteps := 1000000) (disch := omega) only [e1, h1, h2, h6, hw, S, S1, S2, S3, S4, S5, ST, eq_self, reduceIte, reduceCtorEq, Nat.reduceEqDiff, Nat.reduceAdd]
      · have hei : (xs.getD i 0).toNat < es.length := by omega
        refine brD.intro (fun e2 => ?_) (fun e2 => ?_) <;> simp (maxSteps := 1000000) (disch := omega) only [e1, e2, e0, h1, h2, h6, hw, hx'.ix Try.underlying32 cs3, hx'.cell, cell_of cH, Int.toNat_natCast, wrap64, S, S1, S2, S3, S4, S5, ST, eq_self, reduceIte, reduceCtorEq, Nat.reduceEqDiff, Nat.reduceAdd]
        · refine brD.intro (fun e3 => ?_) (fun e3 => ?_) <;> simp (maxSteps := 1000000) (disch := omega) only [e1, e2, e3, h1, h2, h6, hw, S, S1, S2, S3, S4, S5, ST, eq_self, reduceIte, reduceCtorEq, Nat.reduceEqDiff, Nat.reduceAdd]
          · refine hQ _ _ _ ?_
            simp (maxSteps := 1000000) (disch := omega) only [S, S1, S2, S3, S4, S5, ST, eq_self, reduceIte, reduceCtorEq, Nat.reduceEqDiff, Nat.reduceAdd]
            exact ⟨by rw [bad (fun h => by have := h.1.2 (by omega); omega)], hpp⟩
          · have hrs : rsOk es.length xs i := ⟨e1, fun h => by omega⟩
            have hst0 := store_a2 H' [.int .i64 0, .int .i64 0] rfl
            have hld := hr'.ld ag76 cs76 hei
            have hfr : frOk es xs i ↔ ((es.getD (xs.getD i 0).toNat (0, 0)).1 ∉ seenL es (xs.take i) ∧ (es.getD (xs.getD i 0).toNat (0, 0)).2 ∉ seenL es (xs.take i)) := Iff.rfl
            have hst' : seenL es (xs.take (i + 1)) = seenL es (xs.take i) ++ [(es.getD (xs.getD i 0).toNat (0, 0)).1, (es.getD (xs.getD i 0).toNat (0, 0)).2] := hst
            simp (maxSteps := 1000000) (disch := omega) only [e1, e2, e3, h1, h2, h6, hw, cell_of cH, hx'.ix Try.underlying32 cs3, hx'.cell, hr'.ix Try.underlying22 cs76, Int.toNat_natCast, hld, alloc_a2, hst0, cell_new, wrap64, S, S1, S2, S3, S4, S5, ST, eq_self, reduceIte, reduceCtorEq, Nat.reduceEqDiff, Nat.reduceAdd]
            generalize hy : es.getD (xs.getD i 0).toNat (0, 0) = y at *
            generalize hB : H' ++ [AObj.cells [.int .i64 y.1, .int .i64 y.2] 76 false] = B
            have pB : H' <+: B := by rw [← hB]; exact List.prefix_append _ _
            have b0 : B[H'.length]? = some (.cells [.int .i64 y.1, .int .i64 y.2] 76 false) := by rw [← hB]; exact at_new ..
            have hoB := ho.pre pB
            have hpB := hp.trans pB
            refine CallH.by (l1Has_c u (seenL es (xs.take i)) y.1 B hoB.row (by omega)) ?_
            rintro _ _ ⟨rfl, rfl⟩
            simp (maxSteps := 1000000) (disch := omega) only [e1, e2, e3, cell_of b0, S, S1, S2, S3, S4, S5, ST, eq_self, reduceIte, reduceCtorEq, Nat.reduceEqDiff, Nat.reduceAdd]
            refine brD.intro (fun e4 => ?_) (fun e4 => ?_) <;> simp (maxSteps := 1000000) (disch := omega) only [e1, e2, e3, e4, h1, h2, h6, hw, cell_of b0, S, S1, S2, S3, S4, S5, ST, eq_self, reduceIte, reduceCtorEq, Nat.reduceEqDiff, Nat.reduceAdd]
            · refine hQ _ _ _ ?_
              simp (maxSteps := 1000000) (disch := omega) only [S, S1, S2, S3, S4, S5, ST, eq_self, reduceIte, reduceCtorEq, Nat.reduceEqDiff, Nat.reduceAdd]
              exact ⟨by rw [bad (fun h => (hfr.1 h.2).1 e4)], hpp.trans pB⟩
            · refine CallH.by (l1Has_c u (seenL es (xs.take i)) y.2 B hoB.row (by omega)) ?_
              rintro _ _ ⟨rfl, rfl⟩
              simp (maxSteps := 1000000) (disch := omega) only [e1, e2, e3, e4, cell_of b0, S, S1, S2, S3, S4, S5, ST, eq_self, reduceIte, reduceCtorEq, Nat.reduceEqDiff, Nat.reduceAdd]
              refine brD.intro (fun e5 => ?_) (fun e5 => ?_) <;> simp (maxSteps := 1000000) (disch := omega) only [e1, e2, e3, e4, e5, h1, h2, h6, hw, cell_of b0, wrap64, S, S1, S2, S3, S4, S5, ST, eq_self, reduceIte, reduceCtorEq, Nat.reduceEqDiff, Nat.reduceAdd]
              · refine hQ _ _ _ ?_
                simp (maxSteps := 1000000) (disch := omega) only [S, S1, S2, S3, S4, S5, ST, eq_self, reduceIte, reduceCtorEq, Nat.reduceEqDiff, Nat.reduceAdd]
                exact ⟨by rw [bad (fun h => (hfr.1 h.2).2 e5)], hpp.trans pB⟩
              · obtain ⟨v1, H1, k1, k2, kY, kB, v2, H2, k3, k4, k5, k6, k7⟩ := hoB.app2 (P := Try.prog) Try.underlying32 cs3 (by rw [by3]; decide) zk3 hpB (by omega) y.1 y.2
                have b1 : H1[H'.length]? = some (.cells [.int .i64 y.1, .int .i64 y.2] 76 false) := kB _ _ (by
                  rcases ho.row.nil with q | q
                  · exact .inl q.1
                  · right; omega) b0
                simp (maxSteps := 1000000) (disch := omega) only [h1, h2, h6, hw, cell_of (at_app b0 _), k1, k3, kY, at_new, cell_of b1, wrap64, S, S1, S2, S3, S4, S5, ST, eq_self, reduceIte, reduceCtorEq, Nat.reduceEqDiff, Nat.reduceAdd]
                rw [← hst'] at k4
                have f1 := nxt hrs (hfr.2 ⟨e4, e5⟩)
                refine ⟨m - 1, by omega, i + 1, ?_⟩
                (repeat' first | exact f1 | exact k4 | exact k5 | apply And.intro) <;> first | (simp only [Value.int.injEq, true_and]; omega) | omega | rfl | assumption | (simp; done) | (simp; omega)
        · have hrs : rsOk es.length xs i := ⟨e1, fun h => by omega⟩
          have hst0 := store_a2 H' [.int .i64 0, .int .i64 0] rfl
          have hld := hr'.ld ag76 cs76 hei
          have hfr : frOk es xs i ↔ ((es.getD (xs.getD i 0).toNat (0, 0)).1 ∉ seenL es (xs.take i) ∧ (es.getD (xs.getD i 0).toNat (0, 0)).2 ∉ seenL es (xs.take i)) := Iff.rfl
          have hst' : seenL es (xs.take (i + 1)) = seenL es (xs.take i) ++ [(es.getD (xs.getD i 0).toNat (0, 0)).1, (es.getD (xs.getD i 0).toNat (0, 0)).2] := hst
          simp (maxSteps := 1000000) (disch := omega) only [e1, e2, h1, h2, h6, hw, cell_of cH, hx'.ix Try.underlying32 cs3, hx'.cell, hr'.ix Try.underlying22 cs76, Int.toNat_natCast, hld, alloc_a2, hst0, cell_new, wrap64, S, S1, S2, S3, S4, S5, ST, eq_self, reduceIte, reduceCtorEq, Nat.reduceEqDiff, Nat.reduceAdd]
          generalize hy : es.getD (xs.getD i 0).toNat (0, 0) = y at *
          generalize hB : H' ++ [AObj.cells [.int .i64 y.1, .int .i64 y.2] 76 false] = B
          have pB : H' <+: B := by rw [← hB]; exact List.prefix_append _ _
          have b0 : B[H'.length]? = some (.cells [.int .i64 y.1, .int .i64 y.2] 76 false) := by rw [← hB]; exact at_new ..
          have hoB := ho.pre pB
          have hpB := hp.trans pB
          refine CallH.by (l1Has_c u (seenL es (xs.take i)) y.1 B hoB.row (by omega)) ?_
          rintro _ _ ⟨rfl, rfl⟩
          simp (maxSteps := 1000000) (disch := omega) only [e1, e2, cell_of b0, S, S1, S2, S3, S4, S5, ST, eq_self, reduceIte, reduceCtorEq, Nat.reduceEqDiff, Nat.reduceAdd]
          refine brD.intro (fun e4 => ?_) (fun e4 => ?_) <;> simp (maxSteps := 1000000) (disch := omega) only [e1, e2, e4, h1, h2, h6, hw, cell_of b0, S, S1, S2, S3, S4, S5, ST, eq_self, reduceIte, reduceCtorEq, Nat.reduceEqDiff, Nat.reduceAdd]
          · refine hQ _ _ _ ?_
            simp (maxSteps := 1000000) (disch := omega) only [S, S1, S2, S3, S4, S5, ST, eq_self, reduceIte, reduceCtorEq, Nat.reduceEqDiff, Nat.reduceAdd]
            exact ⟨by rw [bad (fun h => (hfr.1 h.2).1 e4)], hpp.trans pB⟩
          · refine CallH.by (l1Has_c u (seenL es (xs.take i)) y.2 B hoB.row (by omega)) ?_
            rintro _ _ ⟨rfl, rfl⟩
            simp (maxSteps := 1000000) (disch := omega) only [e1, e2, e4, cell_of b0, S, S1, S2, S3, S4, S5, ST, eq_self, reduceIte, reduceCtorEq, Nat.reduceEqDiff, Nat.reduceAdd]
            refine brD.intro (fun e5 => ?_) (fun e5 => ?_) <;> simp (maxSteps := 1000000) (disch := omega) only [e1, e2, e4, e5, h1, h2, h6, hw, cell_of b0, wrap64, S, S1, S2, S3, S4, S5, ST, eq_self, reduceIte, reduceCtorEq, Nat.reduceEqDiff, Nat.reduceAdd]
            · refine hQ _ _ _ ?_
              simp (maxSteps := 1000000) (disch := omega) only [S, S1, S2, S3, S4, S5, ST, eq_self, reduceIte, reduceCtorEq, Nat.reduceEqDiff, Nat.reduceAdd]
              exact ⟨by rw [bad (fun h => (hfr.1 h.2).2 e5)], hpp.trans pB⟩
            · obtain ⟨v1, H1, k1, k2, kY, kB, v2, H2, k3, k4, k5, k6, k7⟩ := hoB.app2 (P := Try.prog) Try.underlying32 cs3 (by rw [by3]; decide) zk3 hpB (by omega) y.1 y.2
              have b1 : H1[H'.length]? = some (.cells [.int .i64 y.1, .int .i64 y.2] 76 false) := kB _ _ (by
                rcases ho.row.nil with q | q
                · exact .inl q.1
                · right; omega) b0
              simp (maxSteps := 1000000) (disch := omega) only [h1, h2, h6, hw, cell_of (at_app b0 _), k1, k3, kY, at_new, cell_of b1, wrap64, S, S1, S2, S3, S4, S5, ST, eq_self, reduceIte, reduceCtorEq, Nat.reduceEqDiff, Nat.reduceAdd]
              rw [← hst'] at k4
              have f1 := nxt hrs (hfr.2 ⟨e4, e5⟩)
              refine ⟨m - 1, by omega, i + 1, ?_⟩
              (repeat' first | exact f1 | exact k4 | exact k5 | apply And.intro) <;> first | (simp only [Value.int.injEq, true_and]; omega) | omega | rfl | assumption | (simp; done) | (simp; omega)
      · refine hQ _ _ _ ?_
        simp (maxSteps := 1000000) (disch := omega) only [S, S1, S2, S3, S4, S5, ST, eq_self, reduceIte, reduceCtorEq, Nat.reduceEqDiff, Nat.reduceAdd]
        exact ⟨by rw [bad (fun h => e1 h.1.1)], hpp⟩
    · simp (maxSteps := 1000000) (disch := omega) only [h1, h2, h6, hw, S, S1, S2, S3, S4, S5, ST, eq_self, reduceIte, reduceCtorEq, Nat.reduceEqDiff, Nat.reduceAdd]
      refine hQ _ _ _ ?_
      simp (maxSteps := 1000000) (disch := omega) only [S, S1, S2, S3, S4, S5, ST, eq_self, reduceIte, reduceCtorEq, Nat.reduceEqDiff, Nat.reduceAdd]
      have : i = xs.length := by omega
      subst this
      simp [hu, pA.trans hp]

theorem grd_ed {n : Int} {es : List (Int × Int)} (h : Grd n es) {k : Nat} (hk : k < es.length) : ∃ x y : Nat, (es.getD k (0, 0)).1 = x ∧ (es.getD k (0, 0)).2 = y ∧ x < y ∧ (y : Int) < n ∧ y < 8 := by
  obtain ⟨h1, h2⟩ := h
  obtain ⟨a1, a2, a3, _⟩ := h2 k hk
  exact ⟨(es.getD k (0, 0)).1.toNat, (es.getD k (0, 0)).2.toNat, by omega, by omega, by omega, by omega, by omega⟩

set_option maxRecDepth 20000 in
set_option maxHeartbeats 4000000 in
theorem isMatching_c (n : Int) (v w : Value) (es : List (Int × Int)) (xs : List Int) (H : AH) (hr : RowP 76 H v es) (hx : Row 3 H w xs) (hlen : es.length ≤ 1099511627776) (hlx : xs.length ≤ 1000000000) (hg : Grd n es) :
    ACalls Try.prog 137 [.agg (List.toArray [.int .i64 n, v]), w] H fun r H' => r = .bool (decide (Mtc es xs)) ∧ H <+: H' := by
  refine in137 rfl ?_
  intro Q hQ
  simp (maxSteps := 1000000) (disch := omega) only [cd137, hr.boxG, S, S1, S2, S3, S4, S5, ST, eq_self, reduceIte, reduceCtorEq, Nat.reduceEqDiff, Nat.reduceAdd]
  generalize hA : H ++ [AObj.cells [.int .i64 n, v] 28 false] = A
  have pA : H <+: A := by rw [← hA]; exact List.prefix_append _ _
  have cA : A[H.length]? = some (.cells [.int .i64 n, v] 28 false) := by rw [← hA]; exact at_new ..
  have rA := hr.pre pA
  have xA := hx.pre pA
  simp (maxSteps := 1000000) (disch := omega) only [cell_of cA, rA.len Try.underlying22, S, S1, S2, S3, S4, S5, ST, eq_self, reduceIte, reduceCtorEq, Nat.reduceEqDiff, Nat.reduceAdd]
  refine CallH.by (isRising_c w xs es.length A (by omega) xA (by omega)) ?_
  rintro _ _ ⟨rfl, rfl⟩
  simp (maxSteps := 1000000) (disch := omega) only [S, S1, S2, S3, S4, S5, ST, eq_self, reduceIte, reduceCtorEq, Nat.reduceEqDiff, Nat.reduceAdd]
  refine brD.intro (fun e => ?_) (fun e => ?_) <;> simp (maxSteps := 1000000) (disch := omega) only [e, xA.len Try.underlying32, S, S1, S2, S3, S4, S5, ST, eq_self, reduceIte, reduceCtorEq, Nat.reduceEqDiff, Nat.reduceAdd]
  · refine LoopH.by (fun m s H' => ∃ i b, m + i = xs.length ∧ s 2 = .pointer (some ⟨H.length, 0, none⟩) ∧ s 15 = w ∧ s 16 = .int .i64 (xs.length : Int) ∧ s 17 = .int .i64 ((i : Nat) : Int) ∧ s 5 = .int .u64 ((b : Nat) : Int) ∧ Bits b 8 (seenL es (xs.take i)) ∧ MtU es xs i ∧ A = H') xs.length ?_ ?_
    · exact ⟨0, 0, by simp, rfl, rfl, rfl, rfl, rfl, ⟨by decide, fun z _ => by simp [seenL]⟩, MtU.zero _ _, rfl⟩
    · rintro m s H' ⟨i, b, hm, h2, h15, h16, h17, h5, hb, hu, rfl⟩
      simp (maxSteps := 1000000) (disch := omega) only [h2, h15, h16, h17, h5, S, S1, S2, S3, S4, S5, ST, eq_self, reduceIte, reduceCtorEq, Nat.reduceEqDiff, Nat.reduceAdd]
      refine brD.intro (fun g => ?_) (fun g => ?_)
      · have hi : i < xs.length := by omega
        have hrs : rsOk es.length xs i := e i hi
        have hst := seenL_take es xs i hi
        have hei : (xs.getD i 0).toNat < es.length := by have := hrs.1; omega
        have hei2 := hrs.1
        obtain ⟨x, y, ex, ey, hxy, hyn, hy8⟩ := grd_ed hg hei
        have hb64 : b < 2 ^ 64 := Nat.lt_of_lt_of_le hb.1 (by decide)
        have hx64 : 2 ^ x < 2 ^ 64 := Nat.pow_lt_pow_right (by decide) (by omega)
        have hy64 : 2 ^ y < 2 ^ 64 := Nat.pow_lt_pow_right (by decide) (by omega)
        have k1 := bin_shl Try.prog 117 x (by omega)
        have k2 := bin_shl Try.prog 117 y (by omega)
        have k3 := bin_or Try.prog 117 (2 ^ x) (2 ^ y) hx64 hy64
        have k4 := bin_and Try.prog 117 b (2 ^ x ||| 2 ^ y) hb64 (Nat.or_lt_two_pow hx64 hy64)
        have k5 := bin_or Try.prog 117 b (2 ^ x ||| 2 ^ y) hb64 (Nat.or_lt_two_pow hx64 hy64)
        have l0 := rA.cell0 hei
        have l1 := rA.cell1 hei
        rw [ex] at l0
        rw [ey] at l1
        have hno := hb.no (x := x) (y := y) (by omega) hy8
        have hfr : frOk es xs i ↔ ¬ ((x : Int) ∈ seenL es (xs.take i) ∨ (y : Int) ∈ seenL es (xs.take i)) := by
          unfold frOk ed1 ed2
          rw [ex, ey, not_or]
        have hor := hb.or2 (x := x) (y := y) (by omega) hy8
        unfold ed1 ed2 at hst
        rw [ex, ey] at hst
        rw [← hst] at hor
        simp (maxSteps := 1000000) (disch := omega) only [h2, h15, h16, h17, h5, cell_of cA, xA.ix Try.underlying32 cs3, xA.cell, rA.ix Try.underlying22 cs76, Int.toNat_natCast, l0, l1, k1, k2, k3, k4, k5, wrap64, S, S1, S2, S3, S4, S5, ST, eq_self, reduceIte, reduceCtorEq, Nat.reduceEqDiff, Nat.reduceAdd]
        refine brD.intro (fun q => ?_) (fun q => ?_) <;> simp (maxSteps := 1000000) (disch := omega) only [h2, h15, h16, h17, h5, k5, wrap64, S, S1, S2, S3, S4, S5, ST, eq_self, reduceIte, reduceCtorEq, Nat.reduceEqDiff, Nat.reduceAdd]
        · refine hQ _ _ _ ?_
          simp (maxSteps := 1000000) (disch := omega) only [S, S1, S2, S3, S4, S5, ST, eq_self, reduceIte, reduceCtorEq, Nat.reduceEqDiff, Nat.reduceAdd]
          have q' : b &&& (2 ^ x ||| 2 ^ y) ≠ 0 := by intro h; rw [h] at q; exact q rfl
          have := MtU.no (k := xs.length) hi (fun h => (hfr.1 h.2) (hno.1 q'))
          exact ⟨by rw [decide_eq_false this], pA⟩
        · have q' : ¬ (b &&& (2 ^ x ||| 2 ^ y) ≠ 0) := by intro h; apply h; have := Decidable.not_not.1 q; exact_mod_cast this
          have f1 := hu.succ hrs (hfr.2 (fun h => q' (hno.2 h)))
          refine ⟨m - 1, by omega, i + 1, b ||| (2 ^ x ||| 2 ^ y), ?_⟩
          (repeat' first | exact f1 | exact hor | apply And.intro) <;> first | (simp only [Value.int.injEq, true_and]; omega) | omega | rfl | assumption | (simp; done) | (simp; omega)
      · simp (maxSteps := 1000000) (disch := omega) only [S, S1, S2, S3, S4, S5, ST, eq_self, reduceIte, reduceCtorEq, Nat.reduceEqDiff, Nat.reduceAdd]
        refine hQ _ _ _ ?_
        simp (maxSteps := 1000000) (disch := omega) only [S, S1, S2, S3, S4, S5, ST, eq_self, reduceIte, reduceCtorEq, Nat.reduceEqDiff, Nat.reduceAdd]
        have : i = xs.length := by omega
        subst this
        exact ⟨by rw [decide_eq_true hu], pA⟩
  · refine hQ _ _ _ ?_
    simp (maxSteps := 1000000) (disch := omega) only [S, S1, S2, S3, S4, S5, ST, eq_self, reduceIte, reduceCtorEq, Nat.reduceEqDiff, Nat.reduceAdd]
    exact ⟨by rw [decide_eq_false (fun h => e fun i hi => (h i hi).1)], pA⟩

end Go.Proofs.Ythhnpchjjbjabaa.Ai
