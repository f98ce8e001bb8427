/- SlidePlan, SlideDistance: impl's side. -/
import Derived.Test.YthhnpchjjbjabaaStp
import Derived.Test.YthhnpchjjbjabaaIdxL
import Derived.Test.YthhnpchjjbjabaaProg
import Derived.Test.YthhnpchjjbjabaaAiM2
import Derived.KernelRfl
/- Slim code of this translation. By the kernel. -/
namespace Go.Proofs.Ythhnpchjjbjabaa.Ai
open Go

/- loop.example/g01128/impl.SlidePlan$1 -/
def ords102 : List (Nat × List (Nat × Bool)) := [(1, [(0, false), (1, false), (4, false), (5, false), (2, true), (3, true), (6, false), (7, false)])]
def cd102 : Cd := (.seq (.reg [⟨⟨some 4, Op.assign (Operand.const (Value.bool false)), none⟩, []⟩]) (.seq (.reg [⟨⟨some 5, Op.load 70 (Operand.tmp 1), none⟩, []⟩,
  ⟨⟨some 6, Op.move (Operand.tmp 0), none⟩, []⟩,
  ⟨⟨some 9, Op.load 3 (Operand.tmp 2), none⟩, []⟩,
  ⟨⟨some 10, Op.binOp BinOp.sub 3 (Operand.tmp 9) (Operand.const (Value.int IntKind.i64 1)) 3, none⟩, []⟩,
  ⟨⟨some 7, Op.call { callee := (Callee.value (Operand.func 86)), args := #[(Operand.tmp 6)], argTypes := #[32] }, none⟩, [⟨some 9, Op.load 3 (Operand.tmp 2), none⟩, ⟨some 5, Op.load 70 (Operand.tmp 1), none⟩]⟩,
  ⟨⟨some 8, Op.lookup 70 (Operand.tmp 5) (Operand.tmp 7) false, none⟩, [⟨some 9, Op.load 3 (Operand.tmp 2), none⟩]⟩,
  ⟨⟨some 11, Op.binOp BinOp.eql 3 (Operand.tmp 8) (Operand.tmp 10) 3, none⟩, []⟩,
  ⟨⟨some 4, Op.assign (Operand.tmp 11), none⟩, []⟩]) .ret))
theorem sl102 : slim Try.f102.ntmps ords102 (Try.f102.body.getD .skip) = some cd102 := by kernel_rfl
theorem in102 {args : List Value} {H : AH} {R : Value → AH → Prop} (hl : args.length = 3) (h : ∀ (Q : Exit → Sl → AH → Prop), (∀ e s H, endA Try.prog [ResultVar.tmp 4] R e s H → Q e s H) → wpC Try.prog cd102 Q (enterA args) H) : ACalls Try.prog 102 args H R :=
  ACalls.intro (by kernel_rfl) Try.func102 rfl (by kernel_rfl) sl102 hl (of_decide_eq_true (by kernel_rfl)) (by kernel_rfl) h

/- loop.example/g01128/impl.SlidePlan -/
def ords52 : List (Nat × List (Nat × Bool)) := [(4, [(0, false), (1, false), (7, false), (2, true), (3, true), (4, false), (5, false), (6, false), (8, true), (9, false)]), (13, [(0, false), (1, false), (2, false), (3, false), (4, false), (5, false), (7, false), (8, false), (9, false), (10, false), (6, true), (11, true), (12, false)])]
def cd52 : Cd := (.seq (.reg [⟨⟨some 3, Op.box 28 (Operand.tmp 0), none⟩, []⟩,
  ⟨⟨some 6, Op.assign (Operand.const (Value.slice none 0 0)), none⟩, []⟩,
  ⟨⟨some 7, Op.assign (Operand.const (Value.bool false)), none⟩, []⟩]) (.seq (.seq (.reg [⟨⟨some 16, Op.load 28 (Operand.tmp 3), none⟩, []⟩,
  ⟨⟨some 17, Op.move (Operand.tmp 1), none⟩, []⟩,
  ⟨⟨some 18, Op.call { callee := (Callee.value (Operand.func 70)), args := #[(Operand.tmp 16), (Operand.tmp 17)], argTypes := #[28, 32] }, none⟩, []⟩,
  ⟨⟨some 19, Op.unOp UnOp.not 4 (Operand.tmp 18), none⟩, []⟩,
  ⟨⟨some 20, Op.move (Operand.tmp 19), none⟩, []⟩,
  ⟨⟨some 21, Op.load 28 (Operand.tmp 3), some (20, false)⟩, []⟩,
  ⟨⟨some 22, Op.move (Operand.tmp 2), some (20, false)⟩, []⟩,
  ⟨⟨some 23, Op.call { callee := (Callee.value (Operand.func 70)), args := #[(Operand.tmp 21), (Operand.tmp 22)], argTypes := #[28, 32] }, some (20, false)⟩, []⟩,
  ⟨⟨some 24, Op.unOp UnOp.not 4 (Operand.tmp 23), some (20, false)⟩, []⟩,
  ⟨⟨some 25, Op.pick (Operand.tmp 20) (Operand.const (Value.bool true)) (Operand.tmp 24), none⟩, []⟩]) (.cond (Operand.tmp 25) (.seq (.reg [⟨⟨some 6, Op.assign (Operand.const (Value.slice none 0 0)), none⟩, []⟩,
  ⟨⟨some 7, Op.assign (Operand.const (Value.bool false)), none⟩, []⟩]) .ret) .skip)) (.seq (.reg [⟨⟨some 26, Op.move (Operand.tmp 2), none⟩, []⟩,
  ⟨⟨some 27, Op.load 28 (Operand.tmp 3), none⟩, []⟩,
  ⟨⟨some 28, Op.makeFunc (Fn.func 72) #[(Operand.tmp 27)] #[], none⟩, []⟩,
  ⟨⟨some 29, Op.call { callee := (Callee.value (Operand.func 71)), args := #[(Operand.tmp 26), (Operand.tmp 28)], argTypes := #[32, 72] }, none⟩, []⟩,
  ⟨⟨some 8, Op.alloc 70, none⟩, []⟩,
  ⟨⟨none, Op.store 70 (Operand.tmp 8) (Operand.tmp 29), none⟩, []⟩]) (.seq (.reg [⟨⟨some 31, Op.load 70 (Operand.tmp 8), none⟩, []⟩,
  ⟨⟨some 32, Op.move (Operand.tmp 1), none⟩, []⟩,
  ⟨⟨some 9, Op.alloc 3, none⟩, []⟩,
  ⟨⟨some 33, Op.call { callee := (Callee.value (Operand.func 86)), args := #[(Operand.tmp 32)], argTypes := #[32] }, none⟩, [⟨some 9, Op.alloc 3, none⟩, ⟨some 31, Op.load 70 (Operand.tmp 8), none⟩]⟩,
  ⟨⟨some 34, Op.lookup 70 (Operand.tmp 31) (Operand.tmp 33) true, none⟩, [⟨some 9, Op.alloc 3, none⟩]⟩,
  ⟨⟨some 30, Op.move (Operand.tmp 34), none⟩, []⟩,
  ⟨⟨some 35, Op.extract (Operand.tmp 30) 0, none⟩, []⟩,
  ⟨⟨some 36, Op.extract (Operand.tmp 30) 1, none⟩, []⟩,
  ⟨⟨none, Op.store 3 (Operand.tmp 9) (Operand.tmp 35), none⟩, []⟩,
  ⟨⟨some 10, Op.assign (Operand.tmp 36), none⟩, []⟩]) (.seq (.seq (.reg [⟨⟨some 37, Op.move (Operand.tmp 10), none⟩, []⟩,
  ⟨⟨some 38, Op.unOp UnOp.not 4 (Operand.tmp 37), none⟩, []⟩]) (.cond (Operand.tmp 38) (.seq (.reg [⟨⟨some 6, Op.assign (Operand.const (Value.slice none 0 0)), none⟩, []⟩,
  ⟨⟨some 7, Op.assign (Operand.const (Value.bool false)), none⟩, []⟩]) .ret) .skip)) (.seq (.reg [⟨⟨some 39, Op.buildSlice 32 0 #[], none⟩, []⟩,
  ⟨⟨some 11, Op.assign (Operand.tmp 39), none⟩, []⟩]) (.seq (.seq (.reg [⟨⟨some 40, Op.move (Operand.tmp 1), none⟩, []⟩,
  ⟨⟨some 12, Op.assign (Operand.tmp 40), none⟩, []⟩]) (.block 0 (.loop (.seq (.seq (.reg [⟨⟨some 41, Op.load 3 (Operand.tmp 9), none⟩, []⟩,
  ⟨⟨some 42, Op.binOp BinOp.gtr 3 (Operand.tmp 41) (Operand.const (Value.int IntKind.i64 0)) 3, none⟩, []⟩]) (.cond (Operand.tmp 42) .skip (.exit 0))) (.seq (.block 1 (.seq (.reg [⟨⟨some 46, Op.load 28 (Operand.tmp 3), none⟩, []⟩,
  ⟨⟨some 47, Op.move (Operand.tmp 12), none⟩, []⟩,
  ⟨⟨some 48, Op.call { callee := (Callee.value (Operand.func 100)), args := #[(Operand.tmp 46), (Operand.tmp 47)], argTypes := #[28, 32] }, none⟩, []⟩,
  ⟨⟨some 45, Op.move (Operand.tmp 48), none⟩, []⟩,
  ⟨⟨some 49, Op.extract (Operand.tmp 45) 0, none⟩, []⟩,
  ⟨⟨some 50, Op.extract (Operand.tmp 45) 1, none⟩, []⟩,
  ⟨⟨some 13, Op.assign (Operand.tmp 49), none⟩, []⟩,
  ⟨⟨some 14, Op.assign (Operand.tmp 50), none⟩, []⟩]) (.seq (.reg [⟨⟨some 51, Op.move (Operand.tmp 13), none⟩, []⟩,
  ⟨⟨some 52, Op.makeFunc (Fn.func 102) #[] #[(Operand.tmp 8), (Operand.tmp 9)], none⟩, []⟩,
  ⟨⟨some 53, Op.call { callee := (Callee.value (Operand.func 101)), args := #[(Operand.tmp 51), (Operand.tmp 52)], argTypes := #[38, 92] }, none⟩, []⟩,
  ⟨⟨some 15, Op.assign (Operand.tmp 53), none⟩, []⟩]) (.reg [⟨⟨some 54, Op.move (Operand.tmp 11), none⟩, []⟩,
  ⟨⟨some 55, Op.move (Operand.tmp 14), none⟩, []⟩,
  ⟨⟨some 56, Op.move (Operand.tmp 15), none⟩, []⟩,
  ⟨⟨some 57, Op.indexAddr 32 (Operand.tmp 55) (Operand.tmp 56), none⟩, []⟩,
  ⟨⟨some 58, Op.load 3 (Operand.tmp 57), none⟩, []⟩,
  ⟨⟨some 59, Op.buildSlice 32 1 #[(0, (Operand.tmp 58))], none⟩, []⟩,
  ⟨⟨some 61, Op.move (Operand.tmp 13), none⟩, []⟩,
  ⟨⟨some 62, Op.move (Operand.tmp 15), none⟩, []⟩,
  ⟨⟨some 63, Op.indexAddr 38 (Operand.tmp 61) (Operand.tmp 62), none⟩, []⟩,
  ⟨⟨some 64, Op.load 32 (Operand.tmp 63), none⟩, []⟩,
  ⟨⟨some 60, Op.call { callee := (Callee.builtin Builtin.append), args := #[(Operand.tmp 54), (Operand.tmp 59)], argTypes := #[32, 32] }, none⟩, [⟨some 64, Op.load 32 (Operand.tmp 63), none⟩]⟩,
  ⟨⟨some 11, Op.assign (Operand.tmp 60), none⟩, [⟨some 64, Op.load 32 (Operand.tmp 63), none⟩]⟩,
  ⟨⟨some 12, Op.assign (Operand.tmp 64), none⟩, []⟩])))) (.reg [⟨⟨some 43, Op.load 3 (Operand.tmp 9), none⟩, []⟩,
  ⟨⟨some 44, Op.binOp BinOp.sub 3 (Operand.tmp 43) (Operand.const (Value.int IntKind.i64 1)) 3, none⟩, []⟩,
  ⟨⟨none, Op.store 3 (Operand.tmp 9) (Operand.tmp 44), none⟩, []⟩])))))) (.seq (.reg [⟨⟨some 65, Op.move (Operand.tmp 11), none⟩, []⟩,
  ⟨⟨some 6, Op.assign (Operand.tmp 65), none⟩, []⟩,
  ⟨⟨some 7, Op.assign (Operand.const (Value.bool true)), none⟩, []⟩]) .ret))))))))
theorem sl52 : slim Try.f52.ntmps ords52 (Try.f52.body.getD .skip) = some cd52 := by kernel_rfl
theorem in52 {args : List Value} {H : AH} {R : Value → AH → Prop} (hl : args.length = 3) (h : ∀ (Q : Exit → Sl → AH → Prop), (∀ e s H, endA Try.prog [ResultVar.tmp 6, ResultVar.tmp 7] R e s H → Q e s H) → wpC Try.prog cd52 Q (enterA args) H) : ACalls Try.prog 52 args H R :=
  ACalls.intro (by kernel_rfl) Try.func52 rfl (by kernel_rfl) sl52 hl (of_decide_eq_true (by kernel_rfl)) (by kernel_rfl) h

/- loop.example/g01128/impl.SlideDistance -/
def ords35 : List (Nat × List (Nat × Bool)) := []
def cd35 : Cd := (.seq (.reg [⟨⟨some 3, Op.box 28 (Operand.tmp 0), none⟩, []⟩,
  ⟨⟨some 6, Op.assign (Operand.const (Value.int IntKind.i64 0)), none⟩, []⟩,
  ⟨⟨some 7, Op.assign (Operand.const (Value.bool false)), none⟩, []⟩]) (.seq (.reg [⟨⟨some 11, Op.load 28 (Operand.tmp 3), none⟩, []⟩,
  ⟨⟨some 12, Op.move (Operand.tmp 1), none⟩, []⟩,
  ⟨⟨some 13, Op.move (Operand.tmp 2), none⟩, []⟩,
  ⟨⟨some 14, Op.call { callee := (Callee.value (Operand.func 52)), args := #[(Operand.tmp 11), (Operand.tmp 12), (Operand.tmp 13)], argTypes := #[28, 32, 32] }, none⟩, []⟩,
  ⟨⟨some 10, Op.move (Operand.tmp 14), none⟩, []⟩,
  ⟨⟨some 15, Op.extract (Operand.tmp 10) 0, none⟩, []⟩,
  ⟨⟨some 16, Op.extract (Operand.tmp 10) 1, none⟩, []⟩,
  ⟨⟨some 8, Op.assign (Operand.tmp 15), none⟩, []⟩,
  ⟨⟨some 9, Op.assign (Operand.tmp 16), none⟩, []⟩]) (.seq (.reg [⟨⟨some 17, Op.move (Operand.tmp 8), none⟩, []⟩,
  ⟨⟨some 18, Op.call { callee := (Callee.builtin Builtin.len), args := #[(Operand.tmp 17)], argTypes := #[32] }, none⟩, []⟩,
  ⟨⟨some 19, Op.move (Operand.tmp 9), none⟩, []⟩,
  ⟨⟨some 6, Op.assign (Operand.tmp 18), none⟩, []⟩,
  ⟨⟨some 7, Op.assign (Operand.tmp 19), none⟩, []⟩]) .ret)))
theorem sl35 : slim Try.f35.ntmps ords35 (Try.f35.body.getD .skip) = some cd35 := by kernel_rfl
theorem in35 {args : List Value} {H : AH} {R : Value → AH → Prop} (hl : args.length = 3) (h : ∀ (Q : Exit → Sl → AH → Prop), (∀ e s H, endA Try.prog [ResultVar.tmp 6, ResultVar.tmp 7] R e s H → Q e s H) → wpC Try.prog cd35 Q (enterA args) H) : ACalls Try.prog 35 args H R :=
  ACalls.intro (by kernel_rfl) Try.func35 rfl (by kernel_rfl) sl35 hl (of_decide_eq_true (by kernel_rfl)) (by kernel_rfl) h
end Go.Proofs.Ythhnpchjjbjabaa.Ai

namespace Go.Proofs.Ythhnpchjjbjabaa.Ai
open Go Go.RowKit
set_option linter.unusedVariables false
set_option linter.unusedSimpArgs false

theorem brd_bdS {n : Int} {es : List (Int × Int)} {p : List Int} (h : Brd n es p) : ∃ k : Nat, n = k ∧ Grd (k : Int) es ∧ Bd k p ∧ 1 ≤ k ∧ k ≤ 6 := by
  obtain ⟨⟨⟨h1, h2⟩, h3⟩, h4, h5⟩ := h
  exact ⟨p.length, h3.symm, by rw [h3]; exact h1, ⟨h2, rfl⟩, by omega, by omega⟩
def slD (n : Int) (es : List (Int × Int)) (a b : List Int) : Option Int := if Brd n es a ∧ Brd n es b then bdD (bdR es true b) a else none
def slP (n : Int) (es : List (Int × Int)) (a b : List Int) : List Int := match slD n es a b with | some d => (pthL (bdR es true b) es true d.toNat a).map (fun t => othB t.2 t.1) | none => []
theorem slD_rng {n : Int} {es : List (Int × Int)} {a b : List Int} {d : Int} (h : slD n es a b = some d) : 0 ≤ d ∧ d < 720 := by
  unfold slD at h
  split at h
  · rename_i e
    obtain ⟨k, rfl, hg, hb, h1, h6⟩ := brd_bdS e.2
    have hI := bdR_I h6 hg true hb
    have hm := bdD_mem h
    have := hI.rng _ hm
    have := hI.len_le h6
    have := mny_le h6
    simp only at *
    omega
  · cases h
theorem slP_len (n : Int) (es : List (Int × Int)) (a b : List Int) : (slP n es a b).length = (match slD n es a b with | some d => d.toNat | none => 0) := by
  unfold slP
  cases h : slD n es a b with
  | none => rfl
  | some d =>
    have hr := slD_rng h
    unfold slD at h
    split at h
    · rename_i e
      obtain ⟨k, rfl, hg, hb, h1, h6⟩ := brd_bdS e.2
      simp only
      rw [List.length_map]
      exact pthL_len h6 hg true hb d.toNat a (by rw [Int.toNat_of_nonneg hr.1]; exact h)
    · cases h
theorem slP_bd (n : Int) (es : List (Int × Int)) (a b : List Int) : (slP n es a b).length ≤ 1099511627776 := by
  rw [slP_len]
  cases h : slD n es a b with
  | none => simp
  | some d => have := slD_rng h; simp only; omega

theorem alloc_mp (H : AH) : allocA Try.prog 70 H = some (.pointer (some ⟨H.length, 0, none⟩), H ++ [.cells [.map none] 70 false]) := by kernel_rfl
theorem alloc_iS (H : AH) : allocA Try.prog 3 H = some (.pointer (some ⟨H.length, 0, none⟩), H ++ [.cells [.int .i64 0] 3 false]) := by kernel_rfl
theorem mkf_2S (f : Fn) (p q : Option Addr) : makeFuncA f [] [.pointer p, .pointer q] = some (.func f #[] (List.toArray [.pointer p, .pointer q])) := rfl

set_option maxRecDepth 20000 in
set_option maxHeartbeats 1000000 in
theorem slClos_c {n : Nat} (x : Value) (c : List Int) (pm pd o : Nat) (m : Int) (S0 : List (List Int × Int)) (H : AH) (hok : ∀ e ∈ S0, Bd n e.1) (hx : Row 3 H x c) (hc : Bd n c) (h1 : H[pm]? = some (.cells [.map (some o)] 70 false)) (h2 : H[pd]? = some (.cells [.int .i64 m] 3 false)) (h3 : H[o]? = some (.mp (mpI (mpB S0)))) (hm : 0 ≤ m ∧ m ≤ 1000) {dx : Int} (hdx : bdD S0 c = some dx) :
    ACalls Try.prog 102 [x, .pointer (some ⟨pm, 0, none⟩), .pointer (some ⟨pd, 0, none⟩)] H fun r H' => r = .bool (decide (dx = m - 1)) ∧ H <+: H' := by
  refine in102 rfl ?_
  intro Q hQ
  have hlk := lookI1 h3 (keyL c)
  rw [getI_bd hc _ hok, hdx] at hlk
  have hlk' : lookupA Try.prog 70 (.map (some o)) (.int .i64 (keyL c)) false H = some (.int .i64 dx) := hlk
  simp (maxSteps := 1000000) (disch := omega) only [cd102, cell_of h1, cell_of h2, wrap64, S, S1, S2, S3, S4, S5, ST, eq_self, reduceIte, reduceCtorEq, Nat.reduceEqDiff, Nat.reduceAdd]
  refine CallH.by (key_c x c H hx hc.1) ?_
  rintro _ _ ⟨rfl, rfl⟩
  simp (maxSteps := 1000000) (disch := omega) only [cell_of h1, cell_of h2, hlk', S, S1, S2, S3, S4, S5, ST, eq_self, reduceIte, reduceCtorEq, Nat.reduceEqDiff, Nat.reduceAdd]
  refine hQ _ _ _ ?_
  simp (maxSteps := 1000000) (disch := omega) only [S, S1, S2, S3, S4, S5, ST, eq_self, reduceIte, reduceCtorEq, Nat.reduceEqDiff, Nat.reduceAdd]
  exact List.prefix_refl _

set_option maxRecDepth 20000 in
set_option maxHeartbeats 8000000 in
theorem SlI_c (n : Int) (v w u : Value) (es : List (Int × Int)) (a b : List Int) (H : AH) (hr : RowP 76 H v es) (hlen : es.length ≤ 1099511627776) (hes : ∀ y ∈ es, I64 y.1 ∧ I64 y.2) (ha : Row 3 H w a) (hla : a.length ≤ 1099511627776) (hxa : ∀ y ∈ a, I64 y) (hb : Row 3 H u b) (hlb : b.length ≤ 1099511627776) (hxb : ∀ y ∈ b, I64 y) (hn : I64 n) :
    ACalls Try.prog 52 [.agg (List.toArray [.int .i64 n, v]), w, u] H fun r H' => ∃ g, r = .tuple (List.toArray [g, .bool (slD n es a b).isSome]) ∧ Mine 3 H H' g (slP n es a b) ∧ H <+: H' := by
  refine in52 rfl ?_
  intro Q hQ
  simp (maxSteps := 1000000) (disch := omega) only [cd52, hr.boxG, S, S1, S2, S3, S4, S5, ST, eq_self, reduceIte, reduceCtorEq, Nat.reduceEqDiff, Nat.reduceAdd]
  generalize hA : H ++ [AObj.cells [.int .i64 n, v] 28 false] = A
  have pA : H <+: A := by rw [← hA]; exact List.prefix_append _ _
  have cA : A[H.length]? = some (.cells [.int .i64 n, v] 28 false) := by rw [← hA]; exact at_new ..
  have rA := hr.pre pA
  simp (maxSteps := 1000000) (disch := omega) only [ld_agg ag28 cs28 cA, S, S1, S2, S3, S4, S5, ST, eq_self, reduceIte, reduceCtorEq, Nat.reduceEqDiff, Nat.reduceAdd]
  refine CallH.by (isBoard_c n v w es a A rA hlen (ha.pre pA) hla hxa) ?_
  rintro _ B ⟨rfl, pB⟩
  have cB := pre_at pB cA
  have pHB := pA.trans pB
  have rB := rA.pre pB
  have no : slD n es a b = none → ∀ K : AH, ∃ g, (Value.tuple (List.toArray [.slice none 0 0, .bool false])) = .tuple (List.toArray [g, .bool (slD n es a b).isSome]) ∧ Mine 3 H K g (slP n es a b) := fun h K => ⟨.slice none 0 0, by rw [h]; rfl, .inl ⟨rfl, by unfold slP; rw [h]⟩⟩
  simp (maxSteps := 1000000) (disch := omega) only [S, S1, S2, S3, S4, S5, ST, eq_self, reduceIte, reduceCtorEq, Nat.reduceEqDiff, Nat.reduceAdd]
  refine brD.intro (fun e => ?_) (fun e => ?_) <;> simp (maxSteps := 1000000) (disch := omega) only [e, S, S1, S2, S3, S4, S5, ST, eq_self, reduceIte, reduceCtorEq, Nat.reduceEqDiff, Nat.reduceAdd]
  rotate_left
  · refine hQ _ _ _ ?_
    simp (maxSteps := 1000000) (disch := omega) only [S, S1, S2, S3, S4, S5, ST, eq_self, reduceIte, reduceCtorEq, Nat.reduceEqDiff, Nat.reduceAdd]
    obtain ⟨g, h1, h2⟩ := no (by unfold slD; rw [if_neg (fun h => e h.1)]) B
    exact ⟨g, h1, h2, pHB⟩
  simp (maxSteps := 1000000) (disch := omega) only [e, ld_agg ag28 cs28 cB, S, S1, S2, S3, S4, S5, ST, eq_self, reduceIte, reduceCtorEq, Nat.reduceEqDiff, Nat.reduceAdd]
  refine CallH.by (isBoard_c n v u es b B rB hlen (hb.pre pHB) hlb hxb) ?_
  rintro _ C ⟨rfl, pC⟩
  have cC := pre_at pC cB
  have pHC := pHB.trans pC
  have rC := rB.pre pC
  simp (maxSteps := 1000000) (disch := omega) only [e, S, S1, S2, S3, S4, S5, ST, eq_self, reduceIte, reduceCtorEq, Nat.reduceEqDiff, Nat.reduceAdd]
  refine brD.intro (fun e2 => ?_) (fun e2 => ?_) <;> simp (maxSteps := 1000000) (disch := omega) only [e, e2, S, S1, S2, S3, S4, S5, ST, eq_self, reduceIte, reduceCtorEq, Nat.reduceEqDiff, Nat.reduceAdd]
  rotate_left
  · refine hQ _ _ _ ?_
    simp (maxSteps := 1000000) (disch := omega) only [S, S1, S2, S3, S4, S5, ST, eq_self, reduceIte, reduceCtorEq, Nat.reduceEqDiff, Nat.reduceAdd]
    obtain ⟨g, h1, h2⟩ := no (by unfold slD; rw [if_neg (fun h => e2 h.2)]) C
    exact ⟨g, h1, h2, pHC⟩
  have hD0 : slD n es a b = bdD (bdR es true b) a := by unfold slD; rw [if_pos ⟨e, e2⟩]
  obtain ⟨k, hk, hg, hbb, h1, h6⟩ := brd_bdS e2
  subst hk
  have hba : Bd k a := by
    obtain ⟨k', hk', _, hb', _, _⟩ := brd_bdS e
    have : k = k' := by omega
    rw [this]; exact hb'
  have hl := grd_few hg
  simp (maxSteps := 1000000) (disch := omega) only [ld_agg ag28 cs28 cC, mkf_G hr, S, S1, S2, S3, S4, S5, ST, eq_self, reduceIte, reduceCtorEq, Nat.reduceEqDiff, Nat.reduceAdd]
  refine CallH.by (reached_c (HB := C) h6 (hb.pre pHC) hbb 72 [.agg (List.toArray [.int .i64 (k : Int), v])] [] (nxt es true) (boards_mv rC hlen hg h1) (fun b hb => nxt_bd hg true hb) (nxt_le hg (by omega) true) (List.prefix_refl _)) ?_
  rintro _ D ⟨⟨o, rfl, ho, hol⟩, pD⟩
  have pHD := pHC.trans pD
  have cD := pre_at pD cC
  have hI := bdR_I h6 hg true hbb
  have hS : bdA (nxt es true) b = bdR es true b := rfl
  rw [hS] at ho
  have st1 := st_at (P := Try.prog) (t := 70) (i := 0) (y := .map (some o)) cs70 (at_new D (.cells [.map none] 70 false)) (by show 0 < 1; decide) rfl rfl
  rw [set_new, List.set_cons_zero] at st1
  simp (maxSteps := 1000000) (disch := omega) only [alloc_mp, st1, S, S1, S2, S3, S4, S5, ST, eq_self, reduceIte, reduceCtorEq, Nat.reduceEqDiff, Nat.reduceAdd]
  generalize hE : D ++ [AObj.cells [.map (some o)] 70 false] = E
  have pE : D <+: E := by rw [← hE]; exact List.prefix_append _ _
  have cE : E[D.length]? = some (.cells [.map (some o)] 70 false) := by rw [← hE]; exact at_new ..
  have lE : E.length = D.length + 1 := by rw [← hE]; simp
  have pHE := pHD.trans pE
  have hoE := pre_at pE ho
  simp (maxSteps := 1000000) (disch := omega) only [cell_of cE, alloc_iS, S, S1, S2, S3, S4, S5, ST, eq_self, reduceIte, reduceCtorEq, Nat.reduceEqDiff, Nat.reduceAdd]
  generalize hF0 : E ++ [AObj.cells [.int .i64 0] 3 false] = F0
  have pF0 : E <+: F0 := by rw [← hF0]; exact List.prefix_append _ _
  have cF0 : F0[E.length]? = some (.cells [.int .i64 0] 3 false) := by rw [← hF0]; exact at_new ..
  have aF0 := ha.pre (pHE.trans pF0)
  refine CallH.by (key_c w a F0 aF0 hba.1) ?_
  rintro _ _ ⟨rfl, rfl⟩
  have hlk := lookI (pre_at pF0 hoE) (keyL a)
  rw [getI_bd hba _ hI.ok, ← hD0] at hlk
  have hdi : ∃ x, (slD (k : Int) es a b).getD 0 = x ∧ (0 ≤ x ∧ x < 720) := by
    cases h : slD (k : Int) es a b with
    | none => exact ⟨0, rfl, by decide⟩
    | some d => exact ⟨d, rfl, slD_rng h⟩
  obtain ⟨x0, hx0, hx7⟩ := hdi
  rw [hx0] at hlk
  have st2 := st_at (P := Try.prog) (t := 3) (i := 0) (y := .int .i64 x0) cs3 cF0 (by show 0 < 1; decide) rfl rfl
  rw [List.set_cons_zero] at st2
  simp (maxSteps := 1000000) (disch := omega) only [cell_of cE, cell_of (pre_at pF0 cE), cF0, hlk, st2, S, S1, S2, S3, S4, S5, ST, eq_self, reduceIte, reduceCtorEq, Nat.reduceEqDiff, Nat.reduceAdd]
  have hF1 : F0.set E.length (.cells [.int .i64 x0] 3 false) = E ++ [AObj.cells [.int .i64 x0] 3 false] := by rw [← hF0, set_new]
  rw [hF1]
  generalize hF : E ++ [AObj.cells [.int .i64 x0] 3 false] = F
  have pF : E <+: F := by rw [← hF]; exact List.prefix_append _ _
  have cF : F[E.length]? = some (.cells [.int .i64 x0] 3 false) := by rw [← hF]; exact at_new ..
  have lF : F.length = E.length + 1 := by rw [← hF]; simp
  clear hF0 pF0 cF0 aF0 st2 hF1 hlk
  cases hd : slD (k : Int) es a b with
  | none =>
    rw [hd] at no
    simp (maxSteps := 1000000) (disch := omega) only [Option.isSome_none, S, S1, S2, S3, S4, S5, ST, eq_self, reduceIte, reduceCtorEq, Nat.reduceEqDiff, Nat.reduceAdd]
    refine hQ _ _ _ ?_
    simp (maxSteps := 1000000) (disch := omega) only [S, S1, S2, S3, S4, S5, ST, eq_self, reduceIte, reduceCtorEq, Nat.reduceEqDiff, Nat.reduceAdd]
    obtain ⟨g, h1, h2⟩ := no rfl F
    rw [hd]
    exact ⟨g, h1, h2, pHE.trans pF⟩
  | some d =>
  obtain ⟨hd0, hd7⟩ := slD_rng hd
  have hxd : x0 = d := by rw [← hx0, hd]; rfl
  subst hxd
  have hK : slP (k : Int) es a b = (pthL (bdR es true b) es true x0.toNat a).map (fun t => othB t.2 t.1) := by unfold slP; rw [hd]
  rw [hd, hK] at hQ
  rw [hd] at hD0
  simp (maxSteps := 1000000) (disch := omega) only [Option.isSome_some, S, S1, S2, S3, S4, S5, ST, eq_self, reduceIte, reduceCtorEq, Nat.reduceEqDiff, Nat.reduceAdd]
  generalize hG : F ++ [AObj.cells [] 3 false] = G
  have pG : F <+: G := by rw [← hG]; exact List.prefix_append _ _
  have cG : G[F.length]? = some (.cells (ints []) 3 false) := by rw [← hG]; exact at_new ..
  have lG : G.length = F.length + 1 := by rw [← hG]; simp
  have hlow : ∀ {y : Value} {ys : List Int}, Row 3 H y ys → (y = .slice none 0 0 ∨ rowO y ≠ E.length) := fun h => by
    rcases h.nil with q | q
    · exact .inl q.1
    · have := pHE.length_le; exact .inr (by omega)
  refine LoopH.by (fun m s H' => ∃ (q : List Int) (out : List Int), s 3 = .pointer (some ⟨H.length, 0, none⟩) ∧ s 8 = .pointer (some ⟨D.length, 0, none⟩) ∧ s 9 = .pointer (some ⟨E.length, 0, none⟩) ∧ H'[E.length]? = some (.cells [.int .i64 ((m : Nat) : Int)] 3 false) ∧ Row 3 H' (s 12) q ∧ (s 12 = .slice none 0 0 ∨ rowO (s 12) ≠ E.length) ∧ Bd k q ∧ bdD (bdR es true b) q = some ((m : Nat) : Int) ∧ m ≤ 720 ∧ out.length + m = x0.toNat ∧
    out ++ (pthL (bdR es true b) es true m q).map (fun t => othB t.2 t.1) = (pthL (bdR es true b) es true x0.toNat a).map (fun t => othB t.2 t.1) ∧ Own 3 E H' (s 11) out ∧ E.length < rowO (s 11) ∧ E <+: H') x0.toNat ?_ ?_
  · refine ⟨a, [], ?_⟩
    have f0 : ((x0.toNat : Nat) : Int) = x0 := by omega
    have f1 := ha.pre (pHE.trans (pF.trans pG))
    have f2 : bdD (bdR es true b) a = some x0 := hD0.symm
    have f3 := pre_at pG cF
    have f4 := hlow ha
    have f5 : Own 3 E G (.slice (some ⟨F.length, 0, none⟩) 0 0) [] := .inr ⟨F.length, rfl, by omega, cG⟩
    have f6 : E.length < rowO (.slice (some ⟨F.length, 0, none⟩) 0 0) := by show E.length < F.length; omega
    have f7 : E <+: G := pF.trans pG
    simp (maxSteps := 1000000) (disch := omega) only [S, S1, S2, S3, S4, S5, ST, eq_self, reduceIte, reduceCtorEq, Nat.reduceEqDiff, Nat.reduceAdd]
    rw [f0]
    (repeat' first | exact f3 | exact f1 | exact f4 | exact hba | exact f2 | exact f5 | exact f6 | exact f7 | apply And.intro) <;> first | (simp only [Value.int.injEq, true_and]; omega) | omega | rfl | assumption | (simp; done) | (simp; omega)
  rintro m s H' ⟨q, out, h3, h8, h9, hpd, hrq, hWs, hbq, hdq, hm7, hol2, hout, hmo, hUo, hpE⟩
  generalize hU : s 11 = U at *
  generalize hW : s 12 = W at *
  simp (maxSteps := 1000000) (disch := omega) only [h3, h8, h9, hU, hW, cell_of hpd, S, S1, S2, S3, S4, S5, ST, eq_self, reduceIte, reduceCtorEq, Nat.reduceEqDiff, Nat.reduceAdd]
  refine brD.intro (fun g => ?_) (fun g => ?_)
  rotate_left
  · have hm0 : m = 0 := by omega
    subst hm0
    simp (maxSteps := 1000000) (disch := omega) only [hU, S, S1, S2, S3, S4, S5, ST, eq_self, reduceIte, reduceCtorEq, Nat.reduceEqDiff, Nat.reduceAdd]
    refine hQ _ _ _ ?_
    simp (maxSteps := 1000000) (disch := omega) only [hU, hmo.row.tup, S, S1, S2, S3, S4, S5, ST, eq_self, reduceIte, reduceCtorEq, Nat.reduceEqDiff, Nat.reduceAdd]
    have hout' : out = (pthL (bdR es true b) es true x0.toNat a).map (fun t => othB t.2 t.1) := by rw [← hout]; simp [pthL]
    rw [← hout']
    exact ⟨U, rfl, (hmo.base pHE).mine, pHE.trans hpE⟩
  obtain ⟨m1, rfl⟩ : ∃ m1, m = m1 + 1 := ⟨m - 1, by omega⟩
  obtain ⟨e1, hf1, hf2, hf3⟩ := fst1_some h6 hg true hbb hdq
  have hpth : (pthL (bdR es true b) es true (m1 + 1) q).map (fun t => othB t.2 t.1) = othB q e1 :: (pthL (bdR es true b) es true m1 (swp q e1.1.toNat e1.2.toNat)).map (fun t => othB t.2 t.1) := by
    simp only [pthL, hf1, List.map_cons]
  rw [hpth] at hout
  obtain ⟨i1, hi1, he1, hbef⟩ : ∃ i1, i1 < (mvs es true q).length ∧ (mvs es true q).getD i1 (0, 0) = e1 ∧ ∀ j, j < i1 → bdD (bdR es true b) (swp q ((mvs es true q).getD j (0, 0)).1.toNat ((mvs es true q).getD j (0, 0)).2.toNat) ≠ some (m1 : Int) := by
    have hf1' : (mvs es true q).find? (fun e => decide (bdD (bdR es true b) (swp q e.1.toNat e.2.toNat) = some (m1 : Int))) = some e1 := hf1
    rw [List.find?_eq_some_iff_getElem] at hf1'
    obtain ⟨_, i1, hi1, he1, hb1⟩ := hf1'
    refine ⟨i1, hi1, by simp [hi1, he1], fun j hj => ?_⟩
    have := hb1 j hj
    have hjl : j < (mvs es true q).length := by omega
    have eg : (mvs es true q).getD j (0, 0) = (mvs es true q)[j] := by simp [hjl]
    rw [eg]
    simpa using this
  obtain ⟨h, hh1, hh2, hh3⟩ := hole_of hbq h1
  have rH := hr.pre (pHE.trans hpE)
  have cH := pre_at (pE.trans hpE) cD
  have cHm := pre_at hpE cE
  have hoH := pre_at hpE hoE
  simp (maxSteps := 1000000) (disch := omega) only [h3, h8, h9, hU, hW, ld_agg ag28 cs28 cH, S, S1, S2, S3, S4, S5, ST, eq_self, reduceIte, reduceCtorEq, Nat.reduceEqDiff, Nat.reduceAdd]
  refine CallH.by (slides_c k v W es q H' rH hlen hrq hg (by rw [hbq.2]) h hh2 (by rw [hbq.2]; exact hh1)) ?_
  rintro _ K ⟨L, nd, rfl, hL, hnd, pK⟩
  rw [Int.toNat_natCast] at hL hnd
  have hbr : brds q (nbsU es (h : Int) k) h = nxt es true q := brds_nxt hg hbq hh1 hh3
  rw [hbr] at hL
  rw [← oth_nbs hg hbq hh1 hh3] at hnd
  have hnl := nxt_len es true q
  have hNat : ∀ i, i < (mvs es true q).length → (nxt es true q).getD i [] = swp q ((mvs es true q).getD i (0, 0)).1.toNat ((mvs es true q).getD i (0, 0)).2.toNat := by
    intro i hi
    unfold nxt
    rw [List.getD_eq_getElem?_getD, List.getElem?_map, List.getElem?_eq_getElem hi]
    simp [hi]
  have hknown : ∀ i, i < (mvs es true q).length → Bd k ((nxt es true q).getD i []) ∧ ∃ x, bdD (bdR es true b) ((nxt es true q).getD i []) = some x := by
    intro i hi
    have hm : (nxt es true q).getD i [] ∈ nxt es true q := by
      have : i < (nxt es true q).length := by omega
      simp [this]
    obtain ⟨x, hx, _⟩ := bdR_known h6 hg true hbb hdq hm
    exact ⟨nxt_bd hg true hbq _ hm, x, hx⟩
  obtain ⟨us, hus, hul, heach⟩ := hL.parts
  have cKm := pre_at pK cHm
  have hoK := pre_at pK hoH
  have hpdK := pre_at pK hpd
  have hm11 : ((m1 + 1 : Nat) : Int) - 1 = (m1 : Int) := by omega
  generalize hbs : (nxt es true q).map (fun c => decide (bdD (bdR es true b) c = some (m1 : Int))) = bs
  have hbsl : bs.length = us.length := by rw [← hbs]; simp [hul]
  have hbsat : ∀ i, i < us.length → bs.getD i false = decide (bdD (bdR es true b) ((nxt es true q).getD i []) = some (m1 : Int)) := by
    intro i hi
    have hi' : i < (nxt es true q).length := by omega
    rw [← hbs, List.getD_eq_getElem?_getD, List.getElem?_map, List.getElem?_eq_getElem hi']
    simp [hi']
  simp (maxSteps := 1000000) (disch := omega) only [h3, h8, h9, hU, hW, mkf_2S, S, S1, S2, S3, S4, S5, ST, eq_self, reduceIte, reduceCtorEq, Nat.reduceEqDiff, Nat.reduceAdd]
  have hmle := mvs_len es true q
  refine CallH.by (IndexFuncL_c L us bs 102 [.pointer (some ⟨D.length, 0, none⟩), .pointer (some ⟨E.length, 0, none⟩)] K hus (by omega) hbsl (fun i hi H1 hp1 => by
    obtain ⟨hcb, x, hcx⟩ := hknown i (by omega)
    have := slClos_c (us.getD i undef) _ D.length E.length o ((m1 + 1 : Nat) : Int) (bdR es true b) H1 hI.ok ((heach i (by omega)).row.1.pre hp1) hcb (pre_at hp1 cKm) (pre_at hp1 hpdK) (pre_at hp1 hoK) (by omega) hcx
    rw [hbsat i hi, hcx]
    rw [hm11] at this
    refine this.mono fun r H' hr' => ⟨?_, hr'.2⟩
    rw [hr'.1]
    simp)) ?_
  rintro _ M ⟨rfl, pM⟩
  have hix : idxB bs 0 = (i1 : Int) := by
    have key : ∀ j, j ≤ i1 → idxB bs 0 = idxB (bs.drop j) j := by
      intro j
      induction j with
      | zero => intro _; rfl
      | succ j ih =>
        intro hj
        have hju : j < us.length := by omega
        rw [ih (by omega), idxB_step bs j (by omega), hbsat j hju, hNat j (by omega), if_neg (by simpa using hbef j (by omega))]
    have hiu : i1 < us.length := by omega
    rw [key i1 (Nat.le_refl _), idxB_step bs i1 (by omega), hbsat i1 hiu, hNat i1 hi1, he1, hf3, if_pos (by simp)]
  rw [hix]
  have hus2 := hus.pre pM
  have hnd2 := hnd.pre pM
  have hcell := hus2.cell (show i1 < us.length by omega)
  have hcn := hnd2.cell (show i1 < ((mvs es true q).map (othB q)).length by simpa using hi1)
  have hothi : ((mvs es true q).map (othB q)).getD i1 0 = othB q e1 := by
    rw [List.getD_eq_getElem?_getD, List.getElem?_map, List.getElem?_eq_getElem hi1]
    have : (mvs es true q)[i1] = e1 := by rw [← he1]; simp [hi1]
    rw [this]; rfl
  rw [hothi] at hcn
  have hml : ((mvs es true q).map (othB q)).length = (mvs es true q).length := by simp
  have hni := hNat i1 hi1
  rw [he1] at hni
  have hrow := (heach i1 (by omega))
  rw [hni] at hrow
  have hrowM := (hrow.row.1).pre pM
  have hcb0 := (hknown i1 hi1).1
  rw [hni] at hcb0
  have hmoM := hmo.pre (pK.trans pM)
  have hpEM := hpE.trans (pK.trans pM)
  obtain ⟨U', H4, j1, j2, j3, j4, j5, j6⟩ := own1_32 hmoM hpEM (by omega) (othB q e1)
  have lK := pK.length_le
  have lM := pM.length_le
  have lH' := hpE.length_le
  have hUlt : rowO U < H'.length := by
    rcases hmo with g5 | ⟨oo, g5, g6, g7⟩
    · rw [g5.1] at hUo
      have : rowO (Value.slice none 0 0) = 0 := rfl
      omega
    · rw [g5]; exact at_lt g7
  have keep4 : ∀ (j : Nat) (y : AObj), j ≠ rowO U → M[j]? = some y → H4[j]? = some y := fun j y hj hy => j4 j y (.inr hj) hy
  have hus4 : RowV 32 H4 L us := by
    rcases hL with g5 | ⟨oo, us', g5, g6, g7, g8, _⟩
    · have : (nxt es true q).length = 0 := by rw [g5.2]; rfl
      omega
    · refine hus2.mono fun y hy => keep4 _ _ ?_ hy
      rw [g5]
      show oo ≠ rowO U
      omega
  have hcell4 := hus4.cell (show i1 < us.length by omega)
  have hWs' : us.getD i1 undef = .slice none 0 0 ∨ H'.length ≤ rowO (us.getD i1 undef) := hrow.at_.imp id fun q => q.1
  have hrow4 : Row 3 H4 (us.getD i1 undef) (swp q e1.1.toNat e1.2.toNat) := by
    rcases hWs' with g5 | g5
    · exact .inl ⟨g5, hrowM.nilv g5⟩
    · exact hrowM.mono fun y hy => keep4 _ _ (by omega) hy
  have hpd4 : H4[E.length]? = some (.cells [.int .i64 ((m1 + 1 : Nat) : Int)] 3 false) := keep4 _ _ (by omega) (pre_at pM hpdK)
  have hElt := at_lt hpd
  have st3 := st_at (P := Try.prog) (t := 3) (i := 0) (y := .int .i64 (m1 : Int)) cs3 hpd4 (by show 0 < 1; decide) rfl rfl
  rw [List.set_cons_zero] at st3
  have hcellM := (hus2.pre (List.prefix_append M [AObj.cells [.int .i64 (othB q e1)] 3 false])).cell (show i1 < us.length by omega)
  simp (maxSteps := 1000000) (disch := omega) only [h3, h8, h9, hU, hW, hnd2.ix Try.underlying32 cs3, hcn, Int.toNat_natCast, hus2.ix Try.underlying38 cs32, hcell, hcellM, j1, hcell4, cell_of hpd4, hm11, wrap64, st3, S, S1, S2, S3, S4, S5, ST, eq_self, reduceIte, reduceCtorEq, Nat.reduceEqDiff, Nat.reduceAdd]
  have f1 : (H4.set E.length (.cells [.int .i64 (m1 : Int)] 3 false))[E.length]? = some (.cells [.int .i64 (m1 : Int)] 3 false) := at_set hpd4
  have keep5 : ∀ (j : Nat) (y : AObj), j ≠ E.length → H4[j]? = some y → (H4.set E.length (.cells [.int .i64 (m1 : Int)] 3 false))[j]? = some y := fun j y hj hy => by
    rw [List.getElem?_set_ne (fun e => hj e.symm)]; exact hy
  have f2 : Row 3 (H4.set E.length (.cells [.int .i64 (m1 : Int)] 3 false)) (us.getD i1 undef) (swp q e1.1.toNat e1.2.toNat) := by
    rcases hWs' with g5 | g5
    · exact .inl ⟨g5, hrow4.nilv g5⟩
    · exact hrow4.mono fun y hy => keep5 _ _ (by omega) hy
  have f3 : us.getD i1 undef = .slice none 0 0 ∨ rowO (us.getD i1 undef) ≠ E.length := hWs'.imp id fun q => by omega
  have f4 : out ++ [othB q e1] ++ (pthL (bdR es true b) es true m1 (swp q e1.1.toNat e1.2.toNat)).map (fun t => othB t.2 t.1) = (pthL (bdR es true b) es true x0.toNat a).map (fun t => othB t.2 t.1) := by
    rw [← hout, List.append_assoc]; rfl
  have f5 : (out ++ [othB q e1]).length + m1 = x0.toNat := by rw [List.length_append]; simp; omega
  have f6 : Own 3 E (H4.set E.length (.cells [.int .i64 (m1 : Int)] 3 false)) U' (out ++ [othB q e1]) := j2.keep fun y hy => keep5 _ _ (by omega) hy
  have f7 : E.length < rowO U' := by omega
  have f8 : E <+: H4.set E.length (.cells [.int .i64 (m1 : Int)] 3 false) := pre_set j3 (Nat.le_refl _) _
  refine ⟨m1, by omega, swp q e1.1.toNat e1.2.toNat, out ++ [othB q e1], ?_⟩
  (repeat' first | exact f1 | exact f2 | exact f3 | exact hcb0 | exact hf3 | exact f5 | exact f4 | exact f6 | exact f7 | exact f8 | apply And.intro) <;> first | (simp only [Value.int.injEq, true_and]; omega) | omega | rfl | assumption | (simp; done) | (simp; omega)

theorem SlDI_c (n : Int) (v w u : Value) (es : List (Int × Int)) (a b : List Int) (H : AH) (hr : RowP 76 H v es) (hlen : es.length ≤ 1099511627776) (hes : ∀ y ∈ es, I64 y.1 ∧ I64 y.2) (ha : Row 3 H w a) (hla : a.length ≤ 1099511627776) (hxa : ∀ y ∈ a, I64 y) (hb : Row 3 H u b) (hlb : b.length ≤ 1099511627776) (hxb : ∀ y ∈ b, I64 y) (hn : I64 n) :
    ACalls Try.prog 35 [.agg (List.toArray [.int .i64 n, v]), w, u] H fun r H' => r = .tuple (List.toArray [.int .i64 ((slD n es a b).getD 0), .bool (slD n es a b).isSome]) ∧ H <+: H' := by
  refine in35 rfl ?_
  intro Q hQ
  simp (maxSteps := 1000000) (disch := omega) only [cd35, hr.boxG, S, S1, S2, S3, S4, S5, ST, eq_self, reduceIte, reduceCtorEq, Nat.reduceEqDiff, Nat.reduceAdd]
  generalize hA : H ++ [AObj.cells [.int .i64 n, v] 28 false] = A
  have pA : H <+: A := by rw [← hA]; exact List.prefix_append _ _
  have cA : A[H.length]? = some (.cells [.int .i64 n, v] 28 false) := by rw [← hA]; exact at_new ..
  have rA := hr.pre pA
  simp (maxSteps := 1000000) (disch := omega) only [ld_agg ag28 cs28 cA, S, S1, S2, S3, S4, S5, ST, eq_self, reduceIte, reduceCtorEq, Nat.reduceEqDiff, Nat.reduceAdd]
  refine CallH.by (SlI_c n v w u es a b A rA hlen hes (ha.pre pA) hla hxa (hb.pre pA) hlb hxb hn) ?_
  rintro _ B ⟨g, rfl, hg, pB⟩
  simp (maxSteps := 1000000) (disch := omega) only [hg.row.len Try.underlying32, S, S1, S2, S3, S4, S5, ST, eq_self, reduceIte, reduceCtorEq, Nat.reduceEqDiff, Nat.reduceAdd]
  refine hQ _ _ _ ?_
  simp (maxSteps := 1000000) (disch := omega) only [S, S1, S2, S3, S4, S5, ST, eq_self, reduceIte, reduceCtorEq, Nat.reduceEqDiff, Nat.reduceAdd]
  refine ⟨?_, pA.trans pB⟩
  have hl := slP_len n es a b
  cases hd : slD n es a b with
  | none => rw [hd] at hl; rw [hl]; rfl
  | some d =>
    rw [hd] at hl
    have := slD_rng hd
    have e : ((slP n es a b).length : Int) = d := by rw [hl]; simp only; omega
    rw [e]; rfl
end Go.Proofs.Ythhnpchjjbjabaa.Ai
