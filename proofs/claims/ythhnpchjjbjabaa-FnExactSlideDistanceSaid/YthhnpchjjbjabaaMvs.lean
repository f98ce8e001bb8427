/- Moves of boards, both sides (impl.swaps, boards; spec.l9Next). -/
import Derived.Test.YthhnpchjjbjabaaMvP
import Derived.Test.YthhnpchjjbjabaaRch
import Derived.Test.YthhnpchjjbjabaaTok
import Derived.Test.YthhnpchjjbjabaaProg
import Derived.Test.YthhnpchjjbjabaaAiM2
import Derived.KernelRfl
/- Slim code of this translation. By the kernel. -/
namespace Go.Proofs.Ythhnpchjjbjabaa.Ai
open Go

/- (loop.example/g01128/impl.Graph).swaps -/
def ords85 : List (Nat × List (Nat × Bool)) := []
def cd85 : Cd := (.seq (.reg [⟨⟨some 2, Op.box 28 (Operand.tmp 0), none⟩, []⟩,
  ⟨⟨some 4, Op.assign (Operand.const (Value.slice none 0 0)), none⟩, []⟩]) (.seq (.reg [⟨⟨some 8, Op.buildSlice 38 0 #[], none⟩, []⟩,
  ⟨⟨some 5, Op.assign (Operand.tmp 8), none⟩, []⟩]) (.seq (.seq (.reg [⟨⟨some 9, Op.fieldAddr 28 (Operand.tmp 2) 1, none⟩, []⟩,
  ⟨⟨some 10, Op.load 22 (Operand.tmp 9), none⟩, []⟩,
  ⟨⟨some 11, Op.call { callee := (Callee.builtin Builtin.len), args := #[(Operand.tmp 10)], argTypes := #[22] }, none⟩, []⟩,
  ⟨⟨some 12, Op.move (Operand.const (Value.int IntKind.i64 0)), none⟩, []⟩]) (.block 0 (.loop (.seq (.reg [⟨⟨some 13, Op.binOp BinOp.lss 3 (Operand.tmp 12) (Operand.tmp 11) 3, none⟩, []⟩]) (.seq (.cond (Operand.tmp 13) .skip (.exit 0)) (.seq (.block 1 (.seq (.reg [⟨⟨some 14, Op.indexAddr 22 (Operand.tmp 10) (Operand.tmp 12), none⟩, []⟩,
  ⟨⟨some 15, Op.load 76 (Operand.tmp 14), none⟩, []⟩,
  ⟨⟨some 7, Op.alloc 76, none⟩, []⟩,
  ⟨⟨none, Op.store 76 (Operand.tmp 7) (Operand.tmp 15), none⟩, []⟩]) (.reg [⟨⟨some 16, Op.move (Operand.tmp 5), none⟩, []⟩,
  ⟨⟨some 17, Op.move (Operand.tmp 1), none⟩, []⟩,
  ⟨⟨some 18, Op.load 76 (Operand.tmp 7), none⟩, []⟩,
  ⟨⟨some 19, Op.call { callee := (Callee.value (Operand.func 133)), args := #[(Operand.tmp 17), (Operand.tmp 18)], argTypes := #[32, 76] }, none⟩, []⟩,
  ⟨⟨some 20, Op.buildSlice 38 1 #[(0, (Operand.tmp 19))], none⟩, []⟩,
  ⟨⟨some 21, Op.call { callee := (Callee.builtin Builtin.append), args := #[(Operand.tmp 16), (Operand.tmp 20)], argTypes := #[38, 38] }, none⟩, []⟩,
  ⟨⟨some 5, Op.assign (Operand.tmp 21), none⟩, []⟩]))) (.reg [⟨⟨some 22, Op.binOp BinOp.add 3 (Operand.tmp 12) (Operand.const (Value.int IntKind.i64 1)) 3, none⟩, []⟩,
  ⟨⟨some 12, Op.move (Operand.tmp 22), none⟩, []⟩]))))))) (.seq (.reg [⟨⟨some 23, Op.move (Operand.tmp 5), none⟩, []⟩,
  ⟨⟨some 4, Op.assign (Operand.tmp 23), none⟩, []⟩]) .ret))))
theorem sl85 : slim Try.f85.ntmps ords85 (Try.f85.body.getD .skip) = some cd85 := by kernel_rfl
theorem in85 {args : List Value} {H : AH} {R : Value → AH → Prop} (hl : args.length = 2) (h : ∀ (Q : Exit → Sl → AH → Prop), (∀ e s H, endA Try.prog [ResultVar.tmp 4] R e s H → Q e s H) → wpC Try.prog cd85 Q (enterA args) H) : ACalls Try.prog 85 args H R :=
  ACalls.intro (by kernel_rfl) Try.func85 rfl (by kernel_rfl) sl85 hl (of_decide_eq_true (by kernel_rfl)) (by kernel_rfl) h

/- (loop.example/g01128/impl.Graph).boards -/
def ords72 : List (Nat × List (Nat × Bool)) := []
def cd72 : Cd := (.seq (.reg [⟨⟨some 2, Op.box 28 (Operand.tmp 0), none⟩, []⟩,
  ⟨⟨some 4, Op.assign (Operand.const (Value.slice none 0 0)), none⟩, []⟩]) (.seq (.reg [⟨⟨some 8, Op.load 28 (Operand.tmp 2), none⟩, []⟩,
  ⟨⟨some 9, Op.move (Operand.tmp 1), none⟩, []⟩,
  ⟨⟨some 10, Op.call { callee := (Callee.value (Operand.func 100)), args := #[(Operand.tmp 8), (Operand.tmp 9)], argTypes := #[28, 32] }, none⟩, []⟩,
  ⟨⟨some 7, Op.move (Operand.tmp 10), none⟩, []⟩,
  ⟨⟨some 11, Op.extract (Operand.tmp 7) 0, none⟩, []⟩,
  ⟨⟨some 12, Op.extract (Operand.tmp 7) 1, none⟩, []⟩,
  ⟨⟨some 5, Op.assign (Operand.tmp 11), none⟩, []⟩,
  ⟨⟨some 6, Op.assign (Operand.tmp 12), none⟩, []⟩]) (.seq (.reg [⟨⟨some 13, Op.move (Operand.tmp 5), none⟩, []⟩,
  ⟨⟨some 4, Op.assign (Operand.tmp 13), none⟩, []⟩]) .ret)))
theorem sl72 : slim Try.f72.ntmps ords72 (Try.f72.body.getD .skip) = some cd72 := by kernel_rfl
theorem in72 {args : List Value} {H : AH} {R : Value → AH → Prop} (hl : args.length = 2) (h : ∀ (Q : Exit → Sl → AH → Prop), (∀ e s H, endA Try.prog [ResultVar.tmp 4] R e s H → Q e s H) → wpC Try.prog cd72 Q (enterA args) H) : ACalls Try.prog 72 args H R :=
  ACalls.intro (by kernel_rfl) Try.func72 rfl (by kernel_rfl) sl72 hl (of_decide_eq_true (by kernel_rfl)) (by kernel_rfl) h

/- loop.example/g01128/spec.l9Next -/
def ords122 : List (Nat × List (Nat × Bool)) := [(5, [(0, false), (1, false), (2, false), (3, false), (4, false), (5, false), (6, false), (7, false), (8, false), (9, false), (10, false), (11, false), (12, false), (13, false)])]
def cd122 : Cd := (.seq (.reg [⟨⟨some 3, Op.box 28 (Operand.tmp 0), none⟩, []⟩,
  ⟨⟨some 6, Op.assign (Operand.const (Value.slice none 0 0)), none⟩, []⟩,
  ⟨⟨some 7, Op.assign (Operand.const (Value.slice none 0 0)), none⟩, []⟩]) (.seq (.reg [⟨⟨some 13, Op.buildSlice 38 0 #[], none⟩, []⟩,
  ⟨⟨some 14, Op.buildSlice 22 0 #[], none⟩, []⟩,
  ⟨⟨some 8, Op.assign (Operand.tmp 13), none⟩, []⟩,
  ⟨⟨some 9, Op.assign (Operand.tmp 14), none⟩, []⟩]) (.seq (.seq (.reg [⟨⟨some 10, Op.assign (Operand.const (Value.int IntKind.i64 0)), none⟩, []⟩]) (.block 0 (.loop (.seq (.seq (.reg [⟨⟨some 15, Op.move (Operand.tmp 10), none⟩, []⟩,
  ⟨⟨some 16, Op.fieldAddr 28 (Operand.tmp 3) 1, none⟩, []⟩,
  ⟨⟨some 17, Op.load 22 (Operand.tmp 16), none⟩, []⟩,
  ⟨⟨some 18, Op.call { callee := (Callee.builtin Builtin.len), args := #[(Operand.tmp 17)], argTypes := #[22] }, none⟩, []⟩,
  ⟨⟨some 19, Op.binOp BinOp.lss 3 (Operand.tmp 15) (Operand.tmp 18) 3, none⟩, []⟩]) (.cond (Operand.tmp 19) .skip (.exit 0))) (.seq (.block 1 (.seq (.reg [⟨⟨some 22, Op.fieldAddr 28 (Operand.tmp 3) 1, none⟩, []⟩,
  ⟨⟨some 23, Op.load 22 (Operand.tmp 22), none⟩, []⟩,
  ⟨⟨some 24, Op.move (Operand.tmp 10), none⟩, []⟩,
  ⟨⟨some 25, Op.indexAddr 22 (Operand.tmp 23) (Operand.tmp 24), none⟩, []⟩,
  ⟨⟨some 26, Op.indexAddr 76 (Operand.tmp 25) (Operand.const (Value.int IntKind.i64 0)), none⟩, []⟩,
  ⟨⟨some 27, Op.load 3 (Operand.tmp 26), none⟩, []⟩,
  ⟨⟨some 28, Op.fieldAddr 28 (Operand.tmp 3) 1, none⟩, []⟩,
  ⟨⟨some 29, Op.load 22 (Operand.tmp 28), none⟩, []⟩,
  ⟨⟨some 30, Op.move (Operand.tmp 10), none⟩, []⟩,
  ⟨⟨some 31, Op.indexAddr 22 (Operand.tmp 29) (Operand.tmp 30), none⟩, []⟩,
  ⟨⟨some 32, Op.indexAddr 76 (Operand.tmp 31) (Operand.const (Value.int IntKind.i64 1)), none⟩, []⟩,
  ⟨⟨some 33, Op.load 3 (Operand.tmp 32), none⟩, []⟩,
  ⟨⟨some 11, Op.assign (Operand.tmp 27), none⟩, []⟩,
  ⟨⟨some 12, Op.assign (Operand.tmp 33), none⟩, []⟩]) (.seq (.reg [⟨⟨some 34, Op.move (Operand.tmp 2), none⟩, []⟩,
  ⟨⟨some 35, Op.unOp UnOp.not 4 (Operand.tmp 34), none⟩, []⟩,
  ⟨⟨some 36, Op.move (Operand.tmp 35), none⟩, []⟩,
  ⟨⟨some 37, Op.move (Operand.tmp 1), some (36, false)⟩, []⟩,
  ⟨⟨some 38, Op.move (Operand.tmp 11), some (36, false)⟩, []⟩,
  ⟨⟨some 39, Op.indexAddr 32 (Operand.tmp 37) (Operand.tmp 38), some (36, false)⟩, []⟩,
  ⟨⟨some 40, Op.load 3 (Operand.tmp 39), some (36, false)⟩, []⟩,
  ⟨⟨some 41, Op.binOp BinOp.eql 3 (Operand.tmp 40) (Operand.const (Value.int IntKind.i64 0)) 3, some (36, false)⟩, []⟩,
  ⟨⟨some 42, Op.pick (Operand.tmp 36) (Operand.const (Value.bool true)) (Operand.tmp 41), none⟩, []⟩,
  ⟨⟨some 43, Op.move (Operand.tmp 42), none⟩, []⟩,
  ⟨⟨some 44, Op.move (Operand.tmp 1), some (43, false)⟩, []⟩,
  ⟨⟨some 45, Op.move (Operand.tmp 12), some (43, false)⟩, []⟩,
  ⟨⟨some 46, Op.indexAddr 32 (Operand.tmp 44) (Operand.tmp 45), some (43, false)⟩, []⟩,
  ⟨⟨some 47, Op.load 3 (Operand.tmp 46), some (43, false)⟩, []⟩,
  ⟨⟨some 48, Op.binOp BinOp.eql 3 (Operand.tmp 47) (Operand.const (Value.int IntKind.i64 0)) 3, some (43, false)⟩, []⟩,
  ⟨⟨some 49, Op.pick (Operand.tmp 43) (Operand.const (Value.bool true)) (Operand.tmp 48), none⟩, []⟩]) (.cond (Operand.tmp 49) (.seq (.reg [⟨⟨some 50, Op.move (Operand.tmp 8), none⟩, []⟩,
  ⟨⟨some 51, Op.move (Operand.tmp 1), none⟩, []⟩,
  ⟨⟨some 52, Op.move (Operand.tmp 11), none⟩, []⟩,
  ⟨⟨some 53, Op.move (Operand.tmp 12), none⟩, []⟩,
  ⟨⟨some 54, Op.call { callee := (Callee.value (Operand.func 156)), args := #[(Operand.tmp 51), (Operand.tmp 52), (Operand.tmp 53)], argTypes := #[32, 3, 3] }, none⟩, []⟩,
  ⟨⟨some 55, Op.buildSlice 38 1 #[(0, (Operand.tmp 54))], none⟩, []⟩,
  ⟨⟨some 56, Op.call { callee := (Callee.builtin Builtin.append), args := #[(Operand.tmp 50), (Operand.tmp 55)], argTypes := #[38, 38] }, none⟩, []⟩,
  ⟨⟨some 8, Op.assign (Operand.tmp 56), none⟩, []⟩]) (.reg [⟨⟨some 57, Op.move (Operand.tmp 9), none⟩, []⟩,
  ⟨⟨some 58, Op.fieldAddr 28 (Operand.tmp 3) 1, none⟩, []⟩,
  ⟨⟨some 59, Op.load 22 (Operand.tmp 58), none⟩, []⟩,
  ⟨⟨some 60, Op.move (Operand.tmp 10), none⟩, []⟩,
  ⟨⟨some 61, Op.indexAddr 22 (Operand.tmp 59) (Operand.tmp 60), none⟩, []⟩,
  ⟨⟨some 62, Op.load 76 (Operand.tmp 61), none⟩, []⟩,
  ⟨⟨some 63, Op.buildSlice 22 1 #[(0, (Operand.tmp 62))], none⟩, []⟩,
  ⟨⟨some 64, Op.call { callee := (Callee.builtin Builtin.append), args := #[(Operand.tmp 57), (Operand.tmp 63)], argTypes := #[22, 22] }, none⟩, []⟩,
  ⟨⟨some 9, Op.assign (Operand.tmp 64), none⟩, []⟩])) .skip)))) (.reg [⟨⟨some 20, Op.move (Operand.tmp 10), none⟩, []⟩,
  ⟨⟨some 21, Op.binOp BinOp.add 3 (Operand.tmp 20) (Operand.const (Value.int IntKind.i64 1)) 3, none⟩, []⟩,
  ⟨⟨some 10, Op.assign (Operand.tmp 21), none⟩, []⟩])))))) (.seq (.reg [⟨⟨some 65, Op.move (Operand.tmp 8), none⟩, []⟩,
  ⟨⟨some 66, Op.move (Operand.tmp 9), none⟩, []⟩,
  ⟨⟨some 6, Op.assign (Operand.tmp 65), none⟩, []⟩,
  ⟨⟨some 7, Op.assign (Operand.tmp 66), none⟩, []⟩]) .ret))))
theorem sl122 : slim Try.f122.ntmps ords122 (Try.f122.body.getD .skip) = some cd122 := by kernel_rfl
theorem in122 {args : List Value} {H : AH} {R : Value → AH → Prop} (hl : args.length = 3) (h : ∀ (Q : Exit → Sl → AH → Prop), (∀ e s H, endA Try.prog [ResultVar.tmp 6, ResultVar.tmp 7] R e s H → Q e s H) → wpC Try.prog cd122 Q (enterA args) H) : ACalls Try.prog 122 args H R :=
  ACalls.intro (by kernel_rfl) Try.func122 rfl (by kernel_rfl) sl122 hl (of_decide_eq_true (by kernel_rfl)) (by kernel_rfl) h
end Go.Proofs.Ythhnpchjjbjabaa.Ai

namespace Go.Proofs.Ythhnpchjjbjabaa.Ai
open Go Go.RowKit
set_option linter.unusedVariables false
set_option linter.unusedSimpArgs false

theorem mvs_false (es : List (Int × Int)) (p : List Int) : mvs es false p = es := by
  unfold mvs
  rw [List.filter_eq_self]
  intro e _; rfl
theorem nxt_false (es : List (Int × Int)) (p : List Int) : nxt es false p = es.map fun e => swp p e.1.toNat e.2.toNat := by
  unfold nxt; rw [mvs_false]

set_option maxRecDepth 20000 in
set_option maxHeartbeats 4000000 in
theorem swaps_c (n : Nat) (v w : Value) (es : List (Int × Int)) (p : List Int) (H : AH) (hr : RowP 76 H v es) (hlen : es.length ≤ 1099511627776) (hx : Row 3 H w p) (hg : Grd (n : Int) es) (hp : Bd n p) :
    ACalls Try.prog 85 [.agg (List.toArray [.int .i64 (n : Int), v]), w] H fun r H' => InL H.length H'.length 32 3 H' r (nxt es false p) ∧ H <+: H' := by
  have hn8 := hp.1.1
  have hpl := hp.2
  refine in85 rfl ?_
  intro Q hQ
  rw [nxt_false] at hQ
  simp (maxSteps := 1000000) (disch := omega) only [cd85, hr.boxG, S, S1, S2, S3, S4, S5, ST, eq_self, reduceIte, reduceCtorEq, Nat.reduceEqDiff, Nat.reduceAdd]
  generalize hA : H ++ [AObj.cells [.int .i64 ↑n, v] 28 false] = A
  have pA : H <+: A := by rw [← hA]; exact List.prefix_append _ _
  have cA : A[H.length]? = some (.cells [.int .i64 ↑n, v] 28 false) := by rw [← hA]; exact at_new ..
  have rA := hr.pre pA
  try simp (maxSteps := 1000000) (disch := omega) only [S, S1, S2, S3, S4, S5, ST, eq_self, reduceIte, reduceCtorEq, Nat.reduceEqDiff, Nat.reduceAdd]
  generalize hB : A ++ [AObj.cells [] 32 false] = B
  have pB : A <+: B := by rw [← hB]; exact List.prefix_append _ _
  have lA : A.length = H.length + 1 := by rw [← hA]; simp
  have lB : B.length = A.length + 1 := by rw [← hB]; simp
  have cB : B[A.length]? = some (.cells [] 32 false) := by rw [← hB]; exact at_new ..
  have cBG := pre_at pB cA
  have rB := rA.pre pB
  simp (maxSteps := 1000000) (disch := omega) only [cell_of cBG, rB.len Try.underlying22, S, S1, S2, S3, S4, S5, ST, eq_self, reduceIte, reduceCtorEq, Nat.reduceEqDiff, Nat.reduceAdd]
  have hin0 : InU H.length B.length 32 3 B A.length [] [] :=
    ⟨by omega, by omega, cB, Nat.le_refl _, fun i hi => absurd hi (by simp), fun i j _ hi _ => absurd hi (by simp)⟩
  refine LoopH.by (fun m s H' => ∃ i o us, m + i = es.length ∧ s 1 = w ∧ s 2 = .pointer (some ⟨H.length, 0, none⟩) ∧ s 5 = .slice (some ⟨o, 0, none⟩) i i ∧ s 10 = v ∧ s 11 = .int .i64 (es.length : Int) ∧ s 12 = .int .i64 ((i : Nat) : Int) ∧ i ≤ es.length ∧ InU H.length H'.length 32 3 H' o us ((es.take i).map fun e => swp p e.1.toNat e.2.toNat) ∧ H <+: H') es.length ?_ ?_
  · exact ⟨0, A.length, [], by simp, rfl, rfl, rfl, rfl, rfl, rfl, by omega, by simpa using hin0, pA.trans pB⟩
  rintro m s H' ⟨i, o, us, hm, h1, h2, h5, h10, h11, h12, hie, hin, hpp⟩
  simp (maxSteps := 1000000) (disch := omega) only [h1, h2, h5, h10, h11, h12, S, S1, S2, S3, S4, S5, ST, eq_self, reduceIte, reduceCtorEq, Nat.reduceEqDiff, Nat.reduceAdd]
  have hml : ((es.take i).map fun e => swp p e.1.toNat e.2.toNat).length = i := by simp; omega
  refine brD.intro (fun g => ?_) (fun g => ?_)
  rotate_left
  · simp (maxSteps := 1000000) (disch := omega) only [h5, S, S1, S2, S3, S4, S5, ST, eq_self, reduceIte, reduceCtorEq, Nat.reduceEqDiff, Nat.reduceAdd]
    refine hQ _ _ _ ?_
    simp (maxSteps := 1000000) (disch := omega) only [h5, S, S1, S2, S3, S4, S5, ST, eq_self, reduceIte, reduceCtorEq, Nat.reduceEqDiff, Nat.reduceAdd]
    have : i = es.length := by omega
    subst this
    have := hin.inl
    rw [hml] at this
    rw [List.take_of_length_le (Nat.le_refl _)] at this
    exact ⟨this, hpp⟩
  have hi : i < es.length := by omega
  have hr' := hr.pre hpp
  have hx' := hx.pre hpp
  have hem : es.getD i (0, 0) ∈ es := by simp [hi]
  obtain ⟨q1, q2, q3⟩ := grd_mem hg hem
  have hst : (es.take (i + 1)).map (fun e => swp p e.1.toNat e.2.toNat) = (es.take i).map (fun e => swp p e.1.toNat e.2.toNat) ++ [swp p (es.getD i (0, 0)).1.toNat (es.getD i (0, 0)).2.toNat] := by
    rw [List.take_add_one, List.getElem?_eq_getElem hi, List.map_append]
    have : es.getD i (0, 0) = es[i] := by simp [hi]
    rw [this]; rfl
  have hld := hr'.ld (P := Try.prog) ag76 cs76 hi
  generalize he : es.getD i (0, 0) = e at *
  obtain ⟨x, y⟩ := e
  obtain ⟨a, rfl⟩ : ∃ a : Nat, x = a := ⟨x.toNat, by simp only at q1; omega⟩
  obtain ⟨b, rfl⟩ : ∃ b : Nat, y = b := ⟨y.toNat, by simp only at q1 q2; omega⟩
  simp only [Int.toNat_natCast] at q1 q2 q3 hst
  have st0 := st_a2 (at_new H' (.cells [.int .i64 0, .int .i64 0] 76 false)) rfl (.int .i64 (a : Int)) (.int .i64 (b : Int))
  rw [set_new] at st0
  simp (maxSteps := 1000000) (disch := omega) only [h1, h2, h5, h10, h11, h12, hr'.ix Try.underlying22 cs76, Int.toNat_natCast, hld, alloc_a2, st0, S, S1, S2, S3, S4, S5, ST, eq_self, reduceIte, reduceCtorEq, Nat.reduceEqDiff, Nat.reduceAdd]
  generalize hC : H' ++ [AObj.cells [.int .i64 (a : Int), .int .i64 (b : Int)] 76 false] = C
  have pC : H' <+: C := by rw [← hC]; exact List.prefix_append _ _
  have cC : C[H'.length]? = some (.cells [.int .i64 (a : Int), .int .i64 (b : Int)] 76 false) := by rw [← hC]; exact at_new ..
  simp (maxSteps := 1000000) (disch := omega) only [h1, h2, h5, h10, h11, h12, ld_a2 cC, S, S1, S2, S3, S4, S5, ST, eq_self, reduceIte, reduceCtorEq, Nat.reduceEqDiff, Nat.reduceAdd]
  refine CallH.by (swapped_c w p a b C (hx'.pre pC) (by omega) (by omega) (by omega)) ?_
  rintro c D ⟨hc, pD⟩
  have hinw := InI.of hc.mine
  have hpD := pC.trans pD
  have hl1 := hpp.length_le
  have hl2 := pC.length_le
  obtain ⟨H3, k1, k2, k3, k4⟩ := ((hin.pre hpD).wide (Nat.le_refl _) hl2).app1 (P := Try.prog) (t2 := 38) Try.underlying38 cs32 (by rw [by32]; decide) zk32 hinw (by omega) pD.length_le (Nat.le_refl _) (by omega)
  rw [hml] at k1 k2
  rw [← hst] at k2
  have ho := hin.1
  have f1 : H <+: H3 := prefix_of fun j x hx' => k4 j x (by have := at_lt hx'; omega) (pre_at (hpp.trans hpD) hx')
  have f2 : InU H.length H3.length 32 3 H3 (D.length + 1) (us.take i ++ [c]) ((es.take (i + 1)).map fun e => swp p e.1.toNat e.2.toNat) := by rw [k3]; exact k2
  simp (maxSteps := 1000000) (disch := omega) only [h1, h2, h5, h10, h11, h12, bsRowQ hc.row, k1, wrap64, S, S1, S2, S3, S4, S5, ST, eq_self, reduceIte, reduceCtorEq, Nat.reduceEqDiff, Nat.reduceAdd]
  refine ⟨m - 1, by omega, i + 1, D.length + 1, us.take i ++ [c], ?_⟩
  (repeat' first | exact f1 | exact f2 | apply And.intro) <;> first | (simp only [Value.int.injEq, true_and]; omega) | omega | rfl | assumption | (simp; done) | (simp; omega)

theorem hole_of {n : Nat} {p : List Int} (hp : Bd n p) (hn : 1 ≤ n) : ∃ h : Nat, h < n ∧ ax p 0 = (h : Int) ∧ p.getD h 0 = 0 := by
  have : (0 : Int) ∈ p := hp.1.2 0 (by rw [hp.2]; omega)
  obtain ⟨i, h1, h2, h3⟩ := ax_at this
  exact ⟨i, by rw [← hp.2]; exact h1, h2, h3⟩

set_option maxHeartbeats 1000000 in
theorem boardsI_c (n : Nat) (v w : Value) (es : List (Int × Int)) (p : List Int) (H : AH) (hr : RowP 76 H v es) (hlen : es.length ≤ 1099511627776) (hx : Row 3 H w p) (hg : Grd (n : Int) es) (hp : Bd n p) (hn : 1 ≤ n) :
    ACalls Try.prog 72 [.agg (List.toArray [.int .i64 (n : Int), v]), w] H fun r H' => InL H.length H'.length 32 3 H' r (nxt es true p) ∧ H <+: H' := by
  obtain ⟨h, h1, h2, h3⟩ := hole_of hp hn
  refine in72 rfl ?_
  intro Q hQ
  simp (maxSteps := 1000000) (disch := omega) only [cd72, hr.boxG, S, S1, S2, S3, S4, S5, ST, eq_self, reduceIte, reduceCtorEq, Nat.reduceEqDiff, Nat.reduceAdd]
  generalize hA : H ++ [AObj.cells [.int .i64 ↑n, v] 28 false] = A
  have pA : H <+: A := by rw [← hA]; exact List.prefix_append _ _
  have cA : A[H.length]? = some (.cells [.int .i64 ↑n, v] 28 false) := by rw [← hA]; exact at_new ..
  have rA := hr.pre pA
  simp (maxSteps := 1000000) (disch := omega) only [ld_agg ag28 cs28 cA, S, S1, S2, S3, S4, S5, ST, eq_self, reduceIte, reduceCtorEq, Nat.reduceEqDiff, Nat.reduceAdd]
  refine CallH.by (slides_c n v w es p A rA hlen (hx.pre pA) hg (by rw [hp.2]) h h2 (by rw [hp.2]; exact h1)) ?_
  rintro _ B ⟨L, nd, rfl, hL, hnd, pB⟩
  simp (maxSteps := 1000000) (disch := omega) only [S, S1, S2, S3, S4, S5, ST, eq_self, reduceIte, reduceCtorEq, Nat.reduceEqDiff, Nat.reduceAdd]
  refine hQ _ _ _ ?_
  have e : brds p (nbsU es (h : Int) (n : Int).toNat) h = nxt es true p := by
    rw [Int.toNat_natCast]; exact brds_nxt hg hp h1 h3
  rw [e] at hL
  have ht : isTup L = false := by
    rcases hL with q | ⟨o, us, q, _⟩
    · rw [q.1]; rfl
    · rw [q]; rfl
  simp (maxSteps := 1000000) (disch := omega) only [ht, S, S1, S2, S3, S4, S5, ST, eq_self, reduceIte, reduceCtorEq, Nat.reduceEqDiff, Nat.reduceAdd]
  exact ⟨hL.wide pA.length_le (Nat.le_refl _), pA.trans pB⟩

/-- .. for impl.reached -/
theorem swaps_mv {HB : AH} {n : Nat} {v : Value} {es : List (Int × Int)} (hr : RowP 76 HB v es) (hlen : es.length ≤ 1099511627776) (hg : Grd (n : Int) es) :
    MvFn HB n 85 [.agg (List.toArray [.int .i64 (n : Int), v])] [] (nxt es false) := fun w b H hp hx hb => swaps_c n v w es b H (hr.pre hp) hlen hx hg hb
theorem boards_mv {HB : AH} {n : Nat} {v : Value} {es : List (Int × Int)} (hr : RowP 76 HB v es) (hlen : es.length ≤ 1099511627776) (hg : Grd (n : Int) es) (hn : 1 ≤ n) :
    MvFn HB n 72 [.agg (List.toArray [.int .i64 (n : Int), v])] [] (nxt es true) := fun w b H hp hx hb => boardsI_c n v w es b H (hr.pre hp) hlen hx hg hb hn
theorem mkf_G {G : AH} {e : TypeId} {v : Value} {ps : List (Int × Int)} (h : RowP e G v ps) (f : FuncId) (n : Int) : makeFuncA (.func f) [.agg (List.toArray [.int .i64 n, v])] [] = some (.func (.func f) (List.toArray [.agg (List.toArray [.int .i64 n, v])]) (List.toArray [])) := by
  obtain ⟨q, rfl⟩ := h.shape
  rfl
theorem nxt_le {n : Nat} {es : List (Int × Int)} (hg : Grd (n : Int) es) (hl : es.length ≤ 1000000) (sl : Bool) (b : List Int) : (nxt es sl b).length ≤ 1000000 := by
  rw [nxt_len]
  exact Nat.le_trans (mvs_len es sl b) hl

/- spec.l9Next -/
theorem InU.keptP {lo hi : Nat} {H0 H H' : AH} {o : Nat} {us : List Value} {ls : List (List Int)} {v : Value} {ps : List (Int × Int)} (h : InU lo hi 32 3 H o us ls) (hm : MineP 76 H0 H v ps) (hk : Kept v H H') : InU lo hi 32 3 H' o us ls := by
  rcases hm with g | ⟨oo, zs, g1, g2, g3, g4⟩
  · exact h.move fun j y _ _ hy => hk j y (.inl g.1) hy
  · have hk' : ∀ (j : Nat) (y : AObj), j ≠ oo → H[j]? = some y → H'[j]? = some y := fun j y hj hy => hk j y (.inr (by rw [g1]; exact hj)) hy
    refine h.moveq (q := oo) ⟨fun e => ?_, fun i hi => ?_⟩ hk'
    · have := h.2.2.1
      rw [e, g3] at this
      simp only [Option.some.injEq, AObj.cells.injEq] at this
      exact absurd this.2.1 (by decide)
    · rcases (h.2.2.2.2.1 i hi).1 with q | ⟨ow, ws, q1, q2, q3, q4, q5⟩
      · exact .inl q.1
      · refine .inr fun e => ?_
        rw [q1] at e
        have e' : ow = oo := e
        rw [e', g3] at q4
        simp only [Option.some.injEq, AObj.cells.injEq] at q4
        exact absurd q4.2.1 (by decide)
theorem MineP.keptU {H0 H H' : AH} {o : Nat} {us : List Value} {v : Value} {ps : List (Int × Int)} (hm : MineP 76 H0 H v ps) (ho : H[o]? = some (.cells us 32 false)) (hk : ∀ (j : Nat) (y : AObj), j ≠ o → H[j]? = some y → H'[j]? = some y) : MineP 76 H0 H' v ps := by
  rcases hm with g | ⟨oo, zs, g1, g2, g3, g4⟩
  · exact .inl g
  · refine .inr ⟨oo, zs, g1, g2, hk _ _ (fun e => ?_) g3, g4⟩
    rw [e, ho] at g3
    simp only [Option.some.injEq, AObj.cells.injEq] at g3
    exact absurd g3.2.1 (by decide)

set_option maxRecDepth 20000 in
set_option maxHeartbeats 8000000 in
theorem l9Next_c (n : Nat) (v w : Value) (es : List (Int × Int)) (p : List Int) (sl : Bool) (H : AH) (hr : RowP 76 H v es) (hlen : es.length ≤ 1000000) (hx : Row 3 H w p) (hg : Grd (n : Int) es) (hp : Bd n p) :
    ACalls Try.prog 122 [.agg (List.toArray [.int .i64 (n : Int), v]), w, .bool sl] H fun r H' => ∃ L M, r = .tuple (List.toArray [L, M]) ∧ InL H.length H'.length 32 3 H' L (nxt es sl p) ∧ MineP 76 H H' M (mvs es sl p) ∧ H <+: H' := by
  have hn8 := hp.1.1
  have hpl := hp.2
  refine in122 rfl ?_
  intro Q hQ
  simp (maxSteps := 1000000) (disch := omega) only [cd122, hr.boxG, S, S1, S2, S3, S4, S5, ST, eq_self, reduceIte, reduceCtorEq, Nat.reduceEqDiff, Nat.reduceAdd]
  generalize hA : H ++ [AObj.cells [.int .i64 ↑n, v] 28 false] = A
  have pA : H <+: A := by rw [← hA]; exact List.prefix_append _ _
  have cA : A[H.length]? = some (.cells [.int .i64 ↑n, v] 28 false) := by rw [← hA]; exact at_new ..
  have rA := hr.pre pA
  try simp (maxSteps := 1000000) (disch := omega) only [S, S1, S2, S3, S4, S5, ST, eq_self, reduceIte, reduceCtorEq, Nat.reduceEqDiff, Nat.reduceAdd]
  generalize hB : A ++ [AObj.cells [] 32 false] = B
  have pB : A <+: B := by rw [← hB]; exact List.prefix_append _ _
  have lA : A.length = H.length + 1 := by rw [← hA]; simp
  have lB : B.length = A.length + 1 := by rw [← hB]; simp
  have cB : B[A.length]? = some (.cells [] 32 false) := by rw [← hB]; exact at_new ..
  generalize hC : B ++ [AObj.cells [] 76 false] = C
  have pC : B <+: C := by rw [← hC]; exact List.prefix_append _ _
  have lC : C.length = B.length + 1 := by rw [← hC]; simp
  have pAC := pB.trans pC
  have hin0 : InU H.length C.length 32 3 C A.length [] [] :=
    ⟨by omega, by omega, pre_at pC cB, Nat.le_refl _, fun i hi => absurd hi (by simp), fun i j _ hi _ => absurd hi (by simp)⟩
  have hm0 : MineP 76 H C (.slice (some ⟨B.length, 0, none⟩) 0 0) [] := by rw [← hC]; exact MineP.nil0 (P := Try.prog) H B (by omega)
  refine LoopH.by (fun m s H' => ∃ i o us, m + i = es.length ∧ s 1 = w ∧ s 2 = .bool sl ∧ s 3 = .pointer (some ⟨H.length, 0, none⟩) ∧ s 8 = .slice (some ⟨o, 0, none⟩) (nxt (es.take i) sl p).length (nxt (es.take i) sl p).length ∧ s 10 = .int .i64 ((i : Nat) : Int) ∧ i ≤ es.length ∧ InU H.length H'.length 32 3 H' o us (nxt (es.take i) sl p) ∧ MineP 76 H H' (s 9) (mvs (es.take i) sl p) ∧ A <+: H') es.length ?_ ?_
  · exact ⟨0, A.length, [], by simp, rfl, rfl, rfl, rfl, rfl, by omega, by simpa [nxt, mvs] using hin0, hm0, pAC⟩
  rintro m s H' ⟨i, o, us, hm, h1, h2, h3, h8, h10, hie, hin, hmv, hpA⟩
  have hpp := pA.trans hpA
  have hr' := hr.pre hpp
  have hx' := hx.pre hpp
  have cG := pre_at hpA cA
  generalize hM : s 9 = M at *
  simp (maxSteps := 1000000) (disch := omega) only [h1, h2, h3, h8, h10, hM, cell_of cG, hr'.len Try.underlying22, S, S1, S2, S3, S4, S5, ST, eq_self, reduceIte, reduceCtorEq, Nat.reduceEqDiff, Nat.reduceAdd]
  refine brD.intro (fun g => ?_) (fun g => ?_)
  rotate_left
  · simp (maxSteps := 1000000) (disch := omega) only [h8, hM, S, S1, S2, S3, S4, S5, ST, eq_self, reduceIte, reduceCtorEq, Nat.reduceEqDiff, Nat.reduceAdd]
    refine hQ _ _ _ ?_
    simp (maxSteps := 1000000) (disch := omega) only [h8, hM, hmv.row.tup, S, S1, S2, S3, S4, S5, ST, eq_self, reduceIte, reduceCtorEq, Nat.reduceEqDiff, Nat.reduceAdd]
    have : i = es.length := by omega
    subst this
    rw [List.take_of_length_le (Nat.le_refl _)] at hin hmv ⊢
    exact ⟨_, _, rfl, hin.inl, hmv, hpp⟩
  have hi : i < es.length := by omega
  have hem : es.getD i (0, 0) ∈ es := by simp [hi]
  obtain ⟨q1, q2, q3⟩ := grd_mem hg hem
  have hst : mvs (es.take (i + 1)) sl p = mvs (es.take i) sl p ++ if (!sl || holeB p (es.getD i (0, 0))) = true then [es.getD i (0, 0)] else [] := by
    unfold mvs
    rw [List.take_add_one, List.getElem?_eq_getElem hi, List.filter_append]
    have : es.getD i (0, 0) = es[i] := by simp [hi]
    rw [this]
    simp only [Option.toList_some, List.filter_cons, List.filter_nil]
  have hst2 : nxt (es.take (i + 1)) sl p = nxt (es.take i) sl p ++ if (!sl || holeB p (es.getD i (0, 0))) = true then [swp p (es.getD i (0, 0)).1.toNat (es.getD i (0, 0)).2.toNat] else [] := by
    unfold nxt
    rw [hst, List.map_append]
    split <;> rfl
  have hll : (nxt (es.take i) sl p).length ≤ 1000000 := by
    rw [nxt_len]
    have := mvs_len (es.take i) sl p
    simp at this; omega
  have hll2 : (mvs (es.take i) sl p).length ≤ 1000000 := by rw [← nxt_len]; exact hll
  have hc0 := hr'.cell0 hi
  have hc1 := hr'.cell1 hi
  have hld := hr'.ld (P := Try.prog) ag76 cs76 hi
  generalize he : es.getD i (0, 0) = e at *
  obtain ⟨x, y⟩ := e
  obtain ⟨a, rfl⟩ : ∃ a : Nat, x = a := ⟨x.toNat, by simp only at q1; omega⟩
  obtain ⟨b, rfl⟩ : ∃ b : Nat, y = b := ⟨y.toNat, by simp only at q1 q2; omega⟩
  simp only [Int.toNat_natCast] at q1 q2 q3 hst2
  have la : a < p.length := by omega
  have lb : b < p.length := by omega
  have hh : holeB p ((a : Int), (b : Int)) = (decide (p.getD a 0 = 0) || decide (p.getD b 0 = 0)) := by
    unfold holeB; simp only [Int.toNat_natCast]
  simp (maxSteps := 1000000) (disch := omega) only [h1, h2, h3, h8, h10, hM, cell_of cG, hr'.ix Try.underlying22 cs76, Int.toNat_natCast, hc0, hc1, S, S1, S2, S3, S4, S5, ST, eq_self, reduceIte, reduceCtorEq, Nat.reduceEqDiff, Nat.reduceAdd]
  have skip : (!sl || holeB p ((a : Int), (b : Int))) = false → mvs (es.take (i + 1)) sl p = mvs (es.take i) sl p ∧ nxt (es.take (i + 1)) sl p = nxt (es.take i) sl p := fun q => by
    rw [hst, hst2, q]; simp
  -- the move is taken
  have take : (!sl || holeB p ((a : Int), (b : Int))) = true → @CallH Try.prog 156 [w, .int .i64 (a : Int), .int .i64 (b : Int)] H' ⟨fun r H1 => ∃ o' us' M', ∃ H3 H4 : AH, buildSliceA Try.prog 38 1 [(0, r)] H1 = some (.slice (some ⟨H1.length, 0, none⟩) 1 1, H1 ++ [.cells [r] 32 false]) ∧
      appendA Try.prog 38 38 (.slice (some ⟨o, 0, none⟩) (nxt (es.take i) sl p).length (nxt (es.take i) sl p).length) (.slice (some ⟨H1.length, 0, none⟩) 1 1) (H1 ++ [.cells [r] 32 false]) = some (.slice (some ⟨o', 0, none⟩) (nxt (es.take (i + 1)) sl p).length (nxt (es.take (i + 1)) sl p).length, H3) ∧
      cellA H3 H.length 1 = some v ∧ RowP 76 H3 v es ∧ appendA Try.prog 22 22 M (.slice (some ⟨H3.length, 0, none⟩) 1 1) (H3 ++ [.cells [.int .i64 (a : Int), .int .i64 (b : Int)] 76 false]) = some (M', H4) ∧
      InU H.length H4.length 32 3 H4 o' us' (nxt (es.take (i + 1)) sl p) ∧ MineP 76 H H4 M' (mvs (es.take (i + 1)) sl p) ∧ A <+: H4⟩ := by
    intro q
    refine CallH.by (l9Swap_c w p a b H' hx' (by omega) la lb) ?_
    rintro c D ⟨hc, pD⟩
    rw [hst2, hst, q, if_pos rfl, if_pos rfl]
    have hinw := InI.of hc.mine
    have hl1 := hpp.length_le
    obtain ⟨H3, k1, k2, k3, k4⟩ := (hin.pre pD).app1 (P := Try.prog) (t2 := 38) Try.underlying38 cs32 (by rw [by32]; decide) zk32 hinw (by omega) pD.length_le (Nat.le_refl _) (by omega)
    have ho := hin.1
    have ho2 := hin.2.2.1
    have hoA : A.length ≤ o ∨ o = H.length := by omega
    have hno : o ≠ H.length := fun e => by
      rw [e, cG] at ho2
      simp only [Option.some.injEq, AObj.cells.injEq] at ho2
      exact absurd ho2.2.1 (by decide)
    have pA3 : A <+: H3 := prefix_of fun j x hx' => k4 j x (by have := at_lt hx'; omega) (pre_at (hpA.trans pD) hx')
    have hm3 := (hmv.pre pD).keptU (pre_at pD ho2) k4
    obtain ⟨M', H4, j1, j2, j3, j4, j5, j6⟩ := own1_22 hm3 (pA.trans pA3) (by omega) (a : Int) (b : Int)
    have k2' : InU H.length H3.length 32 3 H3 (D.length + 1) (us.take (nxt (es.take i) sl p).length ++ [c]) (nxt (es.take i) sl p ++ [swp p a b]) := by rw [k3]; exact k2
    have k5 := k2'.keptP hm3 j4
    have hl3 : H3.length ≤ H4.length := by
      rcases j2 with g | ⟨oo, zs, g1, g2, g3, g4⟩
      · have := congrArg List.length g.2; simp at this
      · have := at_lt g3
        rw [g1] at j5
        have j5' : H3.length ≤ oo := j5
        omega
    have pA4 : A <+: H4 := prefix_of fun j x hx' => by
      rcases hm3 with g | ⟨oo, zs, g1, g2, g3, g4⟩
      · exact j4 j x (.inl g.1) (pre_at pA3 hx')
      · refine j4 j x (.inr ?_) (pre_at pA3 hx')
        rw [g1]
        show j ≠ oo
        intro e
        have h5 := pre_at pA3 hx'
        rw [e] at hx'
        have := at_lt hx'
        have h6 := pre_at pA3 hx'
        by_cases e2 : oo = H.length
        · have := pre_at pA3 cA
          rw [← e2, g3] at this
          simp only [Option.some.injEq, AObj.cells.injEq] at this
          exact absurd this.2.1 (by decide)
        · omega
    refine ⟨D.length + 1, us.take (nxt (es.take i) sl p).length ++ [c], M', H3, H4, bsRowQ hc.row D, ?_, by rw [cell_of (pre_at pA3 cA)]; rfl, hr.pre (pA.trans pA3), j1, k5.wide (Nat.le_refl _) hl3, j2, pA4⟩
    rw [List.length_append]
    exact k1
  have fin : ∀ (s' : Sl), s' 1 = w → s' 2 = .bool sl → s' 3 = .pointer (some ⟨H.length, 0, none⟩) → True := fun _ _ _ _ => trivial
  cases hs : sl with
  | false =>
    rw [hs] at take hst hst2 hin hmv h8 skip h2
    simp (maxSteps := 1000000) (disch := omega) only [h1, h2, h3, h8, h10, hM, S, S1, S2, S3, S4, S5, ST, eq_self, reduceIte, reduceCtorEq, Nat.reduceEqDiff, Nat.reduceAdd]
    refine CallH.by (take rfl) ?_
    rintro r H1 ⟨o', us', M', H3, H4, t1, t2, t3, t4, t5, t6, t7, t8⟩
    have hld4 := t4.ld (P := Try.prog) ag76 cs76 hi
    rw [he] at hld4
    simp (maxSteps := 1000000) (disch := omega) only [h1, h2, h3, h8, h10, hM, t1, t2, t3, t4.ix Try.underlying22 cs76, Int.toNat_natCast, hld4, t5, wrap64, S, S1, S2, S3, S4, S5, ST, eq_self, reduceIte, reduceCtorEq, Nat.reduceEqDiff, Nat.reduceAdd]
    refine ⟨m - 1, by omega, i + 1, o', us', ?_⟩
    (repeat' first | exact t6 | exact t7 | exact t8 | apply And.intro) <;> first | (simp only [Value.int.injEq, true_and]; omega) | omega | rfl | assumption | (simp; done) | (simp; omega)
  | true =>
    rw [hs] at take hst hst2 hin hmv h8 skip h2
    simp only [Bool.not_true, Bool.false_or, hh] at take skip
    simp (maxSteps := 1000000) (disch := omega) only [h1, h2, h3, h8, h10, hM, hx'.ix Try.underlying32 cs3, hx'.cell, Int.toNat_natCast, S, S1, S2, S3, S4, S5, ST, eq_self, reduceIte, reduceCtorEq, Nat.reduceEqDiff, Nat.reduceAdd]
    refine brD.intro (fun e1 => ?_) (fun e1 => ?_)
    · rw [decide_eq_true e1] at take
      simp (maxSteps := 1000000) (disch := omega) only [e1, h1, h2, h3, h8, h10, hM, S, S1, S2, S3, S4, S5, ST, eq_self, reduceIte, reduceCtorEq, Nat.reduceEqDiff, Nat.reduceAdd]
      refine CallH.by (take rfl) ?_
      rintro r H1 ⟨o', us', M', H3, H4, t1, t2, t3, t4, t5, t6, t7, t8⟩
      have hld4 := t4.ld (P := Try.prog) ag76 cs76 hi
      rw [he] at hld4
      simp (maxSteps := 1000000) (disch := omega) only [h1, h2, h3, h8, h10, hM, t1, t2, t3, t4.ix Try.underlying22 cs76, Int.toNat_natCast, hld4, t5, wrap64, S, S1, S2, S3, S4, S5, ST, eq_self, reduceIte, reduceCtorEq, Nat.reduceEqDiff, Nat.reduceAdd]
      refine ⟨m - 1, by omega, i + 1, o', us', ?_⟩
      (repeat' first | exact t6 | exact t7 | exact t8 | apply And.intro) <;> first | (simp only [Value.int.injEq, true_and]; omega) | omega | rfl | assumption | (simp; done) | (simp; omega)
    · rw [decide_eq_false e1, Bool.false_or] at take skip
      simp (maxSteps := 1000000) (disch := omega) only [e1, h1, h2, h3, h8, h10, hM, hx'.ix Try.underlying32 cs3, hx'.cell, Int.toNat_natCast, S, S1, S2, S3, S4, S5, ST, eq_self, reduceIte, reduceCtorEq, Nat.reduceEqDiff, Nat.reduceAdd]
      refine brD.intro (fun e2 => ?_) (fun e2 => ?_)
      · simp (maxSteps := 1000000) (disch := omega) only [e1, e2, h1, h2, h3, h8, h10, hM, S, S1, S2, S3, S4, S5, ST, eq_self, reduceIte, reduceCtorEq, Nat.reduceEqDiff, Nat.reduceAdd]
        refine CallH.by (take (decide_eq_true e2)) ?_
        rintro r H1 ⟨o', us', M', H3, H4, t1, t2, t3, t4, t5, t6, t7, t8⟩
        have hld4 := t4.ld (P := Try.prog) ag76 cs76 hi
        rw [he] at hld4
        simp (maxSteps := 1000000) (disch := omega) only [h1, h2, h3, h8, h10, hM, t1, t2, t3, t4.ix Try.underlying22 cs76, Int.toNat_natCast, hld4, t5, wrap64, S, S1, S2, S3, S4, S5, ST, eq_self, reduceIte, reduceCtorEq, Nat.reduceEqDiff, Nat.reduceAdd]
        refine ⟨m - 1, by omega, i + 1, o', us', ?_⟩
        (repeat' first | exact t6 | exact t7 | exact t8 | apply And.intro) <;> first | (simp only [Value.int.injEq, true_and]; omega) | omega | rfl | assumption | (simp; done) | (simp; omega)
      · obtain ⟨s1, s2⟩ := skip (decide_eq_false e2)
        rw [← s1] at hmv
        rw [← s2] at hin h8
        simp (maxSteps := 1000000) (disch := omega) only [e1, e2, h1, h2, h3, h8, h10, hM, wrap64, S, S1, S2, S3, S4, S5, ST, eq_self, reduceIte, reduceCtorEq, Nat.reduceEqDiff, Nat.reduceAdd]
        refine ⟨m - 1, by omega, i + 1, o, us, ?_⟩
        (repeat' first | exact hin | exact hmv | exact hpA | apply And.intro) <;> first | (simp only [Value.int.injEq, true_and]; omega) | omega | rfl | assumption | (simp; done) | (simp; omega)
end Go.Proofs.Ythhnpchjjbjabaa.Ai
