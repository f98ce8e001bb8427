/- Pieces of a set of nodes (spec.l2Reach, l2Pieces). -/
import Derived.Test.YthhnpchjjbjabaaReachP
import Derived.Test.YthhnpchjjbjabaaHas
import Derived.Test.YthhnpchjjbjabaaPut
import Derived.Test.YthhnpchjjbjabaaAppL
import Derived.Test.YthhnpchjjbjabaaSwp
import Derived.Test.YthhnpchjjbjabaaGrf
import Derived.Test.YthhnpchjjbjabaaProg
import Derived.Test.YthhnpchjjbjabaaAiM2
import Derived.KernelRfl
/- Slim code of this translation. By the kernel. -/
namespace Go.Proofs.Ythhnpchjjbjabaa.Ai
open Go

/- loop.example/g01128/spec.l2Reach -/
def ords150 : List (Nat × List (Nat × Bool)) := [(11, [(0, false), (1, false), (2, false), (3, false), (4, false), (5, false), (6, false), (7, false), (8, false), (9, true)])]
def cd150 : Cd := (.seq (.reg [⟨⟨some 3, Op.box 28 (Operand.tmp 0), none⟩, []⟩,
  ⟨⟨some 6, Op.assign (Operand.const (Value.slice none 0 0)), none⟩, []⟩]) (.seq (.reg [⟨⟨some 11, Op.move (Operand.tmp 2), none⟩, []⟩,
  ⟨⟨some 12, Op.buildSlice 32 1 #[(0, (Operand.tmp 11))], none⟩, []⟩,
  ⟨⟨some 7, Op.assign (Operand.tmp 12), none⟩, []⟩]) (.seq (.seq (.reg [⟨⟨some 8, Op.assign (Operand.const (Value.int IntKind.i64 0)), none⟩, []⟩]) (.block 0 (.loop (.seq (.seq (.reg [⟨⟨some 13, Op.move (Operand.tmp 8), none⟩, []⟩,
  ⟨⟨some 14, Op.move (Operand.tmp 1), none⟩, []⟩,
  ⟨⟨some 15, Op.call { callee := (Callee.builtin Builtin.len), args := #[(Operand.tmp 14)], argTypes := #[32] }, none⟩, []⟩,
  ⟨⟨some 16, Op.binOp BinOp.lss 3 (Operand.tmp 13) (Operand.tmp 15) 3, none⟩, []⟩]) (.cond (Operand.tmp 16) .skip (.exit 0))) (.seq (.block 1 (.seq (.reg [⟨⟨some 9, Op.assign (Operand.const (Value.int IntKind.i64 0)), none⟩, []⟩]) (.block 2 (.loop (.seq (.seq (.reg [⟨⟨some 19, Op.move (Operand.tmp 9), none⟩, []⟩,
  ⟨⟨some 20, Op.move (Operand.tmp 1), none⟩, []⟩,
  ⟨⟨some 21, Op.call { callee := (Callee.builtin Builtin.len), args := #[(Operand.tmp 20)], argTypes := #[32] }, none⟩, []⟩,
  ⟨⟨some 22, Op.binOp BinOp.lss 3 (Operand.tmp 19) (Operand.tmp 21) 3, none⟩, []⟩]) (.cond (Operand.tmp 22) .skip (.exit 2))) (.seq (.block 3 (.seq (.reg [⟨⟨some 10, Op.assign (Operand.const (Value.int IntKind.i64 0)), none⟩, []⟩]) (.block 4 (.loop (.seq (.seq (.reg [⟨⟨some 25, Op.move (Operand.tmp 10), none⟩, []⟩,
  ⟨⟨some 26, Op.move (Operand.tmp 7), none⟩, []⟩,
  ⟨⟨some 27, Op.call { callee := (Callee.builtin Builtin.len), args := #[(Operand.tmp 26)], argTypes := #[32] }, none⟩, []⟩,
  ⟨⟨some 28, Op.binOp BinOp.lss 3 (Operand.tmp 25) (Operand.tmp 27) 3, none⟩, []⟩,
  ⟨⟨some 29, Op.move (Operand.tmp 28), none⟩, []⟩,
  ⟨⟨some 30, Op.move (Operand.tmp 7), some (29, true)⟩, []⟩,
  ⟨⟨some 31, Op.move (Operand.tmp 1), some (29, true)⟩, []⟩,
  ⟨⟨some 32, Op.move (Operand.tmp 9), some (29, true)⟩, []⟩,
  ⟨⟨some 33, Op.indexAddr 32 (Operand.tmp 31) (Operand.tmp 32), some (29, true)⟩, []⟩,
  ⟨⟨some 34, Op.load 3 (Operand.tmp 33), some (29, true)⟩, []⟩,
  ⟨⟨some 35, Op.call { callee := (Callee.value (Operand.func 123)), args := #[(Operand.tmp 30), (Operand.tmp 34)], argTypes := #[32, 3] }, some (29, true)⟩, []⟩,
  ⟨⟨some 36, Op.unOp UnOp.not 4 (Operand.tmp 35), some (29, true)⟩, []⟩,
  ⟨⟨some 37, Op.pick (Operand.tmp 29) (Operand.tmp 36) (Operand.const (Value.bool false)), none⟩, []⟩]) (.cond (Operand.tmp 37) .skip (.exit 4))) (.seq (.block 5 (.seq (.reg [⟨⟨some 40, Op.load 28 (Operand.tmp 3), none⟩, []⟩,
  ⟨⟨some 41, Op.move (Operand.tmp 7), none⟩, []⟩,
  ⟨⟨some 42, Op.move (Operand.tmp 10), none⟩, []⟩,
  ⟨⟨some 43, Op.indexAddr 32 (Operand.tmp 41) (Operand.tmp 42), none⟩, []⟩,
  ⟨⟨some 44, Op.load 3 (Operand.tmp 43), none⟩, []⟩,
  ⟨⟨some 45, Op.move (Operand.tmp 1), none⟩, []⟩,
  ⟨⟨some 46, Op.move (Operand.tmp 9), none⟩, []⟩,
  ⟨⟨some 47, Op.indexAddr 32 (Operand.tmp 45) (Operand.tmp 46), none⟩, []⟩,
  ⟨⟨some 48, Op.load 3 (Operand.tmp 47), none⟩, []⟩,
  ⟨⟨some 49, Op.call { callee := (Callee.value (Operand.func 75)), args := #[(Operand.tmp 40), (Operand.tmp 44), (Operand.tmp 48)], argTypes := #[28, 3, 3] }, none⟩, []⟩]) (.cond (Operand.tmp 49) (.reg [⟨⟨some 50, Op.move (Operand.tmp 7), none⟩, []⟩,
  ⟨⟨some 51, Op.move (Operand.tmp 1), none⟩, []⟩,
  ⟨⟨some 52, Op.move (Operand.tmp 9), none⟩, []⟩,
  ⟨⟨some 53, Op.indexAddr 32 (Operand.tmp 51) (Operand.tmp 52), none⟩, []⟩,
  ⟨⟨some 54, Op.load 3 (Operand.tmp 53), none⟩, []⟩,
  ⟨⟨some 55, Op.call { callee := (Callee.value (Operand.func 151)), args := #[(Operand.tmp 50), (Operand.tmp 54)], argTypes := #[32, 3] }, none⟩, []⟩,
  ⟨⟨some 7, Op.assign (Operand.tmp 55), none⟩, []⟩]) .skip))) (.reg [⟨⟨some 38, Op.move (Operand.tmp 10), none⟩, []⟩,
  ⟨⟨some 39, Op.binOp BinOp.add 3 (Operand.tmp 38) (Operand.const (Value.int IntKind.i64 1)) 3, none⟩, []⟩,
  ⟨⟨some 10, Op.assign (Operand.tmp 39), none⟩, []⟩]))))))) (.reg [⟨⟨some 23, Op.move (Operand.tmp 9), none⟩, []⟩,
  ⟨⟨some 24, Op.binOp BinOp.add 3 (Operand.tmp 23) (Operand.const (Value.int IntKind.i64 1)) 3, none⟩, []⟩,
  ⟨⟨some 9, Op.assign (Operand.tmp 24), none⟩, []⟩]))))))) (.reg [⟨⟨some 17, Op.move (Operand.tmp 8), none⟩, []⟩,
  ⟨⟨some 18, Op.binOp BinOp.add 3 (Operand.tmp 17) (Operand.const (Value.int IntKind.i64 1)) 3, none⟩, []⟩,
  ⟨⟨some 8, Op.assign (Operand.tmp 18), none⟩, []⟩])))))) (.seq (.reg [⟨⟨some 56, Op.move (Operand.tmp 7), none⟩, []⟩,
  ⟨⟨some 6, Op.assign (Operand.tmp 56), none⟩, []⟩]) .ret))))
theorem sl150 : slim Try.f150.ntmps ords150 (Try.f150.body.getD .skip) = some cd150 := by kernel_rfl
theorem in150 {args : List Value} {H : AH} {R : Value → AH → Prop} (hl : args.length = 3) (h : ∀ (Q : Exit → Sl → AH → Prop), (∀ e s H, endA Try.prog [ResultVar.tmp 6] R e s H → Q e s H) → wpC Try.prog cd150 Q (enterA args) H) : ACalls Try.prog 150 args H R :=
  ACalls.intro (by kernel_rfl) Try.func150 rfl (by kernel_rfl) sl150 hl (of_decide_eq_true (by kernel_rfl)) (by kernel_rfl) h

/- loop.example/g01128/spec.l2Pieces -/
def ords109 : List (Nat × List (Nat × Bool)) := [(6, [(0, false), (1, false), (2, false), (3, false), (4, false), (5, false), (6, true), (7, false)])]
def cd109 : Cd := (.seq (.reg [⟨⟨some 2, Op.box 28 (Operand.tmp 0), none⟩, []⟩,
  ⟨⟨some 4, Op.assign (Operand.const (Value.slice none 0 0)), none⟩, []⟩]) (.seq (.reg [⟨⟨some 10, Op.buildSlice 38 0 #[], none⟩, []⟩,
  ⟨⟨some 11, Op.buildSlice 32 0 #[], none⟩, []⟩,
  ⟨⟨some 5, Op.assign (Operand.tmp 10), none⟩, []⟩,
  ⟨⟨some 6, Op.assign (Operand.tmp 11), none⟩, []⟩]) (.seq (.seq (.reg [⟨⟨some 7, Op.assign (Operand.const (Value.int IntKind.i64 0)), none⟩, []⟩]) (.block 0 (.loop (.seq (.seq (.reg [⟨⟨some 12, Op.move (Operand.tmp 7), none⟩, []⟩,
  ⟨⟨some 13, Op.move (Operand.tmp 1), none⟩, []⟩,
  ⟨⟨some 14, Op.call { callee := (Callee.builtin Builtin.len), args := #[(Operand.tmp 13)], argTypes := #[32] }, none⟩, []⟩,
  ⟨⟨some 15, Op.binOp BinOp.lss 3 (Operand.tmp 12) (Operand.tmp 14) 3, none⟩, []⟩]) (.cond (Operand.tmp 15) .skip (.exit 0))) (.seq (.block 1 (.seq (.seq (.reg [⟨⟨some 18, Op.move (Operand.tmp 6), none⟩, []⟩,
  ⟨⟨some 19, Op.move (Operand.tmp 1), none⟩, []⟩,
  ⟨⟨some 20, Op.move (Operand.tmp 7), none⟩, []⟩,
  ⟨⟨some 21, Op.indexAddr 32 (Operand.tmp 19) (Operand.tmp 20), none⟩, []⟩,
  ⟨⟨some 22, Op.load 3 (Operand.tmp 21), none⟩, []⟩,
  ⟨⟨some 23, Op.call { callee := (Callee.value (Operand.func 123)), args := #[(Operand.tmp 18), (Operand.tmp 22)], argTypes := #[32, 3] }, none⟩, []⟩]) (.cond (Operand.tmp 23) (.exit 1) .skip)) (.seq (.reg [⟨⟨some 24, Op.load 28 (Operand.tmp 2), none⟩, []⟩,
  ⟨⟨some 25, Op.move (Operand.tmp 1), none⟩, []⟩,
  ⟨⟨some 26, Op.move (Operand.tmp 1), none⟩, []⟩,
  ⟨⟨some 27, Op.move (Operand.tmp 7), none⟩, []⟩,
  ⟨⟨some 28, Op.indexAddr 32 (Operand.tmp 26) (Operand.tmp 27), none⟩, []⟩,
  ⟨⟨some 29, Op.load 3 (Operand.tmp 28), none⟩, []⟩,
  ⟨⟨some 30, Op.call { callee := (Callee.value (Operand.func 150)), args := #[(Operand.tmp 24), (Operand.tmp 25), (Operand.tmp 29)], argTypes := #[28, 32, 3] }, none⟩, []⟩,
  ⟨⟨some 8, Op.assign (Operand.tmp 30), none⟩, []⟩]) (.seq (.seq (.reg [⟨⟨some 9, Op.assign (Operand.const (Value.int IntKind.i64 0)), none⟩, []⟩]) (.block 2 (.loop (.seq (.seq (.reg [⟨⟨some 31, Op.move (Operand.tmp 9), none⟩, []⟩,
  ⟨⟨some 32, Op.move (Operand.tmp 8), none⟩, []⟩,
  ⟨⟨some 33, Op.call { callee := (Callee.builtin Builtin.len), args := #[(Operand.tmp 32)], argTypes := #[32] }, none⟩, []⟩,
  ⟨⟨some 34, Op.binOp BinOp.lss 3 (Operand.tmp 31) (Operand.tmp 33) 3, none⟩, []⟩]) (.cond (Operand.tmp 34) .skip (.exit 2))) (.seq (.block 3 (.reg [⟨⟨some 37, Op.move (Operand.tmp 6), none⟩, []⟩,
  ⟨⟨some 38, Op.move (Operand.tmp 8), none⟩, []⟩,
  ⟨⟨some 39, Op.move (Operand.tmp 9), none⟩, []⟩,
  ⟨⟨some 40, Op.indexAddr 32 (Operand.tmp 38) (Operand.tmp 39), none⟩, []⟩,
  ⟨⟨some 41, Op.load 3 (Operand.tmp 40), none⟩, []⟩,
  ⟨⟨some 42, Op.call { callee := (Callee.value (Operand.func 151)), args := #[(Operand.tmp 37), (Operand.tmp 41)], argTypes := #[32, 3] }, none⟩, []⟩,
  ⟨⟨some 6, Op.assign (Operand.tmp 42), none⟩, []⟩])) (.reg [⟨⟨some 35, Op.move (Operand.tmp 9), none⟩, []⟩,
  ⟨⟨some 36, Op.binOp BinOp.add 3 (Operand.tmp 35) (Operand.const (Value.int IntKind.i64 1)) 3, none⟩, []⟩,
  ⟨⟨some 9, Op.assign (Operand.tmp 36), none⟩, []⟩])))))) (.reg [⟨⟨some 43, Op.move (Operand.tmp 5), none⟩, []⟩,
  ⟨⟨some 44, Op.move (Operand.tmp 8), none⟩, []⟩,
  ⟨⟨some 45, Op.buildSlice 38 1 #[(0, (Operand.tmp 44))], none⟩, []⟩,
  ⟨⟨some 46, Op.call { callee := (Callee.builtin Builtin.append), args := #[(Operand.tmp 43), (Operand.tmp 45)], argTypes := #[38, 38] }, none⟩, []⟩,
  ⟨⟨some 5, Op.assign (Operand.tmp 46), none⟩, []⟩]))))) (.reg [⟨⟨some 16, Op.move (Operand.tmp 7), none⟩, []⟩,
  ⟨⟨some 17, Op.binOp BinOp.add 3 (Operand.tmp 16) (Operand.const (Value.int IntKind.i64 1)) 3, none⟩, []⟩,
  ⟨⟨some 7, Op.assign (Operand.tmp 17), none⟩, []⟩])))))) (.seq (.reg [⟨⟨some 47, Op.move (Operand.tmp 5), none⟩, []⟩,
  ⟨⟨some 4, Op.assign (Operand.tmp 47), none⟩, []⟩]) .ret))))
theorem sl109 : slim Try.f109.ntmps ords109 (Try.f109.body.getD .skip) = some cd109 := by kernel_rfl
theorem in109 {args : List Value} {H : AH} {R : Value → AH → Prop} (hl : args.length = 2) (h : ∀ (Q : Exit → Sl → AH → Prop), (∀ e s H, endA Try.prog [ResultVar.tmp 4] R e s H → Q e s H) → wpC Try.prog cd109 Q (enterA args) H) : ACalls Try.prog 109 args H R :=
  ACalls.intro (by kernel_rfl) Try.func109 rfl (by kernel_rfl) sl109 hl (of_decide_eq_true (by kernel_rfl)) (by kernel_rfl) h
end Go.Proofs.Ythhnpchjjbjabaa.Ai

namespace Go.Proofs.Ythhnpchjjbjabaa.Ai
open Go Go.RowKit
set_option linter.unusedVariables false
set_option linter.unusedSimpArgs false

theorem bsRow {H0 : AH} {v : Value} {xs : List Int} (h : Row 3 H0 v xs) (K : AH) : buildSliceA Try.prog 38 1 [(0, v)] K = some (.slice (some ⟨K.length, 0, none⟩) 1 1, K ++ [.cells [v] 32 false]) := by
  obtain ⟨q, eq⟩ := h.shape
  rw [eq]
  exact bs1 Try.underlying38 cs32 ze32 ⟨by kernel_rfl, by kernel_rfl⟩ K rfl
/-- a set of few nodes -/
def Sm (o : List Int) : Prop := o.Pairwise (· < ·) ∧ ∀ z ∈ o, 0 ≤ z ∧ z < 8
theorem Sm.len {o : List Int} (h : Sm o) : o.length ≤ 8 := by
  have := nodup_le (a := o) (b := (List.range 8).map fun z : Nat => (z : Int)) (lt_nodup h.1) fun x hx => by
    have := h.2 x hx
    exact List.mem_map.2 ⟨x.toNat, List.mem_range.2 (by omega), by omega⟩
  simpa using this
theorem Sm.put {o : List Int} (h : Sm o) {x : Int} (hx : 0 ≤ x ∧ x < 8) : Sm (put o x) := by
  refine ⟨put_sorted _ _ h.1, fun z hz => ?_⟩
  rcases (put_mem _ _ _).1 hz with rfl | hz
  · exact hx
  · exact h.2 z hz
theorem Sm.nil : Sm [] := ⟨List.Pairwise.nil, fun z hz => by simp at hz⟩
theorem Sm.one {x : Int} (hx : 0 ≤ x ∧ x < 8) : Sm [x] := ⟨List.pairwise_singleton _ _, fun z hz => by simp at hz; subst hz; exact hx⟩
theorem Sm.rcIn {o : List Int} (h : Sm o) (es : List (Int × Int)) {y : Int} (hy : 0 ≤ y ∧ y < 8) : Sm (rcIn es o y) := by
  unfold Ai.rcIn
  split
  · exact h
  · split
    · exact h.put hy
    · exact h
theorem Sm.fold (es : List (Int × Int)) : ∀ (l : List Int) {o : List Int}, Sm o → (∀ y ∈ l, 0 ≤ y ∧ y < 8) → Sm (l.foldl (Ai.rcIn es) o)
  | [], o, h, _ => h
  | y :: ys, o, h, hl => Sm.fold es ys (h.rcIn es (hl y (by simp))) fun z hz => hl z (by simp [hz])
theorem Sm.iter (es : List (Int × Int)) (set : List Int) (hl : ∀ y ∈ set, 0 ≤ y ∧ y < 8) {x : Int} (hx : 0 ≤ x ∧ x < 8) : ∀ k, Sm (rcIter es set k [x])
  | 0 => Sm.one hx
  | k + 1 => Sm.fold es set (Sm.iter es set hl hx k) hl
theorem drop_fold {β : Type} (f : β → Int → β) (l : List Int) (i : Nat) (hi : i < l.length) (o : β) : (l.drop i).foldl f o = (l.drop (i + 1)).foldl f (f o (l.getD i 0)) := by
  have e : l.getD i 0 = l[i] := by simp [hi]
  rw [List.drop_eq_getElem_cons hi, List.foldl_cons, e]

set_option maxRecDepth 20000 in
set_option maxHeartbeats 4000000 in
theorem l2Reach_c (n : Int) (v w : Value) (es : List (Int × Int)) (set : List Int) (x : Int) (H : AH) (hr : RowP 76 H v es) (hlen : es.length ≤ 1099511627776) (hs : Row 3 H w set) (hsr : ∀ z ∈ set, 0 ≤ z ∧ z < 8) (hsl : set.length ≤ 8) (hx : 0 ≤ x ∧ x < 8) :
    ACalls Try.prog 150 [.agg (List.toArray [.int .i64 n, v]), w, .int .i64 x] H fun r H' => Own 3 H H' r (reachL es set x) ∧ H <+: H' := by
  refine in150 rfl ?_
  intro Q hQ
  simp (maxSteps := 1000000) (disch := omega) only [cd150, hr.boxG, S, S1, S2, S3, S4, S5, ST, eq_self, reduceIte, reduceCtorEq, Nat.reduceEqDiff, Nat.reduceAdd]
  generalize hA : H ++ [AObj.cells [.int .i64 n, v] 28 false] = A
  have pA : H <+: A := by rw [← hA]; exact List.prefix_append _ _
  have cA : A[H.length]? = some (.cells [.int .i64 n, v] 28 false) := by rw [← hA]; exact at_new ..
  have rA := hr.pre pA
  try simp (maxSteps := 1000000) (disch := omega) only [S, S1, S2, S3, S4, S5, ST, eq_self, reduceIte, reduceCtorEq, Nat.reduceEqDiff, Nat.reduceAdd]
  refine LoopH.by (fun m s H' => ∃ i, m + i = set.length ∧ s 1 = w ∧ s 3 = .pointer (some ⟨H.length, 0, none⟩) ∧ s 8 = .int .i64 ((i : Nat) : Int) ∧ Own 3 A H' (s 7) (rcIter es set i [x]) ∧ A <+: H') set.length ?_ ?_
  · exact ⟨0, by simp, rfl, rfl, rfl, .inr ⟨A.length, rfl, Nat.le_refl _, at_new ..⟩, List.prefix_append _ _⟩
  rintro m s H' ⟨i, hm, h1, h3, h8, ho, hp⟩
  have hss := hs.pre (pA.trans hp)
  have hiter : rcIter es set (i + 1) [x] = set.foldl (rcIn es) (rcIter es set i [x]) := rfl
  have hsm := Sm.iter es set hsr hx i
  have hend : i = set.length → rcIter es set i [x] = reachL es set x := fun e => by rw [e]; rfl
  generalize hw : s 7 = u at *
  generalize hR : rcIter es set i [x] = R at *
  simp (maxSteps := 1000000) (disch := omega) only [h1, h3, h8, hw, hss.len Try.underlying32, S, S1, S2, S3, S4, S5, ST, eq_self, reduceIte, reduceCtorEq, Nat.reduceEqDiff, Nat.reduceAdd]
  refine brD.intro (fun g => ?_) (fun g => ?_)
  rotate_left
  · simp (maxSteps := 1000000) (disch := omega) only [hw, S, S1, S2, S3, S4, S5, ST, eq_self, reduceIte, reduceCtorEq, Nat.reduceEqDiff, Nat.reduceAdd]
    refine hQ _ _ _ ?_
    simp (maxSteps := 1000000) (disch := omega) only [hw, ho.row.tup, S, S1, S2, S3, S4, S5, ST, eq_self, reduceIte, reduceCtorEq, Nat.reduceEqDiff, Nat.reduceAdd]
    rw [← hend (by omega)]
    exact ⟨ho.base pA, pA.trans hp⟩
  simp (maxSteps := 1000000) (disch := omega) only [h1, h3, h8, hw, S, S1, S2, S3, S4, S5, ST, eq_self, reduceIte, reduceCtorEq, Nat.reduceEqDiff, Nat.reduceAdd]
  refine LoopH.by (fun m2 s H2 => ∃ j R2, m2 + j = set.length ∧ s 1 = w ∧ s 3 = .pointer (some ⟨H.length, 0, none⟩) ∧ s 8 = .int .i64 ((i : Nat) : Int) ∧ s 9 = .int .i64 ((j : Nat) : Int) ∧ Own 3 A H2 (s 7) R2 ∧ A <+: H2 ∧ Sm R2 ∧ (set.drop j).foldl (rcIn es) R2 = set.foldl (rcIn es) R) set.length ?_ ?_
  · refine ⟨0, R, by simp, h1, h3, h8, rfl, ?_, hp, hsm, by rw [List.drop_zero]⟩
    simp only [S, S1, S2, S3, S4, S5, ST, eq_self, reduceIte, reduceCtorEq, Nat.reduceEqDiff, Nat.reduceAdd, hw]
    exact ho
  rintro m2 s H2 ⟨j, R2, hm2, h1, h3, h8, h9, ho2, hp2, hsm2, hf⟩
  have hss2 := hs.pre (pA.trans hp2)
  generalize hw : s 7 = u2 at *
  simp (maxSteps := 1000000) (disch := omega) only [h1, h3, h8, h9, hw, hss2.len Try.underlying32, S, S1, S2, S3, S4, S5, ST, eq_self, reduceIte, reduceCtorEq, Nat.reduceEqDiff, Nat.reduceAdd]
  refine brD.intro (fun g2 => ?_) (fun g2 => ?_)
  rotate_left
  · simp (maxSteps := 1000000) (disch := omega) only [h1, h3, h8, h9, hw, wrap64, S, S1, S2, S3, S4, S5, ST, eq_self, reduceIte, reduceCtorEq, Nat.reduceEqDiff, Nat.reduceAdd]
    rw [List.drop_of_length_le (by omega), List.foldl_nil, ← hiter] at hf
    refine ⟨m - 1, by omega, i + 1, ?_⟩
    rw [← hf]
    (repeat' first | exact ho2 | exact hp2 | apply And.intro) <;> first | (simp only [Value.int.injEq, true_and]; omega) | omega | rfl | assumption | (simp; done) | (simp; omega)
  have hj : j < set.length := by omega
  rw [drop_fold _ set j hj] at hf
  have hym : set.getD j 0 ∈ set := by simp [hj]
  have hyr := hsr _ hym
  generalize hy : set.getD j 0 = y at *
  simp (maxSteps := 1000000) (disch := omega) only [h1, h3, h8, h9, hw, S, S1, S2, S3, S4, S5, ST, eq_self, reduceIte, reduceCtorEq, Nat.reduceEqDiff, Nat.reduceAdd]
  refine LoopH.by (fun m3 s H3 => ∃ k R3, m3 + k = 9 ∧ s 1 = w ∧ s 3 = .pointer (some ⟨H.length, 0, none⟩) ∧ s 8 = .int .i64 ((i : Nat) : Int) ∧ s 9 = .int .i64 ((j : Nat) : Int) ∧ s 10 = .int .i64 ((k : Nat) : Int) ∧ Own 3 A H3 (s 7) R3 ∧ A <+: H3 ∧ Sm R3 ∧ rcIn es R3 y = rcIn es R2 y ∧ (y ∉ R3 → ∀ l, l < k → l < R3.length → nearB es (R3.getD l 0) y = false)) 9 ?_ ?_
  · refine ⟨0, R2, by omega, h1, h3, h8, h9, rfl, ?_, hp2, hsm2, rfl, fun _ l hl => absurd hl (Nat.not_lt_zero l)⟩
    simp only [S, S1, S2, S3, S4, S5, ST, eq_self, reduceIte, reduceCtorEq, Nat.reduceEqDiff, Nat.reduceAdd, hw]
    exact ho2
  rintro m3 s H3 ⟨k, R3, hm3, h1, h3, h8, h9, h10, ho3, hp3, hsm3, hq, hno⟩
  have hss3 := hs.pre (pA.trans hp3)
  have hl3 := hsm3.len
  have hr3 := rA.pre hp3
  have c3 := pre_at hp3 cA
  generalize hw : s 7 = u3 at *
  have stay : ∀ (H4 : AH), A <+: H4 → Own 3 A H4 u3 R3 → (y ∈ R3 ∨ k ≥ R3.length) → rcIn es R2 y = R3 := by
    intro H4 _ _ hc
    rw [← hq]
    unfold rcIn
    split
    · rfl
    · rename_i hm
      rw [if_neg]
      intro e
      obtain ⟨o, hoo, hn⟩ := List.any_eq_true.1 e
      obtain ⟨l, hl, rfl⟩ := List.mem_iff_getElem.1 hoo
      have h5 := hno hm l (by rcases hc with h | h <;> first | exact absurd h hm | omega) hl
      have e5 : R3.getD l 0 = R3[l] := by simp [hl]
      rw [e5, hn] at h5
      exact absurd h5 (by decide)
  simp (maxSteps := 1000000) (disch := omega) only [h1, h3, h8, h9, h10, hw, ho3.row.len Try.underlying32, S, S1, S2, S3, S4, S5, ST, eq_self, reduceIte, reduceCtorEq, Nat.reduceEqDiff, Nat.reduceAdd]
  refine brD.intro (fun g3 => ?_) (fun g3 => ?_)
  rotate_left
  · simp (maxSteps := 1000000) (disch := omega) only [g3, h1, h3, h8, h9, h10, hw, wrap64, S, S1, S2, S3, S4, S5, ST, eq_self, reduceIte, reduceCtorEq, Nat.reduceEqDiff, Nat.reduceAdd]
    rw [stay H3 hp3 ho3 (.inr (by omega))] at hf
    refine ⟨m2 - 1, by omega, j + 1, R3, ?_⟩
    (repeat' first | exact ho3 | exact hp3 | exact hsm3 | exact hf | apply And.intro) <;> first | (simp only [Value.int.injEq, true_and]; omega) | omega | rfl | assumption | (simp; done) | (simp; omega)
  have hk : k < R3.length := by omega
  have hcy := hss3.cell hj
  rw [hy] at hcy
  simp (maxSteps := 1000000) (disch := omega) only [g3, h1, h3, h8, h9, h10, hw, hss3.ix Try.underlying32 cs3, hcy, Int.toNat_natCast, S, S1, S2, S3, S4, S5, ST, eq_self, reduceIte, reduceCtorEq, Nat.reduceEqDiff, Nat.reduceAdd]
  refine CallH.by (l1Has_c u3 R3 y H3 ho3.row (by omega)) ?_
  rintro _ _ ⟨rfl, rfl⟩
  simp (maxSteps := 1000000) (disch := omega) only [g3, S, S1, S2, S3, S4, S5, ST, eq_self, reduceIte, reduceCtorEq, Nat.reduceEqDiff, Nat.reduceAdd]
  refine brD.intro (fun g4 => ?_) (fun g4 => ?_)
  · simp (maxSteps := 1000000) (disch := omega) only [h1, h3, h8, h9, h10, hw, wrap64, S, S1, S2, S3, S4, S5, ST, eq_self, reduceIte, reduceCtorEq, Nat.reduceEqDiff, Nat.reduceAdd]
    rw [stay H3 hp3 ho3 (.inl g4)] at hf
    refine ⟨m2 - 1, by omega, j + 1, R3, ?_⟩
    (repeat' first | exact ho3 | exact hp3 | exact hsm3 | exact hf | apply And.intro) <;> first | (simp only [Value.int.injEq, true_and]; omega) | omega | rfl | assumption | (simp; done) | (simp; omega)
  simp (maxSteps := 1000000) (disch := omega) only [h1, h3, h8, h9, h10, hw, hss3.ix Try.underlying32 cs3, hcy, ho3.row.ix Try.underlying32 cs3, ho3.row.cell, Int.toNat_natCast, ld_agg ag28 cs28 c3, S, S1, S2, S3, S4, S5, ST, eq_self, reduceIte, reduceCtorEq, Nat.reduceEqDiff, Nat.reduceAdd]
  refine CallH.by (l2Near_c n v es _ y H3 hr3 hlen) ?_
  rintro _ H4 ⟨rfl, p4⟩
  have hss4 := hss3.pre p4
  have ho4 := ho3.pre p4
  have hp4 := hp3.trans p4
  have hcy4 := hss4.cell hj
  rw [hy] at hcy4
  simp (maxSteps := 1000000) (disch := omega) only [S, S1, S2, S3, S4, S5, ST, eq_self, reduceIte, reduceCtorEq, Nat.reduceEqDiff, Nat.reduceAdd]
  refine brH.intro (fun e => ?_) (fun e => ?_)
  · simp (maxSteps := 1000000) (disch := omega) only [e, h1, h3, h8, h9, h10, hw, hss4.ix Try.underlying32 cs3, hcy4, Int.toNat_natCast, S, S1, S2, S3, S4, S5, ST, eq_self, reduceIte, reduceCtorEq, Nat.reduceEqDiff, Nat.reduceAdd]
    refine CallH.by (l1Put_c u3 R3 y H4 ho4.row (by omega) g4) ?_
    rintro u5 H5 ⟨ho5, p5⟩
    have ho5' := ho5.base hp4
    have hp5 := hp4.trans p5
    have hsm5 := hsm3.put hyr
    have hmp : y ∈ put R3 y := (put_mem _ _ _).2 (.inl rfl)
    have hq5 : rcIn es (put R3 y) y = rcIn es R2 y := by
      rw [← hq]
      have e1 : rcIn es R3 y = put R3 y := by
        unfold rcIn
        rw [if_neg g4, if_pos]
        refine List.any_eq_true.2 ⟨R3.getD k 0, by simp [hk], e⟩
      rw [e1]
      unfold rcIn
      rw [if_pos hmp]
    have hno5 : y ∉ put R3 y → ∀ l, l < k + 1 → l < (put R3 y).length → nearB es ((put R3 y).getD l 0) y = false := fun h => absurd hmp h
    simp (maxSteps := 1000000) (disch := omega) only [h1, h3, h8, h9, h10, wrap64, S, S1, S2, S3, S4, S5, ST, eq_self, reduceIte, reduceCtorEq, Nat.reduceEqDiff, Nat.reduceAdd]
    refine ⟨m3 - 1, by omega, k + 1, put R3 y, ?_⟩
    (repeat' first | exact ho5' | exact hp5 | exact hsm5 | exact hq5 | exact hno5 | apply And.intro) <;> first | (simp only [Value.int.injEq, true_and]; omega) | omega | rfl | assumption | (simp; done) | (simp; omega)
  · have hno5 : y ∉ R3 → ∀ l, l < k + 1 → l < R3.length → nearB es (R3.getD l 0) y = false := by
      intro h l hl1 hl2
      by_cases el : l = k
      · subst el; exact e
      · exact hno h l (by omega) hl2
    simp (maxSteps := 1000000) (disch := omega) only [e, h1, h3, h8, h9, h10, hw, wrap64, S, S1, S2, S3, S4, S5, ST, eq_self, reduceIte, reduceCtorEq, Nat.reduceEqDiff, Nat.reduceAdd]
    refine ⟨m3 - 1, by omega, k + 1, R3, ?_⟩
    (repeat' first | exact ho4 | exact hp4 | exact hsm3 | exact hq | exact hno5 | apply And.intro) <;> first | (simp only [Value.int.injEq, true_and]; omega) | omega | rfl | assumption | (simp; done) | (simp; omega)

set_option maxRecDepth 20000 in
set_option maxHeartbeats 2000000 in
theorem l1PutW_c (v : Value) (l : List Int) (x : Int) (H : AH) (hr : Row 3 H v l) (hlen : l.length ≤ 1000000) (hso : l.Pairwise (· < ·)) :
    ACalls Try.prog 151 [v, .int .i64 x] H fun r H' => ((r = v ∧ put l x = l) ∨ Own 3 H H' r (put l x)) ∧ H <+: H' := by
  by_cases hx : x ∈ l
  rotate_left
  · exact (l1Put_c v l x H hr hlen hx).mono fun r H' h => ⟨.inr h.1, h.2⟩
  · refine in151 rfl ?_
    intro Q hQ
    obtain ⟨q, hq, hqe⟩ := List.mem_iff_getElem.1 hx
    have hqd : l.getD q 0 = x := by simp [hq, hqe]
    have hpt : put l x = l := by
      have hlt : ∀ j, j < q → l.getD j 0 < x := fun j hj => by
        have := List.pairwise_iff_getElem.1 hso j q (by omega) hq hj
        have e : l.getD j 0 = l[j] := by simp [show j < l.length by omega]
        rw [e]; omega
      rw [putAt_eq0 l x q (by omega) hlt (fun _ => by omega), if_pos ⟨hq, hqd⟩]
    simp (maxSteps := 1000000) (disch := omega) only [cd151, S, S1, S2, S3, S4, S5, ST, eq_self, reduceIte, reduceCtorEq, Nat.reduceEqDiff, Nat.reduceAdd]
    refine LoopH.by (fun m s H' => ∃ i, m + i = l.length ∧ s 0 = v ∧ s 1 = .int .i64 x ∧ s 5 = .int .i64 ((i : Nat) : Int) ∧ H = H' ∧ i ≤ q) l.length ?_ ?_
    · exact ⟨0, by simp, rfl, rfl, rfl, rfl, by omega⟩
    · rintro m s H' ⟨i, hm, h0, h1, h5, rfl, hiq⟩
      have hi : i < l.length := by omega
      have hle : l.getD i 0 ≤ x ∧ (i < q → l.getD i 0 < x) := by
        have e : l.getD i 0 = l[i] := by simp [hi]
        rw [e]
        by_cases e2 : i = q
        · subst e2; exact ⟨by omega, fun h => absurd h (by omega)⟩
        · have := List.pairwise_iff_getElem.1 hso i q hi hq (by omega)
          exact ⟨by omega, fun _ => by omega⟩
      simp (maxSteps := 1000000) (disch := omega) only [h0, h1, h5, hr.len Try.underlying32, S, S1, S2, S3, S4, S5, ST, eq_self, reduceIte, reduceCtorEq, Nat.reduceEqDiff, Nat.reduceAdd]
      refine brD.intro (fun g => ?_) (fun g => absurd (show (i : Int) < l.length by omega) g)
      simp (maxSteps := 1000000) (disch := omega) only [g, h0, h1, h5, hr.ix Try.underlying32 cs3, hr.cell, Int.toNat_natCast, S, S1, S2, S3, S4, S5, ST, eq_self, reduceIte, reduceCtorEq, Nat.reduceEqDiff, Nat.reduceAdd]
      refine brD.intro (fun e => ?_) (fun e => ?_)
      · simp (maxSteps := 1000000) (disch := omega) only [h0, h1, h5, wrap64, S, S1, S2, S3, S4, S5, ST, eq_self, reduceIte, reduceCtorEq, Nat.reduceEqDiff, Nat.reduceAdd]
        have fx : i + 1 ≤ q := by
          by_cases e2 : i = q
          · subst e2; omega
          · omega
        refine ⟨m - 1, by omega, i + 1, ?_⟩
        (repeat' apply And.intro) <;> first | exact fx | (simp only [Value.int.injEq, true_and]; omega) | omega | rfl | assumption | (simp; done) | (simp; omega)
      · have hee : l.getD i 0 = x := by
          by_cases e2 : i = q
          · subst e2; exact hqd
          · exact absurd (hle.2 (by omega)) e
        simp (maxSteps := 1000000) (disch := omega) only [g, h0, h1, h5, hr.len Try.underlying32, hr.ix Try.underlying32 cs3, hr.cell, Int.toNat_natCast, S, S1, S2, S3, S4, S5, ST, eq_self, reduceIte, reduceCtorEq, Nat.reduceEqDiff, Nat.reduceAdd]
        refine brD.intro (fun h => ?_) (fun h => absurd hee h)
        simp (maxSteps := 1000000) (disch := omega) only [h0, S, S1, S2, S3, S4, S5, ST, eq_self, reduceIte, reduceCtorEq, Nat.reduceEqDiff, Nat.reduceAdd]
        refine hQ _ _ _ ?_
        simp (maxSteps := 1000000) (disch := omega) only [h0, hr.tup, S, S1, S2, S3, S4, S5, ST, eq_self, reduceIte, reduceCtorEq, Nat.reduceEqDiff, Nat.reduceAdd]
        exact ⟨.inl hpt, List.prefix_refl _⟩

theorem puts_srt : ∀ (l s : List Int), s.Pairwise (· < ·) → (l.foldl put s).Pairwise (· < ·)
  | [], s, h => h
  | y :: ys, s, h => puts_srt ys _ (put_sorted _ _ h)
theorem Sm.puts : ∀ (l : List Int) {s : List Int}, Sm s → (∀ y ∈ l, 0 ≤ y ∧ y < 8) → Sm (l.foldl Ai.put s)
  | [], s, h, _ => h
  | y :: ys, s, h, hl => Sm.puts ys (h.put (hl y (by simp))) fun z hz => hl z (by simp [hz])
theorem Sm.reach {es : List (Int × Int)} {set : List Int} (hl : ∀ y ∈ set, 0 ≤ y ∧ y < 8) {x : Int} (hx : 0 ≤ x ∧ x < 8) : Sm (reachL es set x) := Sm.iter es set hl hx _
theorem pcK_Sm (es : List (Int × Int)) (set : List Int) (hl : ∀ y ∈ set, 0 ≤ y ∧ y < 8) : ∀ (l : List Int) (st : List (List Int) × List Int), (∀ y ∈ l, 0 ≤ y ∧ y < 8) → Sm st.2 → Sm (l.foldl (pcS es set) st).2 ∧ (l.foldl (pcS es set) st).1.length ≤ st.1.length + l.length
  | [], st, _, h => ⟨h, by simp⟩
  | y :: ys, st, hy, h => by
    rw [List.foldl_cons]
    have h1 : Sm (pcS es set st y).2 ∧ (pcS es set st y).1.length ≤ st.1.length + 1 := by
      unfold pcS
      split
      · exact ⟨h, by omega⟩
      · exact ⟨h.puts _ fun z hz => (Sm.reach hl (hy y (by simp))).2 z hz, by simp⟩
    obtain ⟨i1, i2⟩ := pcK_Sm es set hl ys _ (fun z hz => hy z (by simp [hz])) h1.1
    exact ⟨i1, by simp only [List.length_cons]; omega⟩

set_option maxRecDepth 20000 in
set_option maxHeartbeats 4000000 in
theorem l2Pieces_c (n : Int) (v w : Value) (es : List (Int × Int)) (set : List Int) (H : AH) (hr : RowP 76 H v es) (hlen : es.length ≤ 1099511627776) (hs : Row 3 H w set) (hsr : ∀ z ∈ set, 0 ≤ z ∧ z < 8) (hsl : set.length ≤ 8) :
    ACalls Try.prog 109 [.agg (List.toArray [.int .i64 n, v]), w] H fun r H' => InL H.length H'.length 32 3 H' r (piecesL es set) ∧ H <+: H' := by
  refine in109 rfl ?_
  intro Q hQ
  simp (maxSteps := 1000000) (disch := omega) only [cd109, hr.boxG, S, S1, S2, S3, S4, S5, ST, eq_self, reduceIte, reduceCtorEq, Nat.reduceEqDiff, Nat.reduceAdd]
  generalize hA : H ++ [AObj.cells [.int .i64 n, v] 28 false] = A
  have pA : H <+: A := by rw [← hA]; exact List.prefix_append _ _
  have cA : A[H.length]? = some (.cells [.int .i64 n, v] 28 false) := by rw [← hA]; exact at_new ..
  have rA := hr.pre pA
  try simp (maxSteps := 1000000) (disch := omega) only [S, S1, S2, S3, S4, S5, ST, eq_self, reduceIte, reduceCtorEq, Nat.reduceEqDiff, Nat.reduceAdd]
  have lA : A.length = H.length + 1 := by rw [← hA]; simp
  generalize hB : A ++ [AObj.cells [] 32 false] = B
  have pB : A <+: B := by rw [← hB]; exact List.prefix_append _ _
  have cB : B[A.length]? = some (.cells [] 32 false) := by rw [← hB]; exact at_new ..
  have lB : B.length = A.length + 1 := by rw [← hB]; simp
  have uB : InU H.length B.length 32 3 B A.length [] [] := ⟨by omega, by omega, cB, Nat.le_refl _, fun i hi => absurd hi (by simp), fun i j _ hi _ => absurd hi (by simp)⟩
  refine LoopH.by (fun m s H' => ∃ i st oo vs q, m + i = set.length ∧ s 1 = w ∧ s 2 = .pointer (some ⟨H.length, 0, none⟩) ∧ s 7 = .int .i64 ((i : Nat) : Int) ∧ s 5 = .slice (some ⟨oo, 0, none⟩) st.1.length st.1.length ∧ s 6 = .slice (some ⟨q, 0, none⟩) st.2.length st.2.length ∧ (set.drop i).foldl (pcS es set) st = pcK es set set ∧ InU H.length H'.length 32 3 H' oo vs st.1 ∧ H'[q]? = some (.cells (ints st.2) 3 false) ∧ q ≠ oo ∧ A.length ≤ oo ∧ A.length ≤ q ∧ A <+: H' ∧ Sm st.2 ∧ st.1.length ≤ i) set.length ?_ ?_
  · refine ⟨0, ([], []), A.length, [], B.length, by simp, ?_⟩
    simp only [S, S1, S2, S3, S4, S5, ST, eq_self, reduceIte, reduceCtorEq, Nat.reduceEqDiff, Nat.reduceAdd]
    have q1 := uB.pre (List.prefix_append B [AObj.cells [] 3 false])
    have q1' := q1.wide (Nat.le_refl _) (show B.length ≤ (B ++ [AObj.cells [] 3 false]).length by simp)
    have q2 : (B ++ [AObj.cells [] 3 false])[B.length]? = some (.cells (ints []) 3 false) := at_new ..
    have q3 := pre_app pB [AObj.cells [] 3 false]
    have q4 : (set.drop 0).foldl (pcS es set) ([], []) = pcK es set set := by rw [List.drop_zero]; rfl
    have q5 := Sm.nil
    (repeat' first | exact q1' | exact q2 | exact q3 | exact q4 | exact q5 | apply And.intro) <;> first | (simp only [Value.int.injEq, true_and]; omega) | omega | rfl | assumption | (simp; done) | (simp; omega)
  rintro m s H' ⟨i, st, oo, vs, q, hm, h1, h2, h7, h5, h6, hf, hu, hq, hqo, hAo, hAq, hp, hsm, hcn⟩
  have hss := hs.pre (pA.trans hp)
  have hsl6 := hsm.len
  have hlt := hp.length_le
  have hrq : Row 3 H' (.slice (some ⟨q, 0, none⟩) st.2.length st.2.length) st.2 := .inr ⟨q, 0, ints st.2, false, rfl, hq, by rw [ints_len]; omega, by rw [List.drop_zero, ← ints_len, List.take_length]⟩
  simp (maxSteps := 1000000) (disch := omega) only [h1, h2, h7, h5, h6, hss.len Try.underlying32, S, S1, S2, S3, S4, S5, ST, eq_self, reduceIte, reduceCtorEq, Nat.reduceEqDiff, Nat.reduceAdd]
  refine brD.intro (fun g => ?_) (fun g => ?_)
  rotate_left
  · simp (maxSteps := 1000000) (disch := omega) only [h5, S, S1, S2, S3, S4, S5, ST, eq_self, reduceIte, reduceCtorEq, Nat.reduceEqDiff, Nat.reduceAdd]
    refine hQ _ _ _ ?_
    simp (maxSteps := 1000000) (disch := omega) only [h5, S, S1, S2, S3, S4, S5, ST, eq_self, reduceIte, reduceCtorEq, Nat.reduceEqDiff, Nat.reduceAdd]
    rw [List.drop_of_length_le (by omega), List.foldl_nil] at hf
    have hP : piecesL es set = st.1 := by unfold piecesL; rw [← hf]
    rw [hP]
    exact ⟨hu.inl, pA.trans hp⟩
  have hi : i < set.length := by omega
  rw [drop_fold _ set i hi] at hf
  have hym : set.getD i 0 ∈ set := by simp [hi]
  have hyr := hsr _ hym
  have hcy := hss.cell hi
  generalize hy : set.getD i 0 = y at *
  simp (maxSteps := 1000000) (disch := omega) only [h1, h2, h7, h5, h6, hss.ix Try.underlying32 cs3, hcy, Int.toNat_natCast, S, S1, S2, S3, S4, S5, ST, eq_self, reduceIte, reduceCtorEq, Nat.reduceEqDiff, Nat.reduceAdd]
  refine CallH.by (l1Has_c _ st.2 y H' hrq (by omega)) ?_
  rintro _ _ ⟨rfl, rfl⟩
  simp (maxSteps := 1000000) (disch := omega) only [S, S1, S2, S3, S4, S5, ST, eq_self, reduceIte, reduceCtorEq, Nat.reduceEqDiff, Nat.reduceAdd]
  refine brD.intro (fun e => ?_) (fun e => ?_)
  · have hst : pcS es set st y = st := by unfold pcS; rw [if_pos e]
    rw [hst] at hf
    simp (maxSteps := 1000000) (disch := omega) only [h1, h2, h7, h5, h6, wrap64, S, S1, S2, S3, S4, S5, ST, eq_self, reduceIte, reduceCtorEq, Nat.reduceEqDiff, Nat.reduceAdd]
    refine ⟨m - 1, by omega, i + 1, st, oo, vs, q, ?_⟩
    (repeat' first | exact hf | exact hu | exact hq | exact hp | exact hsm | apply And.intro) <;> first | (simp only [Value.int.injEq, true_and]; omega) | omega | rfl | assumption | (simp; done) | (simp; omega)
  have hst : pcS es set st y = (st.1 ++ [reachL es set y], (reachL es set y).foldl put st.2) := by unfold pcS; rw [if_neg e]
  rw [hst] at hf
  have c3 := pre_at hp cA
  simp (maxSteps := 1000000) (disch := omega) only [h1, h2, h7, h5, h6, hss.ix Try.underlying32 cs3, hcy, Int.toNat_natCast, ld_agg ag28 cs28 c3, S, S1, S2, S3, S4, S5, ST, eq_self, reduceIte, reduceCtorEq, Nat.reduceEqDiff, Nat.reduceAdd]
  refine CallH.by (l2Reach_c n v w es set y H' (rA.pre hp) hlen hss hsr hsl hyr) ?_
  rintro pv H2 ⟨ho2, p2⟩
  have hpm := ho2.mine
  have hrs := Sm.reach (es := es) hsr hyr
  have hrl := hrs.len
  generalize hR : reachL es set y = R at *
  simp (maxSteps := 1000000) (disch := omega) only [h1, h2, h7, h5, h6, S, S1, S2, S3, S4, S5, ST, eq_self, reduceIte, reduceCtorEq, Nat.reduceEqDiff, Nat.reduceAdd]
  have hu2 := hu.pre p2
  have hl2 := p2.length_le
  refine LoopH.by (fun m2 s H3 => ∃ k sn q', m2 + k = R.length ∧ s 1 = w ∧ s 2 = .pointer (some ⟨H.length, 0, none⟩) ∧ s 7 = .int .i64 ((i : Nat) : Int) ∧ s 5 = .slice (some ⟨oo, 0, none⟩) st.1.length st.1.length ∧ s 6 = .slice (some ⟨q', 0, none⟩) sn.length sn.length ∧ s 8 = pv ∧ s 9 = .int .i64 ((k : Nat) : Int) ∧ H3[q']? = some (.cells (ints sn) 3 false) ∧ q' ≠ oo ∧ A.length ≤ q' ∧ H2 <+: H3 ∧ Sm sn ∧ (R.drop k).foldl put sn = R.foldl put st.2) R.length ?_ ?_
  · refine ⟨0, st.2, q, by simp, ?_⟩
    simp only [S, S1, S2, S3, S4, S5, ST, eq_self, reduceIte, reduceCtorEq, Nat.reduceEqDiff, Nat.reduceAdd, h1, h2, h7, h5, h6]
    have q2 := pre_at p2 hq
    have q3 := List.prefix_refl H2
    have q4 : (R.drop 0).foldl put st.2 = R.foldl put st.2 := by rw [List.drop_zero]
    (repeat' first | exact q2 | exact q3 | exact q4 | exact hsm | apply And.intro) <;> first | (simp only [Value.int.injEq, true_and]; omega) | omega | rfl | assumption | (simp; done) | (simp; omega)
  rintro m2 s H3 ⟨k, sn, q', hm2, h1, h2, h7, h5, h6, h8, h9, hq', hqo', hAq', hp3, hsn, hfo⟩
  have hpr := ho2.row.pre hp3
  have hsnl := hsn.len
  have hrq' : Row 3 H3 (.slice (some ⟨q', 0, none⟩) sn.length sn.length) sn := .inr ⟨q', 0, ints sn, false, rfl, hq', by rw [ints_len]; omega, by rw [List.drop_zero, ← ints_len, List.take_length]⟩
  have hl3 := hp3.length_le
  simp (maxSteps := 1000000) (disch := omega) only [h1, h2, h7, h5, h6, h8, h9, hpr.len Try.underlying32, S, S1, S2, S3, S4, S5, ST, eq_self, reduceIte, reduceCtorEq, Nat.reduceEqDiff, Nat.reduceAdd]
  refine brD.intro (fun g2 => ?_) (fun g2 => ?_)
  · have hk : k < R.length := by omega
    rw [drop_fold _ R k hk] at hfo
    have hzm : R.getD k 0 ∈ R := by simp [hk]
    have hzr := hrs.2 _ hzm
    have hcz := hpr.cell hk
    generalize hz : R.getD k 0 = z at *
    simp (maxSteps := 1000000) (disch := omega) only [h1, h2, h7, h5, h6, h8, h9, hpr.ix Try.underlying32 cs3, hcz, Int.toNat_natCast, S, S1, S2, S3, S4, S5, ST, eq_self, reduceIte, reduceCtorEq, Nat.reduceEqDiff, Nat.reduceAdd]
    refine CallH.by (l1PutW_c _ sn z H3 hrq' (by omega) hsn.1) ?_
    rintro r4 H4 ⟨hr4, p4⟩
    have hsn4 := hsn.put hzr
    have hp4 := hp3.trans p4
    have hq4 : ∃ q4, r4 = .slice (some ⟨q4, 0, none⟩) (put sn z).length (put sn z).length ∧ H4[q4]? = some (.cells (ints (put sn z)) 3 false) ∧ q4 ≠ oo ∧ A.length ≤ q4 := by
      rcases hr4 with ⟨rfl, e4⟩ | (⟨_, e4⟩ | ⟨q4, e4, g4, c4⟩)
      · rw [e4]
        exact ⟨q', rfl, pre_at p4 hq', hqo', hAq'⟩
      · have : z ∈ put sn z := (put_mem _ _ _).2 (.inl rfl)
        rw [e4] at this; simp at this
      · have := hu.2.1
        exact ⟨q4, e4, c4, by omega, by omega⟩
    obtain ⟨q4, rfl, c4, n4, l4⟩ := hq4
    simp (maxSteps := 1000000) (disch := omega) only [h1, h2, h7, h5, h6, h8, h9, wrap64, S, S1, S2, S3, S4, S5, ST, eq_self, reduceIte, reduceCtorEq, Nat.reduceEqDiff, Nat.reduceAdd]
    refine ⟨m2 - 1, by omega, k + 1, put sn z, q4, ?_⟩
    (repeat' first | exact c4 | exact hp4 | exact hsn4 | exact hfo | apply And.intro) <;> first | (simp only [Value.int.injEq, true_and]; omega) | omega | rfl | assumption | (simp; done) | (simp; omega)
  · rw [List.drop_of_length_le (by omega), List.foldl_nil] at hfo
    rw [← hfo] at hf
    have hu3 := hu2.pre hp3
    have hw3 : InI H'.length H3.length 3 H3 pv R := (InI.of (hpm.pre hp3)).wide (Nat.le_refl _) (Nat.le_refl _)
    have hHA := pA.length_le
    obtain ⟨K2, k1, k2, k3, k4⟩ := hu3.app1 (P := Try.prog) (t2 := 38) Try.underlying38 cs32 (by rw [by32]; decide) zk32 hw3 (by omega) (by omega) (Nat.le_refl _) (by omega)
    simp (maxSteps := 1000000) (disch := omega) only [h1, h2, h7, h5, h6, h8, h9, bsRow hpr H3, k1, wrap64, S, S1, S2, S3, S4, S5, ST, eq_self, reduceIte, reduceCtorEq, Nat.reduceEqDiff, Nat.reduceAdd]
    have g1 : (st.1 ++ [R]).length = st.1.length + 1 := by simp
    have c1 : InU H.length K2.length 32 3 K2 (H3.length + 1) (vs.take st.1.length ++ [pv]) (st.1 ++ [R]) := by rw [k3]; exact k2
    have c2 : K2[q']? = some (.cells (ints sn) 3 false) := k4 _ _ hqo' hq'
    have c5 : A <+: K2 := prefix_of fun o z hz => k4 o z (by have := at_lt hz; omega) (pre_at (hp.trans (p2.trans hp3)) hz)
    have n1 : q' ≠ H3.length + 1 := by have := at_lt hq'; omega
    have n2 : A.length ≤ H3.length + 1 := by omega
    refine ⟨m - 1, by omega, i + 1, (st.1 ++ [R], sn), H3.length + 1, vs.take st.1.length ++ [pv], q', ?_⟩
    simp only [g1]
    (repeat' first | exact hf | exact c1 | exact c2 | exact c5 | exact n1 | exact n2 | exact hsn | apply And.intro) <;> first | (simp only [Value.int.injEq, true_and]; omega) | omega | rfl | assumption | (simp; done) | (simp; omega)
end Go.Proofs.Ythhnpchjjbjabaa.Ai
