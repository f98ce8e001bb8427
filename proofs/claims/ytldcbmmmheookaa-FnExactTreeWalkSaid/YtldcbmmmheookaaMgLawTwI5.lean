/- Texts of this claim, joined: Reach, TrS, Index, Wout, Two, Cir, TreW, Cut, EqI, TwS, Tri2, Tri3, At, Fan, TwI, MarkL. -/
import Derived.Test.YtldcbmmmheookaaProg
import Derived.KernelRfl
import Derived.Test.YtldcbmmmheookaaMgLawTwI4
namespace Go.Proofs.Ytldcbmmmheookaa.Ai
open Go
def ords124 : List (Nat × List (Nat × Bool)) := [(11, [(0, false), (1, false), (2, false), (3, false), (4, false), (5, false), (6, false), (7, false), (8, false), (9, true)])]
def cd124 : Cd := (.seq (.reg [⟨⟨some 3, Op.box 26 (Operand.tmp 0), none⟩, []⟩,
  ⟨⟨some 6, Op.assign (Operand.const (Value.slice none 0 0)), none⟩, []⟩]) (.seq (.reg [⟨⟨some 11, Op.move (Operand.tmp 2), none⟩, []⟩,
  ⟨⟨some 12, Op.buildSlice 27 1 #[(0, (Operand.tmp 11))], none⟩, []⟩,
  ⟨⟨some 7, Op.assign (Operand.tmp 12), none⟩, []⟩]) (.seq (.seq (.reg [⟨⟨some 8, Op.assign (Operand.const (Value.int IntKind.i64 0)), none⟩, []⟩]) (.block 0 (.loop (.seq (.seq (.reg [⟨⟨some 13, Op.move (Operand.tmp 8), none⟩, []⟩,
  ⟨⟨some 14, Op.move (Operand.tmp 1), none⟩, []⟩,
  ⟨⟨some 15, Op.call { callee := (Callee.builtin Builtin.len), args := #[(Operand.tmp 14)], argTypes := #[27] }, none⟩, []⟩,
  ⟨⟨some 16, Op.binOp BinOp.lss 3 (Operand.tmp 13) (Operand.tmp 15) 3, none⟩, []⟩]) (.cond (Operand.tmp 16) .skip (.exit 0))) (.seq (.block 1 (.seq (.reg [⟨⟨some 9, Op.assign (Operand.const (Value.int IntKind.i64 0)), none⟩, []⟩]) (.block 2 (.loop (.seq (.seq (.reg [⟨⟨some 19, Op.move (Operand.tmp 9), none⟩, []⟩,
  ⟨⟨some 20, Op.move (Operand.tmp 1), none⟩, []⟩,
  ⟨⟨some 21, Op.call { callee := (Callee.builtin Builtin.len), args := #[(Operand.tmp 20)], argTypes := #[27] }, none⟩, []⟩,
  ⟨⟨some 22, Op.binOp BinOp.lss 3 (Operand.tmp 19) (Operand.tmp 21) 3, none⟩, []⟩]) (.cond (Operand.tmp 22) .skip (.exit 2))) (.seq (.block 3 (.seq (.reg [⟨⟨some 10, Op.assign (Operand.const (Value.int IntKind.i64 0)), none⟩, []⟩]) (.block 4 (.loop (.seq (.seq (.reg [⟨⟨some 25, Op.move (Operand.tmp 10), none⟩, []⟩,
  ⟨⟨some 26, Op.move (Operand.tmp 7), none⟩, []⟩,
  ⟨⟨some 27, Op.call { callee := (Callee.builtin Builtin.len), args := #[(Operand.tmp 26)], argTypes := #[27] }, none⟩, []⟩,
  ⟨⟨some 28, Op.binOp BinOp.lss 3 (Operand.tmp 25) (Operand.tmp 27) 3, none⟩, []⟩,
  ⟨⟨some 29, Op.move (Operand.tmp 28), none⟩, []⟩,
  ⟨⟨some 30, Op.move (Operand.tmp 7), some (29, true)⟩, []⟩,
  ⟨⟨some 31, Op.move (Operand.tmp 1), some (29, true)⟩, []⟩,
  ⟨⟨some 32, Op.move (Operand.tmp 9), some (29, true)⟩, []⟩,
  ⟨⟨some 33, Op.indexAddr 27 (Operand.tmp 31) (Operand.tmp 32), some (29, true)⟩, []⟩,
  ⟨⟨some 34, Op.load 3 (Operand.tmp 33), some (29, true)⟩, []⟩,
  ⟨⟨some 35, Op.call { callee := (Callee.value (Operand.func 42)), args := #[(Operand.tmp 30), (Operand.tmp 34)], argTypes := #[27, 3] }, some (29, true)⟩, []⟩,
  ⟨⟨some 36, Op.unOp UnOp.not 4 (Operand.tmp 35), some (29, true)⟩, []⟩,
  ⟨⟨some 37, Op.pick (Operand.tmp 29) (Operand.tmp 36) (Operand.const (Value.bool false)), none⟩, []⟩]) (.cond (Operand.tmp 37) .skip (.exit 4))) (.seq (.block 5 (.seq (.reg [⟨⟨some 40, Op.load 26 (Operand.tmp 3), none⟩, []⟩,
  ⟨⟨some 41, Op.move (Operand.tmp 7), none⟩, []⟩,
  ⟨⟨some 42, Op.move (Operand.tmp 10), none⟩, []⟩,
  ⟨⟨some 43, Op.indexAddr 27 (Operand.tmp 41) (Operand.tmp 42), none⟩, []⟩,
  ⟨⟨some 44, Op.load 3 (Operand.tmp 43), none⟩, []⟩,
  ⟨⟨some 45, Op.move (Operand.tmp 1), none⟩, []⟩,
  ⟨⟨some 46, Op.move (Operand.tmp 9), none⟩, []⟩,
  ⟨⟨some 47, Op.indexAddr 27 (Operand.tmp 45) (Operand.tmp 46), none⟩, []⟩,
  ⟨⟨some 48, Op.load 3 (Operand.tmp 47), none⟩, []⟩,
  ⟨⟨some 49, Op.call { callee := (Callee.value (Operand.func 141)), args := #[(Operand.tmp 40), (Operand.tmp 44), (Operand.tmp 48)], argTypes := #[26, 3, 3] }, none⟩, []⟩]) (.cond (Operand.tmp 49) (.reg [⟨⟨some 50, Op.move (Operand.tmp 7), none⟩, []⟩,
  ⟨⟨some 51, Op.move (Operand.tmp 1), none⟩, []⟩,
  ⟨⟨some 52, Op.move (Operand.tmp 9), none⟩, []⟩,
  ⟨⟨some 53, Op.indexAddr 27 (Operand.tmp 51) (Operand.tmp 52), none⟩, []⟩,
  ⟨⟨some 54, Op.load 3 (Operand.tmp 53), none⟩, []⟩,
  ⟨⟨some 55, Op.call { callee := (Callee.value (Operand.func 56)), args := #[(Operand.tmp 50), (Operand.tmp 54)], argTypes := #[27, 3] }, none⟩, []⟩,
  ⟨⟨some 7, Op.assign (Operand.tmp 55), none⟩, []⟩]) .skip))) (.reg [⟨⟨some 38, Op.move (Operand.tmp 10), none⟩, []⟩,
  ⟨⟨some 39, Op.binOp BinOp.add 3 (Operand.tmp 38) (Operand.const (Value.int IntKind.i64 1)) 3, none⟩, []⟩,
  ⟨⟨some 10, Op.assign (Operand.tmp 39), none⟩, []⟩]))))))) (.reg [⟨⟨some 23, Op.move (Operand.tmp 9), none⟩, []⟩,
  ⟨⟨some 24, Op.binOp BinOp.add 3 (Operand.tmp 23) (Operand.const (Value.int IntKind.i64 1)) 3, none⟩, []⟩,
  ⟨⟨some 9, Op.assign (Operand.tmp 24), none⟩, []⟩]))))))) (.reg [⟨⟨some 17, Op.move (Operand.tmp 8), none⟩, []⟩,
  ⟨⟨some 18, Op.binOp BinOp.add 3 (Operand.tmp 17) (Operand.const (Value.int IntKind.i64 1)) 3, none⟩, []⟩,
  ⟨⟨some 8, Op.assign (Operand.tmp 18), none⟩, []⟩])))))) (.seq (.reg [⟨⟨some 56, Op.move (Operand.tmp 7), none⟩, []⟩,
  ⟨⟨some 6, Op.assign (Operand.tmp 56), none⟩, []⟩]) .ret))))
theorem sl124 : slim Try.f124.ntmps ords124 (Try.f124.body.getD .skip) = some cd124 := by kernel_rfl
theorem in124 {args : List Value} {H : AH} {R : Value → AH → Prop} (hl : args.length = 3) (h : ∀ (Q : Exit → Sl → AH → Prop), (∀ e s H, endA Try.prog [ResultVar.tmp 6] R e s H → Q e s H) → wpC Try.prog cd124 Q (enterA args) H) : ACalls Try.prog 124 args H R :=
  ACalls.intro (by kernel_rfl) Try.func124 rfl (by kernel_rfl) sl124 hl (of_decide_eq_true (by kernel_rfl)) (by kernel_rfl) h
def ords98 : List (Nat × List (Nat × Bool)) := [(6, [(0, false), (1, false), (2, false), (3, false), (4, false), (5, false), (6, true), (7, false)])]
def cd98 : Cd := (.seq (.reg [⟨⟨some 2, Op.box 26 (Operand.tmp 0), none⟩, []⟩,
  ⟨⟨some 4, Op.assign (Operand.const (Value.slice none 0 0)), none⟩, []⟩]) (.seq (.reg [⟨⟨some 10, Op.buildSlice 38 0 #[], none⟩, []⟩,
  ⟨⟨some 11, Op.buildSlice 27 0 #[], none⟩, []⟩,
  ⟨⟨some 5, Op.assign (Operand.tmp 10), none⟩, []⟩,
  ⟨⟨some 6, Op.assign (Operand.tmp 11), none⟩, []⟩]) (.seq (.seq (.reg [⟨⟨some 7, Op.assign (Operand.const (Value.int IntKind.i64 0)), none⟩, []⟩]) (.block 0 (.loop (.seq (.seq (.reg [⟨⟨some 12, Op.move (Operand.tmp 7), none⟩, []⟩,
  ⟨⟨some 13, Op.move (Operand.tmp 1), none⟩, []⟩,
  ⟨⟨some 14, Op.call { callee := (Callee.builtin Builtin.len), args := #[(Operand.tmp 13)], argTypes := #[27] }, none⟩, []⟩,
  ⟨⟨some 15, Op.binOp BinOp.lss 3 (Operand.tmp 12) (Operand.tmp 14) 3, none⟩, []⟩]) (.cond (Operand.tmp 15) .skip (.exit 0))) (.seq (.block 1 (.seq (.seq (.reg [⟨⟨some 18, Op.move (Operand.tmp 6), none⟩, []⟩,
  ⟨⟨some 19, Op.move (Operand.tmp 1), none⟩, []⟩,
  ⟨⟨some 20, Op.move (Operand.tmp 7), none⟩, []⟩,
  ⟨⟨some 21, Op.indexAddr 27 (Operand.tmp 19) (Operand.tmp 20), none⟩, []⟩,
  ⟨⟨some 22, Op.load 3 (Operand.tmp 21), none⟩, []⟩,
  ⟨⟨some 23, Op.call { callee := (Callee.value (Operand.func 42)), args := #[(Operand.tmp 18), (Operand.tmp 22)], argTypes := #[27, 3] }, none⟩, []⟩]) (.cond (Operand.tmp 23) (.exit 1) .skip)) (.seq (.reg [⟨⟨some 24, Op.load 26 (Operand.tmp 2), none⟩, []⟩,
  ⟨⟨some 25, Op.move (Operand.tmp 1), none⟩, []⟩,
  ⟨⟨some 26, Op.move (Operand.tmp 1), none⟩, []⟩,
  ⟨⟨some 27, Op.move (Operand.tmp 7), none⟩, []⟩,
  ⟨⟨some 28, Op.indexAddr 27 (Operand.tmp 26) (Operand.tmp 27), none⟩, []⟩,
  ⟨⟨some 29, Op.load 3 (Operand.tmp 28), none⟩, []⟩,
  ⟨⟨some 30, Op.call { callee := (Callee.value (Operand.func 124)), args := #[(Operand.tmp 24), (Operand.tmp 25), (Operand.tmp 29)], argTypes := #[26, 27, 3] }, none⟩, []⟩,
  ⟨⟨some 8, Op.assign (Operand.tmp 30), none⟩, []⟩]) (.seq (.seq (.reg [⟨⟨some 9, Op.assign (Operand.const (Value.int IntKind.i64 0)), none⟩, []⟩]) (.block 2 (.loop (.seq (.seq (.reg [⟨⟨some 31, Op.move (Operand.tmp 9), none⟩, []⟩,
  ⟨⟨some 32, Op.move (Operand.tmp 8), none⟩, []⟩,
  ⟨⟨some 33, Op.call { callee := (Callee.builtin Builtin.len), args := #[(Operand.tmp 32)], argTypes := #[27] }, none⟩, []⟩,
  ⟨⟨some 34, Op.binOp BinOp.lss 3 (Operand.tmp 31) (Operand.tmp 33) 3, none⟩, []⟩]) (.cond (Operand.tmp 34) .skip (.exit 2))) (.seq (.block 3 (.reg [⟨⟨some 37, Op.move (Operand.tmp 6), none⟩, []⟩,
  ⟨⟨some 38, Op.move (Operand.tmp 8), none⟩, []⟩,
  ⟨⟨some 39, Op.move (Operand.tmp 9), none⟩, []⟩,
  ⟨⟨some 40, Op.indexAddr 27 (Operand.tmp 38) (Operand.tmp 39), none⟩, []⟩,
  ⟨⟨some 41, Op.load 3 (Operand.tmp 40), none⟩, []⟩,
  ⟨⟨some 42, Op.call { callee := (Callee.value (Operand.func 56)), args := #[(Operand.tmp 37), (Operand.tmp 41)], argTypes := #[27, 3] }, none⟩, []⟩,
  ⟨⟨some 6, Op.assign (Operand.tmp 42), none⟩, []⟩])) (.reg [⟨⟨some 35, Op.move (Operand.tmp 9), none⟩, []⟩,
  ⟨⟨some 36, Op.binOp BinOp.add 3 (Operand.tmp 35) (Operand.const (Value.int IntKind.i64 1)) 3, none⟩, []⟩,
  ⟨⟨some 9, Op.assign (Operand.tmp 36), none⟩, []⟩])))))) (.reg [⟨⟨some 43, Op.move (Operand.tmp 5), none⟩, []⟩,
  ⟨⟨some 44, Op.move (Operand.tmp 8), none⟩, []⟩,
  ⟨⟨some 45, Op.buildSlice 38 1 #[(0, (Operand.tmp 44))], none⟩, []⟩,
  ⟨⟨some 46, Op.call { callee := (Callee.builtin Builtin.append), args := #[(Operand.tmp 43), (Operand.tmp 45)], argTypes := #[38, 38] }, none⟩, []⟩,
  ⟨⟨some 5, Op.assign (Operand.tmp 46), none⟩, []⟩]))))) (.reg [⟨⟨some 16, Op.move (Operand.tmp 7), none⟩, []⟩,
  ⟨⟨some 17, Op.binOp BinOp.add 3 (Operand.tmp 16) (Operand.const (Value.int IntKind.i64 1)) 3, none⟩, []⟩,
  ⟨⟨some 7, Op.assign (Operand.tmp 17), none⟩, []⟩])))))) (.seq (.reg [⟨⟨some 47, Op.move (Operand.tmp 5), none⟩, []⟩,
  ⟨⟨some 4, Op.assign (Operand.tmp 47), none⟩, []⟩]) .ret))))
theorem sl98 : slim Try.f98.ntmps ords98 (Try.f98.body.getD .skip) = some cd98 := by kernel_rfl
theorem in98 {args : List Value} {H : AH} {R : Value → AH → Prop} (hl : args.length = 2) (h : ∀ (Q : Exit → Sl → AH → Prop), (∀ e s H, endA Try.prog [ResultVar.tmp 4] R e s H → Q e s H) → wpC Try.prog cd98 Q (enterA args) H) : ACalls Try.prog 98 args H R :=
  ACalls.intro (by kernel_rfl) Try.func98 rfl (by kernel_rfl) sl98 hl (of_decide_eq_true (by kernel_rfl)) (by kernel_rfl) h
end Go.Proofs.Ytldcbmmmheookaa.Ai
namespace Go.Proofs.Ytldcbmmmheookaa.Ai
open Go Go.RowKit
set_option linter.unusedVariables false
set_option linter.unusedSimpArgs false
theorem bsRow {H0 : AH} {v : Value} {xs : List Int} (h : Row 3 H0 v xs) (K : AH) : buildSliceA Try.prog 38 1 [(0, v)] K = some (.slice (some ⟨K.length, 0, none⟩) 1 1, K ++ [.cells [v] 27 false]) := by
  obtain ⟨q, eq⟩ := h.shape
  rw [eq]
  exact bs1 Try.underlying38 cs27 ze27 ⟨by kernel_rfl, by kernel_rfl⟩ K rfl
/-- a set of few nodes -/
def Sm (o : List Int) : Prop := o.Pairwise (· < ·) ∧ ∀ z ∈ o, 0 ≤ z ∧ z < 8
theorem Sm.len {o : List Int} (h : Sm o) : o.length ≤ 8 := by
  have := nodup_le (a := o) (b := (List.range 8).map fun z : Nat => (z : Int)) (lt_nodup h.1) fun x hx => by
    have := h.2 x hx
    exact List.mem_map.2 ⟨x.toNat, List.mem_range.2 (by omega), by omega⟩
  simpa using this
theorem Sm.put {o : List Int} (h : Sm o) {x : Int} (hx : 0 ≤ x ∧ x < 8) : Sm (put o x) := by
  refine ⟨put_sorted _ _ h.1, fun z hz => ?_⟩
  rcases (put_mem _ _ _).1 hz with rfl | hz
  · exact hx
  · exact h.2 z hz
theorem Sm.nil : Sm [] := ⟨List.Pairwise.nil, fun z hz => by simp at hz⟩
theorem Sm.one {x : Int} (hx : 0 ≤ x ∧ x < 8) : Sm [x] := ⟨List.pairwise_singleton _ _, fun z hz => by simp at hz; subst hz; exact hx⟩
theorem Sm.rcIn {o : List Int} (h : Sm o) (es : List (Int × Int)) {y : Int} (hy : 0 ≤ y ∧ y < 8) : Sm (rcIn es o y) := by
  unfold Ai.rcIn
  split
  · exact h
  · split
    · exact h.put hy
    · exact h
theorem Sm.fold (es : List (Int × Int)) : ∀ (l : List Int) {o : List Int}, Sm o → (∀ y ∈ l, 0 ≤ y ∧ y < 8) → Sm (l.foldl (Ai.rcIn es) o)
  | [], o, h, _ => h
  | y :: ys, o, h, hl => Sm.fold es ys (h.rcIn es (hl y (by simp))) fun z hz => hl z (by simp [hz])
theorem Sm.iter (es : List (Int × Int)) (set : List Int) (hl : ∀ y ∈ set, 0 ≤ y ∧ y < 8) {x : Int} (hx : 0 ≤ x ∧ x < 8) : ∀ k, Sm (rcIter es set k [x])
  | 0 => Sm.one hx
  | k + 1 => Sm.fold es set (Sm.iter es set hl hx k) hl
theorem drop_fold {β : Type} (f : β → Int → β) (l : List Int) (i : Nat) (hi : i < l.length) (o : β) : (l.drop i).foldl f o = (l.drop (i + 1)).foldl f (f o (l.getD i 0)) := by
  have e : l.getD i 0 = l[i] := by simp [hi]
  rw [List.drop_eq_getElem_cons hi, List.foldl_cons, e]
set_option maxRecDepth 20000 in
set_option maxHeartbeats 4000000 in
theorem l2Reach_c (n : Int) (v w : Value) (es : List (Int × Int)) (set : List Int) (x : Int) (H : AH) (hr : RowP 71 H v es) (hlen : es.length ≤ 1099511627776) (hs : Row 3 H w set) (hsr : ∀ z ∈ set, 0 ≤ z ∧ z < 8) (hsl : set.length ≤ 8) (hx : 0 ≤ x ∧ x < 8) :
    ACalls Try.prog 124 [.agg (List.toArray [.int .i64 n, v]), w, .int .i64 x] H fun r H' => Own 3 H H' r (reachL es set x) ∧ H <+: H' := by
  refine in124 rfl ?_
  intro Q hQ
  simp (maxSteps := 1000000) (disch := omega) only [cd124, hr.boxG, S, S1, S2, S3, S4, S5, ST, eq_self, reduceIte, reduceCtorEq, Nat.reduceEqDiff, Nat.reduceAdd]
  generalize hA : H ++ [AObj.cells [.int .i64 n, v] 26 false] = A
  have pA : H <+: A := by rw [← hA]; exact List.prefix_append _ _
  have cA : A[H.length]? = some (.cells [.int .i64 n, v] 26 false) := by rw [← hA]; exact at_new ..
  have rA := hr.pre pA
  try simp (maxSteps := 1000000) (disch := omega) only [S, S1, S2, S3, S4, S5, ST, eq_self, reduceIte, reduceCtorEq, Nat.reduceEqDiff, Nat.reduceAdd]
  refine LoopH.by (fun m s H' => ∃ i, m + i = set.length ∧ s 1 = w ∧ s 3 = .pointer (some ⟨H.length, 0, none⟩) ∧ s 8 = .int .i64 ((i : Nat) : Int) ∧ Own 3 A H' (s 7) (rcIter es set i [x]) ∧ A <+: H') set.length ?_ ?_
  · exact ⟨0, by simp, rfl, rfl, rfl, .inr ⟨A.length, rfl, Nat.le_refl _, at_new ..⟩, List.prefix_append _ _⟩
  rintro m s H' ⟨i, hm, h1, h3, h8, ho, hp⟩
  have hss := hs.pre (pA.trans hp)
  have hiter : rcIter es set (i + 1) [x] = set.foldl (rcIn es) (rcIter es set i [x]) := rfl
  have hsm := Sm.iter es set hsr hx i
  have hend : i = set.length → rcIter es set i [x] = reachL es set x := fun e => by rw [e]; rfl
  generalize hw : s 7 = u at *
  generalize hR : rcIter es set i [x] = R at *
  simp (maxSteps := 1000000) (disch := omega) only [h1, h3, h8, hw, hss.len Try.underlying27, S, S1, S2, S3, S4, S5, ST, eq_self, reduceIte, reduceCtorEq, Nat.reduceEqDiff, Nat.reduceAdd]
  refine brD.intro (fun g => ?_) (fun g => ?_)
  rotate_left
  · simp (maxSteps := 1000000) (disch := omega) only [hw, S, S1, S2, S3, S4, S5, ST, eq_self, reduceIte, reduceCtorEq, Nat.reduceEqDiff, Nat.reduceAdd]
    refine hQ _ _ _ ?_
    simp (maxSteps := 1000000) (disch := omega) only [hw, ho.row.tup, S, S1, S2, S3, S4, S5, ST, eq_self, reduceIte, reduceCtorEq, Nat.reduceEqDiff, Nat.reduceAdd]
    rw [← hend (by omega)]
    exact ⟨ho.base pA, pA.trans hp⟩
  simp (maxSteps := 1000000) (disch := omega) only [h1, h3, h8, hw, S, S1, S2, S3, S4, S5, ST, eq_self, reduceIte, reduceCtorEq, Nat.reduceEqDiff, Nat.reduceAdd]
  refine LoopH.by (fun m2 s H2 => ∃ j R2, m2 + j = set.length ∧ s 1 = w ∧ s 3 = .pointer (some ⟨H.length, 0, none⟩) ∧ s 8 = .int .i64 ((i : Nat) : Int) ∧ s 9 = .int .i64 ((j : Nat) : Int) ∧ Own 3 A H2 (s 7) R2 ∧ A <+: H2 ∧ Sm R2 ∧ (set.drop j).foldl (rcIn es) R2 = set.foldl (rcIn es) R) set.length ?_ ?_
  · refine ⟨0, R, by simp, h1, h3, h8, rfl, ?_, hp, hsm, by rw [List.drop_zero]⟩
    simp only [S, S1, S2, S3, S4, S5, ST, eq_self, reduceIte, reduceCtorEq, Nat.reduceEqDiff, Nat.reduceAdd, hw]
    exact ho
  rintro m2 s H2 ⟨j, R2, hm2, h1, h3, h8, h9, ho2, hp2, hsm2, hf⟩
  have hss2 := hs.pre (pA.trans hp2)
  generalize hw : s 7 = u2 at *
  simp (maxSteps := 1000000) (disch := omega) only [h1, h3, h8, h9, hw, hss2.len Try.underlying27, S, S1, S2, S3, S4, S5, ST, eq_self, reduceIte, reduceCtorEq, Nat.reduceEqDiff, Nat.reduceAdd]
  refine brD.intro (fun g2 => ?_) (fun g2 => ?_)
  rotate_left
  · simp (maxSteps := 1000000) (disch := omega) only [h1, h3, h8, h9, hw, wrap64, S, S1, S2, S3, S4, S5, ST, eq_self, reduceIte, reduceCtorEq, Nat.reduceEqDiff, Nat.reduceAdd]
    rw [List.drop_of_length_le (by omega), List.foldl_nil, ← hiter] at hf
    refine ⟨m - 1, by omega, i + 1, ?_⟩
    rw [← hf]
    (repeat' first | exact ho2 | exact hp2 | apply And.intro) <;> first | (simp only [Value.int.injEq, true_and]; omega) | omega | rfl | assumption | (simp; done) | (simp; omega)
  have hj : j < set.length := by omega
  rw [drop_fold _ set j hj] at hf
  have hym : set.getD j 0 ∈ set := by simp [hj]
  have hyr := hsr _ hym
  generalize hy : set.getD j 0 = y at *
  simp (maxSteps := 1000000) (disch := omega) only [h1, h3, h8, h9, hw, S, S1, S2, S3, S4, S5, ST, eq_self, reduceIte, reduceCtorEq, Nat.reduceEqDiff, Nat.reduceAdd]
  refine LoopH.by (fun m3 s H3 => ∃ k R3, m3 + k = 9 ∧ s 1 = w ∧ s 3 = .pointer (some ⟨H.length, 0, none⟩) ∧ s 8 = .int .i64 ((i : Nat) : Int) ∧ s 9 = .int .i64 ((j : Nat) : Int) ∧ s 10 = .int .i64 ((k : Nat) : Int) ∧ Own 3 A H3 (s 7) R3 ∧ A <+: H3 ∧ Sm R3 ∧ rcIn es R3 y = rcIn es R2 y ∧ (y ∉ R3 → ∀ l, l < k → l < R3.length → nearB es (R3.getD l 0) y = false)) 9 ?_ ?_
  · refine ⟨0, R2, by omega, h1, h3, h8, h9, rfl, ?_, hp2, hsm2, rfl, fun _ l hl => absurd hl (Nat.not_lt_zero l)⟩
    simp only [S, S1, S2, S3, S4, S5, ST, eq_self, reduceIte, reduceCtorEq, Nat.reduceEqDiff, Nat.reduceAdd, hw]
    exact ho2
  rintro m3 s H3 ⟨k, R3, hm3, h1, h3, h8, h9, h10, ho3, hp3, hsm3, hq, hno⟩
  have hss3 := hs.pre (pA.trans hp3)
  have hl3 := hsm3.len
  have hr3 := rA.pre hp3
  have c3 := pre_at hp3 cA
  generalize hw : s 7 = u3 at *
  have stay : ∀ (H4 : AH), A <+: H4 → Own 3 A H4 u3 R3 → (y ∈ R3 ∨ k ≥ R3.length) → rcIn es R2 y = R3 := by
    intro H4 _ _ hc
    rw [← hq]
    unfold rcIn
    split
    · rfl
    · rename_i hm
      rw [if_neg]
      intro e
      obtain ⟨o, hoo, hn⟩ := List.any_eq_true.1 e
      obtain ⟨l, hl, rfl⟩ := List.mem_iff_getElem.1 hoo
      have h5 := hno hm l (by rcases hc with h | h <;> first | exact absurd h hm | omega) hl
      have e5 : R3.getD l 0 = R3[l] := by simp [hl]
      rw [e5, hn] at h5
      exact absurd h5 (by decide)
  simp (maxSteps := 1000000) (disch := omega) only [h1, h3, h8, h9, h10, hw, ho3.row.len Try.underlying27, S, S1, S2, S3, S4, S5, ST, eq_self, reduceIte, reduceCtorEq, Nat.reduceEqDiff, Nat.reduceAdd]
  refine brD.intro (fun g3 => ?_) (fun g3 => ?_)
  rotate_left
  · simp (maxSteps := 1000000) (disch := omega) only [g3, h1, h3, h8, h9, h10, hw, wrap64, S, S1, S2, S3, S4, S5, ST, eq_self, reduceIte, reduceCtorEq, Nat.reduceEqDiff, Nat.reduceAdd]
    rw [stay H3 hp3 ho3 (.inr (by omega))] at hf
    refine ⟨m2 - 1, by omega, j + 1, R3, ?_⟩
    (repeat' first | exact ho3 | exact hp3 | exact hsm3 | exact hf | apply And.intro) <;> first | (simp only [Value.int.injEq, true_and]; omega) | omega | rfl | assumption | (simp; done) | (simp; omega)
  have hk : k < R3.length := by omega
  have hcy := hss3.cell hj
  rw [hy] at hcy
  simp (maxSteps := 1000000) (disch := omega) only [g3, h1, h3, h8, h9, h10, hw, hss3.ix Try.underlying27 cs3, hcy, Int.toNat_natCast, S, S1, S2, S3, S4, S5, ST, eq_self, reduceIte, reduceCtorEq, Nat.reduceEqDiff, Nat.reduceAdd]
  refine CallH.by (l1Has_c u3 R3 y H3 ho3.row (by omega)) ?_
  rintro _ _ ⟨rfl, rfl⟩
  simp (maxSteps := 1000000) (disch := omega) only [g3, S, S1, S2, S3, S4, S5, ST, eq_self, reduceIte, reduceCtorEq, Nat.reduceEqDiff, Nat.reduceAdd]
  refine brD.intro (fun g4 => ?_) (fun g4 => ?_)
  · simp (maxSteps := 1000000) (disch := omega) only [h1, h3, h8, h9, h10, hw, wrap64, S, S1, S2, S3, S4, S5, ST, eq_self, reduceIte, reduceCtorEq, Nat.reduceEqDiff, Nat.reduceAdd]
    rw [stay H3 hp3 ho3 (.inl g4)] at hf
    refine ⟨m2 - 1, by omega, j + 1, R3, ?_⟩
    (repeat' first | exact ho3 | exact hp3 | exact hsm3 | exact hf | apply And.intro) <;> first | (simp only [Value.int.injEq, true_and]; omega) | omega | rfl | assumption | (simp; done) | (simp; omega)
  simp (maxSteps := 1000000) (disch := omega) only [h1, h3, h8, h9, h10, hw, hss3.ix Try.underlying27 cs3, hcy, ho3.row.ix Try.underlying27 cs3, ho3.row.cell, Int.toNat_natCast, ld_agg ag26 cs26 c3, S, S1, S2, S3, S4, S5, ST, eq_self, reduceIte, reduceCtorEq, Nat.reduceEqDiff, Nat.reduceAdd]
  refine CallH.by (l2Near_c n v es _ y H3 hr3 hlen) ?_
  rintro _ H4 ⟨rfl, p4⟩
  have hss4 := hss3.pre p4
  have ho4 := ho3.pre p4
  have hp4 := hp3.trans p4
  have hcy4 := hss4.cell hj
  rw [hy] at hcy4
  simp (maxSteps := 1000000) (disch := omega) only [S, S1, S2, S3, S4, S5, ST, eq_self, reduceIte, reduceCtorEq, Nat.reduceEqDiff, Nat.reduceAdd]
  refine brH.intro (fun e => ?_) (fun e => ?_)
  · simp (maxSteps := 1000000) (disch := omega) only [e, h1, h3, h8, h9, h10, hw, hss4.ix Try.underlying27 cs3, hcy4, Int.toNat_natCast, S, S1, S2, S3, S4, S5, ST, eq_self, reduceIte, reduceCtorEq, Nat.reduceEqDiff, Nat.reduceAdd]
    refine CallH.by (l1Put_c u3 R3 y H4 ho4.row (by omega) g4) ?_
    rintro u5 H5 ⟨ho5, p5⟩
    have ho5' := ho5.base hp4
    have hp5 := hp4.trans p5
    have hsm5 := hsm3.put hyr
    have hmp : y ∈ put R3 y := (put_mem _ _ _).2 (.inl rfl)
    have hq5 : rcIn es (put R3 y) y = rcIn es R2 y := by
      rw [← hq]
      have e1 : rcIn es R3 y = put R3 y := by
        unfold rcIn
        rw [if_neg g4, if_pos]
        refine List.any_eq_true.2 ⟨R3.getD k 0, by simp [hk], e⟩
      rw [e1]
      unfold rcIn
      rw [if_pos hmp]
    have hno5 : y ∉ put R3 y → ∀ l, l < k + 1 → l < (put R3 y).length → nearB es ((put R3 y).getD l 0) y = false := fun h => absurd hmp h
    simp (maxSteps := 1000000) (disch := omega) only [h1, h3, h8, h9, h10, wrap64, S, S1, S2, S3, S4, S5, ST, eq_self, reduceIte, reduceCtorEq, Nat.reduceEqDiff, Nat.reduceAdd]
    refine ⟨m3 - 1, by omega, k + 1, put R3 y, ?_⟩
    (repeat' first | exact ho5' | exact hp5 | exact hsm5 | exact hq5 | exact hno5 | apply And.intro) <;> first | (simp only [Value.int.injEq, true_and]; omega) | omega | rfl | assumption | (simp; done) | (simp; omega)
  · have hno5 : y ∉ R3 → ∀ l, l < k + 1 → l < R3.length → nearB es (R3.getD l 0) y = false := by
      intro h l hl1 hl2
      by_cases el : l = k
      · subst el; exact e
      · exact hno h l (by omega) hl2
    simp (maxSteps := 1000000) (disch := omega) only [e, h1, h3, h8, h9, h10, hw, wrap64, S, S1, S2, S3, S4, S5, ST, eq_self, reduceIte, reduceCtorEq, Nat.reduceEqDiff, Nat.reduceAdd]
    refine ⟨m3 - 1, by omega, k + 1, R3, ?_⟩
    (repeat' first | exact ho4 | exact hp4 | exact hsm3 | exact hq | exact hno5 | apply And.intro) <;> first | (simp only [Value.int.injEq, true_and]; omega) | omega | rfl | assumption | (simp; done) | (simp; omega)
set_option maxRecDepth 20000 in
set_option maxHeartbeats 2000000 in
theorem l1PutW_c (v : Value) (l : List Int) (x : Int) (H : AH) (hr : Row 3 H v l) (hlen : l.length ≤ 1000000) (hso : l.Pairwise (· < ·)) :
    ACalls Try.prog 56 [v, .int .i64 x] H fun r H' => ((r = v ∧ put l x = l) ∨ Own 3 H H' r (put l x)) ∧ H <+: H' := by
  by_cases hx : x ∈ l
  rotate_left
  · exact (l1Put_c v l x H hr hlen hx).mono fun r H' h => ⟨.inr h.1, h.2⟩
  · refine in56 rfl ?_
    intro Q hQ
    obtain ⟨q, hq, hqe⟩ := List.mem_iff_getElem.1 hx
    have hqd : l.getD q 0 = x := by simp [hq, hqe]
    have hpt : put l x = l := by
      have hlt : ∀ j, j < q → l.getD j 0 < x := fun j hj => by
        have := List.pairwise_iff_getElem.1 hso j q (by omega) hq hj
        have e : l.getD j 0 = l[j] := by simp [show j < l.length by omega]
        rw [e]; omega
      rw [putAt_eq0 l x q (by omega) hlt (fun _ => by omega), if_pos ⟨hq, hqd⟩]
    simp (maxSteps := 1000000) (disch := omega) only [cd56, S, S1, S2, S3, S4, S5, ST, eq_self, reduceIte, reduceCtorEq, Nat.reduceEqDiff, Nat.reduceAdd]
    refine LoopH.by (fun m s H' => ∃ i, m + i = l.length ∧ s 0 = v ∧ s 1 = .int .i64 x ∧ s 5 = .int .i64 ((i : Nat) : Int) ∧ H = H' ∧ i ≤ q) l.length ?_ ?_
    · exact ⟨0, by simp, rfl, rfl, rfl, rfl, by omega⟩
    · rintro m s H' ⟨i, hm, h0, h1, h5, rfl, hiq⟩
      have hi : i < l.length := by omega
      have hle : l.getD i 0 ≤ x ∧ (i < q → l.getD i 0 < x) := by
        have e : l.getD i 0 = l[i] := by simp [hi]
        rw [e]
        by_cases e2 : i = q
        · subst e2; exact ⟨by omega, fun h => absurd h (by omega)⟩
        · have := List.pairwise_iff_getElem.1 hso i q hi hq (by omega)
          exact ⟨by omega, fun _ => by omega⟩
      simp (maxSteps := 1000000) (disch := omega) only [h0, h1, h5, hr.len Try.underlying27, S, S1, S2, S3, S4, S5, ST, eq_self, reduceIte, reduceCtorEq, Nat.reduceEqDiff, Nat.reduceAdd]
      refine brD.intro (fun g => ?_) (fun g => absurd (show (i : Int) < l.length by omega) g)
      simp (maxSteps := 1000000) (disch := omega) only [g, h0, h1, h5, hr.ix Try.underlying27 cs3, hr.cell, Int.toNat_natCast, S, S1, S2, S3, S4, S5, ST, eq_self, reduceIte, reduceCtorEq, Nat.reduceEqDiff, Nat.reduceAdd]
      refine brD.intro (fun e => ?_) (fun e => ?_)
      · simp (maxSteps := 1000000) (disch := omega) only [h0, h1, h5, wrap64, S, S1, S2, S3, S4, S5, ST, eq_self, reduceIte, reduceCtorEq, Nat.reduceEqDiff, Nat.reduceAdd]
        have fx : i + 1 ≤ q := by
          by_cases e2 : i = q
          · subst e2; omega
          · omega
        refine ⟨m - 1, by omega, i + 1, ?_⟩
        (repeat' apply And.intro) <;> first | exact fx | (simp only [Value.int.injEq, true_and]; omega) | omega | rfl | assumption | (simp; done) | (simp; omega)
      · have hee : l.getD i 0 = x := by
          by_cases e2 : i = q
          · subst e2; exact hqd
          · exact absurd (hle.2 (by omega)) e
        simp (maxSteps := 1000000) (disch := omega) only [g, h0, h1, h5, hr.len Try.underlying27, hr.ix Try.underlying27 cs3, hr.cell, Int.toNat_natCast, S, S1, S2, S3, S4, S5, ST, eq_self, reduceIte, reduceCtorEq, Nat.reduceEqDiff, Nat.reduceAdd]
        refine brD.intro (fun h => ?_) (fun h => absurd hee h)
        simp (maxSteps := 1000000) (disch := omega) only [h0, S, S1, S2, S3, S4, S5, ST, eq_self, reduceIte, reduceCtorEq, Nat.reduceEqDiff, Nat.reduceAdd]
        refine hQ _ _ _ ?_
        simp (maxSteps := 1000000) (disch := omega) only [h0, hr.tup, S, S1, S2, S3, S4, S5, ST, eq_self, reduceIte, reduceCtorEq, Nat.reduceEqDiff, Nat.reduceAdd]
        exact ⟨.inl hpt, List.prefix_refl _⟩
theorem Sm.reach {es : List (Int × Int)} {set : List Int} (hl : ∀ y ∈ set, 0 ≤ y ∧ y < 8) {x : Int} (hx : 0 ≤ x ∧ x < 8) : Sm (reachL es set x) := Sm.iter es set hl hx _
set_option maxRecDepth 20000 in
set_option maxHeartbeats 4000000 in
theorem l2Pieces_c (n : Int) (v w : Value) (es : List (Int × Int)) (set : List Int) (H : AH) (hr : RowP 71 H v es) (hlen : es.length ≤ 1099511627776) (hs : Row 3 H w set) (hsr : ∀ z ∈ set, 0 ≤ z ∧ z < 8) (hsl : set.length ≤ 8) :
    ACalls Try.prog 98 [.agg (List.toArray [.int .i64 n, v]), w] H fun r H' => InL H.length H'.length 27 3 H' r (piecesL es set) ∧ H <+: H' := by
  refine in98 rfl ?_
  intro Q hQ
  simp (maxSteps := 1000000) (disch := omega) only [cd98, hr.boxG, S, S1, S2, S3, S4, S5, ST, eq_self, reduceIte, reduceCtorEq, Nat.reduceEqDiff, Nat.reduceAdd]
  generalize hA : H ++ [AObj.cells [.int .i64 n, v] 26 false] = A
  have pA : H <+: A := by rw [← hA]; exact List.prefix_append _ _
  have cA : A[H.length]? = some (.cells [.int .i64 n, v] 26 false) := by rw [← hA]; exact at_new ..
  have rA := hr.pre pA
  try simp (maxSteps := 1000000) (disch := omega) only [S, S1, S2, S3, S4, S5, ST, eq_self, reduceIte, reduceCtorEq, Nat.reduceEqDiff, Nat.reduceAdd]
  have lA : A.length = H.length + 1 := by rw [← hA]; simp
  generalize hB : A ++ [AObj.cells [] 27 false] = B
  have pB : A <+: B := by rw [← hB]; exact List.prefix_append _ _
  have cB : B[A.length]? = some (.cells [] 27 false) := by rw [← hB]; exact at_new ..
  have lB : B.length = A.length + 1 := by rw [← hB]; simp
  have uB : InU H.length B.length 27 3 B A.length [] [] := ⟨by omega, by omega, cB, Nat.le_refl _, fun i hi => absurd hi (by simp), fun i j _ hi _ => absurd hi (by simp)⟩
  refine LoopH.by (fun m s H' => ∃ i st oo vs q, m + i = set.length ∧ s 1 = w ∧ s 2 = .pointer (some ⟨H.length, 0, none⟩) ∧ s 7 = .int .i64 ((i : Nat) : Int) ∧ s 5 = .slice (some ⟨oo, 0, none⟩) st.1.length st.1.length ∧ s 6 = .slice (some ⟨q, 0, none⟩) st.2.length st.2.length ∧ (set.drop i).foldl (pcS es set) st = pcK es set set ∧ InU H.length H'.length 27 3 H' oo vs st.1 ∧ H'[q]? = some (.cells (ints st.2) 3 false) ∧ q ≠ oo ∧ A.length ≤ oo ∧ A.length ≤ q ∧ A <+: H' ∧ Sm st.2 ∧ st.1.length ≤ i) set.length ?_ ?_
  · refine ⟨0, ([], []), A.length, [], B.length, by simp, ?_⟩
    simp only [S, S1, S2, S3, S4, S5, ST, eq_self, reduceIte, reduceCtorEq, Nat.reduceEqDiff, Nat.reduceAdd]
    have q1 := uB.pre (List.prefix_append B [AObj.cells [] 3 false])
    have q1' := q1.wide (Nat.le_refl _) (show B.length ≤ (B ++ [AObj.cells [] 3 false]).length by simp)
    have q2 : (B ++ [AObj.cells [] 3 false])[B.length]? = some (.cells (ints []) 3 false) := at_new ..
    have q3 := pre_app pB [AObj.cells [] 3 false]
    have q4 : (set.drop 0).foldl (pcS es set) ([], []) = pcK es set set := by rw [List.drop_zero]; rfl
    have q5 := Sm.nil
    (repeat' first | exact q1' | exact q2 | exact q3 | exact q4 | exact q5 | apply And.intro) <;> first | (simp only [Value.int.injEq, true_and]; omega) | omega | rfl | assumption | (simp; done) | (simp; omega)
  rintro m s H' ⟨i, st, oo, vs, q, hm, h1, h2, h7, h5, h6, hf, hu, hq, hqo, hAo, hAq, hp, hsm, hcn⟩
  have hss := hs.pre (pA.trans hp)
  have hsl6 := hsm.len
  have hlt := hp.length_le
  have hrq : Row 3 H' (.slice (some ⟨q, 0, none⟩) st.2.length st.2.length) st.2 := .inr ⟨q, 0, ints st.2, false, rfl, hq, by rw [ints_len]; omega, by rw [List.drop_zero, ← ints_len, List.take_length]⟩
  simp (maxSteps := 1000000) (disch := omega) only [h1, h2, h7, h5, h6, hss.len Try.underlying27, S, S1, S2, S3, S4, S5, ST, eq_self, reduceIte, reduceCtorEq, Nat.reduceEqDiff, Nat.reduceAdd]
  refine brD.intro (fun g => ?_) (fun g => ?_)
  rotate_left
  · simp (maxSteps := 1000000) (disch := omega) only [h5, S, S1, S2, S3, S4, S5, ST, eq_self, reduceIte, reduceCtorEq, Nat.reduceEqDiff, Nat.reduceAdd]
    refine hQ _ _ _ ?_
    simp (maxSteps := 1000000) (disch := omega) only [h5, S, S1, S2, S3, S4, S5, ST, eq_self, reduceIte, reduceCtorEq, Nat.reduceEqDiff, Nat.reduceAdd]
    rw [List.drop_of_length_le (by omega), List.foldl_nil] at hf
    have hP : piecesL es set = st.1 := by unfold piecesL; rw [← hf]
    rw [hP]
    exact ⟨hu.inl, pA.trans hp⟩
  have hi : i < set.length := by omega
  rw [drop_fold _ set i hi] at hf
  have hym : set.getD i 0 ∈ set := by simp [hi]
  have hyr := hsr _ hym
  have hcy := hss.cell hi
  generalize hy : set.getD i 0 = y at *
  simp (maxSteps := 1000000) (disch := omega) only [h1, h2, h7, h5, h6, hss.ix Try.underlying27 cs3, hcy, Int.toNat_natCast, S, S1, S2, S3, S4, S5, ST, eq_self, reduceIte, reduceCtorEq, Nat.reduceEqDiff, Nat.reduceAdd]
  refine CallH.by (l1Has_c _ st.2 y H' hrq (by omega)) ?_
  rintro _ _ ⟨rfl, rfl⟩
  simp (maxSteps := 1000000) (disch := omega) only [S, S1, S2, S3, S4, S5, ST, eq_self, reduceIte, reduceCtorEq, Nat.reduceEqDiff, Nat.reduceAdd]
  refine brD.intro (fun e => ?_) (fun e => ?_)
  · have hst : pcS es set st y = st := by unfold pcS; rw [if_pos e]
    rw [hst] at hf
    simp (maxSteps := 1000000) (disch := omega) only [h1, h2, h7, h5, h6, wrap64, S, S1, S2, S3, S4, S5, ST, eq_self, reduceIte, reduceCtorEq, Nat.reduceEqDiff, Nat.reduceAdd]
    refine ⟨m - 1, by omega, i + 1, st, oo, vs, q, ?_⟩
    (repeat' first | exact hf | exact hu | exact hq | exact hp | exact hsm | apply And.intro) <;> first | (simp only [Value.int.injEq, true_and]; omega) | omega | rfl | assumption | (simp; done) | (simp; omega)
  have hst : pcS es set st y = (st.1 ++ [reachL es set y], (reachL es set y).foldl put st.2) := by unfold pcS; rw [if_neg e]
  rw [hst] at hf
  have c3 := pre_at hp cA
  simp (maxSteps := 1000000) (disch := omega) only [h1, h2, h7, h5, h6, hss.ix Try.underlying27 cs3, hcy, Int.toNat_natCast, ld_agg ag26 cs26 c3, S, S1, S2, S3, S4, S5, ST, eq_self, reduceIte, reduceCtorEq, Nat.reduceEqDiff, Nat.reduceAdd]
  refine CallH.by (l2Reach_c n v w es set y H' (rA.pre hp) hlen hss hsr hsl hyr) ?_
  rintro pv H2 ⟨ho2, p2⟩
  have hpm := ho2.mine
  have hrs := Sm.reach (es := es) hsr hyr
  have hrl := hrs.len
  generalize hR : reachL es set y = R at *
  simp (maxSteps := 1000000) (disch := omega) only [h1, h2, h7, h5, h6, S, S1, S2, S3, S4, S5, ST, eq_self, reduceIte, reduceCtorEq, Nat.reduceEqDiff, Nat.reduceAdd]
  have hu2 := hu.pre p2
  have hl2 := p2.length_le
  refine LoopH.by (fun m2 s H3 => ∃ k sn q', m2 + k = R.length ∧ s 1 = w ∧ s 2 = .pointer (some ⟨H.length, 0, none⟩) ∧ s 7 = .int .i64 ((i : Nat) : Int) ∧ s 5 = .slice (some ⟨oo, 0, none⟩) st.1.length st.1.length ∧ s 6 = .slice (some ⟨q', 0, none⟩) sn.length sn.length ∧ s 8 = pv ∧ s 9 = .int .i64 ((k : Nat) : Int) ∧ H3[q']? = some (.cells (ints sn) 3 false) ∧ q' ≠ oo ∧ A.length ≤ q' ∧ H2 <+: H3 ∧ Sm sn ∧ (R.drop k).foldl put sn = R.foldl put st.2) R.length ?_ ?_
  · refine ⟨0, st.2, q, by simp, ?_⟩
    simp only [S, S1, S2, S3, S4, S5, ST, eq_self, reduceIte, reduceCtorEq, Nat.reduceEqDiff, Nat.reduceAdd, h1, h2, h7, h5, h6]
    have q2 := pre_at p2 hq
    have q3 := List.prefix_refl H2
    have q4 : (R.drop 0).foldl put st.2 = R.foldl put st.2 := by rw [List.drop_zero]
    (repeat' first | exact q2 | exact q3 | exact q4 | exact hsm | apply And.intro) <;> first | (simp only [Value.int.injEq, true_and]; omega) | omega | rfl | assumption | (simp; done) | (simp; omega)
  rintro m2 s H3 ⟨k, sn, q', hm2, h1, h2, h7, h5, h6, h8, h9, hq', hqo', hAq', hp3, hsn, hfo⟩
  have hpr := ho2.row.pre hp3
  have hsnl := hsn.len
  have hrq' : Row 3 H3 (.slice (some ⟨q', 0, none⟩) sn.length sn.length) sn := .inr ⟨q', 0, ints sn, false, rfl, hq', by rw [ints_len]; omega, by rw [List.drop_zero, ← ints_len, List.take_length]⟩
  have hl3 := hp3.length_le
  simp (maxSteps := 1000000) (disch := omega) only [h1, h2, h7, h5, h6, h8, h9, hpr.len Try.underlying27, S, S1, S2, S3, S4, S5, ST, eq_self, reduceIte, reduceCtorEq, Nat.reduceEqDiff, Nat.reduceAdd]
  refine brD.intro (fun g2 => ?_) (fun g2 => ?_)
  · have hk : k < R.length := by omega
    rw [drop_fold _ R k hk] at hfo
    have hzm : R.getD k 0 ∈ R := by simp [hk]
    have hzr := hrs.2 _ hzm
    have hcz := hpr.cell hk
    generalize hz : R.getD k 0 = z at *
    simp (maxSteps := 1000000) (disch := omega) only [h1, h2, h7, h5, h6, h8, h9, hpr.ix Try.underlying27 cs3, hcz, Int.toNat_natCast, S, S1, S2, S3, S4, S5, ST, eq_self, reduceIte, reduceCtorEq, Nat.reduceEqDiff, Nat.reduceAdd]
    refine CallH.by (l1PutW_c _ sn z H3 hrq' (by omega) hsn.1) ?_
    rintro r4 H4 ⟨hr4, p4⟩
    have hsn4 := hsn.put hzr
    have hp4 := hp3.trans p4
    have hq4 : ∃ q4, r4 = .slice (some ⟨q4, 0, none⟩) (put sn z).length (put sn z).length ∧ H4[q4]? = some (.cells (ints (put sn z)) 3 false) ∧ q4 ≠ oo ∧ A.length ≤ q4 := by
      rcases hr4 with ⟨rfl, e4⟩ | (⟨_, e4⟩ | ⟨q4, e4, g4, c4⟩)
      · rw [e4]
        exact ⟨q', rfl, pre_at p4 hq', hqo', hAq'⟩
      · have : z ∈ put sn z := (put_mem _ _ _).2 (.inl rfl)
        rw [e4] at this; simp at this
      · have := hu.2.1
        exact ⟨q4, e4, c4, by omega, by omega⟩
    obtain ⟨q4, rfl, c4, n4, l4⟩ := hq4
    simp (maxSteps := 1000000) (disch := omega) only [h1, h2, h7, h5, h6, h8, h9, wrap64, S, S1, S2, S3, S4, S5, ST, eq_self, reduceIte, reduceCtorEq, Nat.reduceEqDiff, Nat.reduceAdd]
    refine ⟨m2 - 1, by omega, k + 1, put sn z, q4, ?_⟩
    (repeat' first | exact c4 | exact hp4 | exact hsn4 | exact hfo | apply And.intro) <;> first | (simp only [Value.int.injEq, true_and]; omega) | omega | rfl | assumption | (simp; done) | (simp; omega)
  · rw [List.drop_of_length_le (by omega), List.foldl_nil] at hfo
    rw [← hfo] at hf
    have hu3 := hu2.pre hp3
    have hw3 : InI H'.length H3.length 3 H3 pv R := (InI.of (hpm.pre hp3)).wide (Nat.le_refl _) (Nat.le_refl _)
    have hHA := pA.length_le
    obtain ⟨K2, k1, k2, k3, k4⟩ := hu3.app1 (P := Try.prog) (t2 := 38) Try.underlying38 cs27 (by rw [by27]; decide) zk27 hw3 (by omega) (by omega) (Nat.le_refl _) (by omega)
    simp (maxSteps := 1000000) (disch := omega) only [h1, h2, h7, h5, h6, h8, h9, bsRow hpr H3, k1, wrap64, S, S1, S2, S3, S4, S5, ST, eq_self, reduceIte, reduceCtorEq, Nat.reduceEqDiff, Nat.reduceAdd]
    have g1 : (st.1 ++ [R]).length = st.1.length + 1 := by simp
    have c1 : InU H.length K2.length 27 3 K2 (H3.length + 1) (vs.take st.1.length ++ [pv]) (st.1 ++ [R]) := by rw [k3]; exact k2
    have c2 : K2[q']? = some (.cells (ints sn) 3 false) := k4 _ _ hqo' hq'
    have c5 : A <+: K2 := prefix_of fun o z hz => k4 o z (by have := at_lt hz; omega) (pre_at (hp.trans (p2.trans hp3)) hz)
    have n1 : q' ≠ H3.length + 1 := by have := at_lt hq'; omega
    have n2 : A.length ≤ H3.length + 1 := by omega
    refine ⟨m - 1, by omega, i + 1, (st.1 ++ [R], sn), H3.length + 1, vs.take st.1.length ++ [pv], q', ?_⟩
    simp only [g1]
    (repeat' first | exact hf | exact c1 | exact c2 | exact c5 | exact n1 | exact n2 | exact hsn | apply And.intro) <;> first | (simp only [Value.int.injEq, true_and]; omega) | omega | rfl | assumption | (simp; done) | (simp; omega)
end Go.Proofs.Ytldcbmmmheookaa.Ai
namespace Go.Proofs.Ytldcbmmmheookaa.Ai
open Go
def ords97 : List (Nat × List (Nat × Bool)) := [(4, [(0, false), (1, false), (2, false), (3, false), (4, false), (5, false), (6, true), (7, false), (8, false), (9, false), (10, false), (11, false), (12, false), (13, false), (14, false), (15, false), (16, false), (17, false), (18, false), (19, false), (20, false), (21, false), (22, false), (23, false)])]
def cd97 : Cd := (.seq (.reg [⟨⟨some 6, Op.assign (Operand.const (Value.bool false)), none⟩, []⟩]) (.seq (.seq (.reg [⟨⟨some 7, Op.assign (Operand.const (Value.int IntKind.i64 0)), none⟩, []⟩]) (.block 0 (.loop (.seq (.seq (.reg [⟨⟨some 8, Op.move (Operand.tmp 7), none⟩, []⟩,
  ⟨⟨some 9, Op.move (Operand.tmp 0), none⟩, []⟩,
  ⟨⟨some 10, Op.call { callee := (Callee.builtin Builtin.len), args := #[(Operand.tmp 9)], argTypes := #[27] }, none⟩, []⟩,
  ⟨⟨some 11, Op.binOp BinOp.lss 3 (Operand.tmp 8) (Operand.tmp 10) 3, none⟩, []⟩]) (.cond (Operand.tmp 11) .skip (.exit 0))) (.seq (.block 1 (.seq (.reg [⟨⟨some 14, Op.move (Operand.tmp 0), none⟩, []⟩,
  ⟨⟨some 15, Op.move (Operand.tmp 7), none⟩, []⟩,
  ⟨⟨some 16, Op.indexAddr 27 (Operand.tmp 14) (Operand.tmp 15), none⟩, []⟩,
  ⟨⟨some 17, Op.load 3 (Operand.tmp 16), none⟩, []⟩,
  ⟨⟨some 18, Op.move (Operand.tmp 1), none⟩, []⟩,
  ⟨⟨some 19, Op.move (Operand.tmp 2), none⟩, []⟩,
  ⟨⟨some 20, Op.call { callee := (Callee.value (Operand.func 89)), args := #[(Operand.tmp 17), (Operand.tmp 18), (Operand.tmp 19)], argTypes := #[3, 3, 3] }, none⟩, []⟩,
  ⟨⟨some 21, Op.unOp UnOp.not 4 (Operand.tmp 20), none⟩, []⟩,
  ⟨⟨some 22, Op.move (Operand.tmp 21), none⟩, []⟩,
  ⟨⟨some 23, Op.move (Operand.tmp 7), some (22, false)⟩, []⟩,
  ⟨⟨some 24, Op.binOp BinOp.gtr 3 (Operand.tmp 23) (Operand.const (Value.int IntKind.i64 0)) 3, some (22, false)⟩, []⟩,
  ⟨⟨some 25, Op.move (Operand.tmp 24), some (22, false)⟩, []⟩,
  ⟨⟨some 26, Op.move (Operand.tmp 0), some (25, true)⟩, []⟩,
  ⟨⟨some 27, Op.move (Operand.tmp 7), some (25, true)⟩, []⟩,
  ⟨⟨some 28, Op.binOp BinOp.sub 3 (Operand.tmp 27) (Operand.const (Value.int IntKind.i64 1)) 3, some (25, true)⟩, []⟩,
  ⟨⟨some 29, Op.indexAddr 27 (Operand.tmp 26) (Operand.tmp 28), some (25, true)⟩, []⟩,
  ⟨⟨some 30, Op.load 3 (Operand.tmp 29), some (25, true)⟩, []⟩,
  ⟨⟨some 31, Op.move (Operand.tmp 0), some (25, true)⟩, []⟩,
  ⟨⟨some 32, Op.move (Operand.tmp 7), some (25, true)⟩, []⟩,
  ⟨⟨some 33, Op.indexAddr 27 (Operand.tmp 31) (Operand.tmp 32), some (25, true)⟩, []⟩,
  ⟨⟨some 34, Op.load 3 (Operand.tmp 33), some (25, true)⟩, []⟩,
  ⟨⟨some 35, Op.binOp BinOp.geq 3 (Operand.tmp 30) (Operand.tmp 34) 3, some (25, true)⟩, []⟩,
  ⟨⟨some 36, Op.pick (Operand.tmp 25) (Operand.tmp 35) (Operand.const (Value.bool false)), some (22, false)⟩, []⟩,
  ⟨⟨some 37, Op.pick (Operand.tmp 22) (Operand.const (Value.bool true)) (Operand.tmp 36), none⟩, []⟩]) (.cond (Operand.tmp 37) (.seq (.reg [⟨⟨some 6, Op.assign (Operand.const (Value.bool false)), none⟩, []⟩]) .ret) .skip))) (.reg [⟨⟨some 12, Op.move (Operand.tmp 7), none⟩, []⟩,
  ⟨⟨some 13, Op.binOp BinOp.add 3 (Operand.tmp 12) (Operand.const (Value.int IntKind.i64 1)) 3, none⟩, []⟩,
  ⟨⟨some 7, Op.assign (Operand.tmp 13), none⟩, []⟩])))))) (.seq (.reg [⟨⟨some 6, Op.assign (Operand.const (Value.bool true)), none⟩, []⟩]) .ret)))
theorem sl97 : slim Try.f97.ntmps ords97 (Try.f97.body.getD .skip) = some cd97 := by kernel_rfl
theorem in97 {args : List Value} {H : AH} {R : Value → AH → Prop} (hl : args.length = 3) (h : ∀ (Q : Exit → Sl → AH → Prop), (∀ e s H, endA Try.prog [ResultVar.tmp 6] R e s H → Q e s H) → wpC Try.prog cd97 Q (enterA args) H) : ACalls Try.prog 97 args H R :=
  ACalls.intro (by kernel_rfl) Try.func97 rfl (by kernel_rfl) sl97 hl (of_decide_eq_true (by kernel_rfl)) (by kernel_rfl) h
def ords91 : List (Nat × List (Nat × Bool)) := [(5, [(0, false), (1, false), (2, false), (3, false), (4, false), (5, false), (6, false), (7, false), (8, false), (9, false), (10, false), (11, true), (12, false), (13, true)])]
def cd91 : Cd := (.seq (.reg [⟨⟨some 2, Op.box 26 (Operand.tmp 0), none⟩, []⟩,
  ⟨⟨some 4, Op.alloc 26, none⟩, []⟩]) (.seq (.reg [⟨⟨some 7, Op.fieldAddr 26 (Operand.tmp 2) 0, none⟩, []⟩,
  ⟨⟨some 8, Op.load 3 (Operand.tmp 7), none⟩, []⟩,
  ⟨⟨some 9, Op.buildSlice 24 0 #[], none⟩, []⟩,
  ⟨⟨some 10, Op.build 26 #[(0, (Operand.tmp 8)), (1, (Operand.tmp 9))], none⟩, []⟩,
  ⟨⟨some 5, Op.alloc 26, none⟩, []⟩,
  ⟨⟨none, Op.store 26 (Operand.tmp 5) (Operand.tmp 10), none⟩, []⟩]) (.seq (.seq (.reg [⟨⟨some 6, Op.assign (Operand.const (Value.int IntKind.i64 0)), none⟩, []⟩]) (.block 0 (.loop (.seq (.seq (.reg [⟨⟨some 11, Op.move (Operand.tmp 6), none⟩, []⟩,
  ⟨⟨some 12, Op.move (Operand.tmp 1), none⟩, []⟩,
  ⟨⟨some 13, Op.call { callee := (Callee.builtin Builtin.len), args := #[(Operand.tmp 12)], argTypes := #[27] }, none⟩, []⟩,
  ⟨⟨some 14, Op.binOp BinOp.lss 3 (Operand.tmp 11) (Operand.tmp 13) 3, none⟩, []⟩]) (.cond (Operand.tmp 14) .skip (.exit 0))) (.seq (.block 1 (.reg [⟨⟨some 17, Op.fieldAddr 26 (Operand.tmp 5) 1, none⟩, []⟩,
  ⟨⟨some 18, Op.load 24 (Operand.tmp 17), none⟩, []⟩,
  ⟨⟨some 19, Op.fieldAddr 26 (Operand.tmp 2) 1, none⟩, []⟩,
  ⟨⟨some 20, Op.load 24 (Operand.tmp 19), none⟩, []⟩,
  ⟨⟨some 21, Op.move (Operand.tmp 1), none⟩, []⟩,
  ⟨⟨some 22, Op.move (Operand.tmp 6), none⟩, []⟩,
  ⟨⟨some 23, Op.indexAddr 27 (Operand.tmp 21) (Operand.tmp 22), none⟩, []⟩,
  ⟨⟨some 24, Op.load 3 (Operand.tmp 23), none⟩, []⟩,
  ⟨⟨some 25, Op.indexAddr 24 (Operand.tmp 20) (Operand.tmp 24), none⟩, []⟩,
  ⟨⟨some 26, Op.load 71 (Operand.tmp 25), none⟩, []⟩,
  ⟨⟨some 27, Op.buildSlice 24 1 #[(0, (Operand.tmp 26))], none⟩, []⟩,
  ⟨⟨some 28, Op.call { callee := (Callee.builtin Builtin.append), args := #[(Operand.tmp 18), (Operand.tmp 27)], argTypes := #[24, 24] }, none⟩, []⟩,
  ⟨⟨some 29, Op.fieldAddr 26 (Operand.tmp 5) 1, none⟩, []⟩,
  ⟨⟨none, Op.store 24 (Operand.tmp 29) (Operand.tmp 28), none⟩, []⟩])) (.reg [⟨⟨some 15, Op.move (Operand.tmp 6), none⟩, []⟩,
  ⟨⟨some 16, Op.binOp BinOp.add 3 (Operand.tmp 15) (Operand.const (Value.int IntKind.i64 1)) 3, none⟩, []⟩,
  ⟨⟨some 6, Op.assign (Operand.tmp 16), none⟩, []⟩])))))) (.seq (.reg [⟨⟨some 30, Op.load 26 (Operand.tmp 5), none⟩, []⟩,
  ⟨⟨none, Op.store 26 (Operand.tmp 4) (Operand.tmp 30), none⟩, []⟩]) .ret))))
theorem sl91 : slim Try.f91.ntmps ords91 (Try.f91.body.getD .skip) = some cd91 := by kernel_rfl
set_option maxRecDepth 20000 in
theorem in91 {args : List Value} {H : AH} {R : Value → AH → Prop} (hl : args.length = 2) (h : ∀ (Q : Exit → Sl → AH → Prop), (∀ e s H, endA Try.prog [ResultVar.cell 4 26] R e s H → Q e s H) → wpC Try.prog cd91 Q (enterA args) H) : ACalls Try.prog 91 args H R :=
  ACalls.intro (by kernel_rfl) Try.func91 rfl (by kernel_rfl) sl91 hl (of_decide_eq_true (by kernel_rfl)) (by kernel_rfl) h
def ords52 : List (Nat × List (Nat × Bool)) := [(3, [(0, false), (1, false), (3, false), (4, false), (5, false), (6, false), (7, false), (8, false), (2, true), (9, true), (10, true), (11, false), (12, false), (13, false)])]
def cd52 : Cd := (.seq (.reg [⟨⟨some 2, Op.box 26 (Operand.tmp 0), none⟩, []⟩,
  ⟨⟨some 4, Op.assign (Operand.const (Value.bool false)), none⟩, []⟩]) (.seq (.seq (.reg [⟨⟨some 5, Op.move (Operand.tmp 1), none⟩, []⟩,
  ⟨⟨some 6, Op.call { callee := (Callee.builtin Builtin.len), args := #[(Operand.tmp 5)], argTypes := #[27] }, none⟩, []⟩,
  ⟨⟨some 7, Op.fieldAddr 26 (Operand.tmp 2) 0, none⟩, []⟩,
  ⟨⟨some 8, Op.load 3 (Operand.tmp 7), none⟩, []⟩,
  ⟨⟨some 9, Op.binOp BinOp.sub 3 (Operand.tmp 8) (Operand.const (Value.int IntKind.i64 1)) 3, none⟩, []⟩,
  ⟨⟨some 10, Op.binOp BinOp.neq 3 (Operand.tmp 6) (Operand.tmp 9) 3, none⟩, []⟩,
  ⟨⟨some 11, Op.move (Operand.tmp 10), none⟩, []⟩,
  ⟨⟨some 12, Op.move (Operand.tmp 1), some (11, false)⟩, []⟩,
  ⟨⟨some 13, Op.fieldAddr 26 (Operand.tmp 2) 1, some (11, false)⟩, []⟩,
  ⟨⟨some 14, Op.load 24 (Operand.tmp 13), some (11, false)⟩, []⟩,
  ⟨⟨some 15, Op.call { callee := (Callee.builtin Builtin.len), args := #[(Operand.tmp 14)], argTypes := #[24] }, some (11, false)⟩, []⟩,
  ⟨⟨some 16, Op.binOp BinOp.sub 3 (Operand.tmp 15) (Operand.const (Value.int IntKind.i64 1)) 3, some (11, false)⟩, []⟩,
  ⟨⟨some 17, Op.call { callee := (Callee.value (Operand.func 97)), args := #[(Operand.tmp 12), (Operand.const (Value.int IntKind.i64 0)), (Operand.tmp 16)], argTypes := #[27, 3, 3] }, some (11, false)⟩, []⟩,
  ⟨⟨some 18, Op.unOp UnOp.not 4 (Operand.tmp 17), some (11, false)⟩, []⟩,
  ⟨⟨some 19, Op.pick (Operand.tmp 11) (Operand.const (Value.bool true)) (Operand.tmp 18), none⟩, []⟩]) (.cond (Operand.tmp 19) (.seq (.reg [⟨⟨some 4, Op.assign (Operand.const (Value.bool false)), none⟩, []⟩]) .ret) .skip)) (.seq (.reg [⟨⟨some 20, Op.load 26 (Operand.tmp 2), none⟩, []⟩,
  ⟨⟨some 21, Op.move (Operand.tmp 1), none⟩, []⟩,
  ⟨⟨some 23, Op.fieldAddr 26 (Operand.tmp 2) 0, none⟩, []⟩,
  ⟨⟨some 24, Op.load 3 (Operand.tmp 23), none⟩, []⟩,
  ⟨⟨some 25, Op.fieldAddr 26 (Operand.tmp 2) 0, none⟩, []⟩,
  ⟨⟨some 26, Op.load 3 (Operand.tmp 25), none⟩, []⟩,
  ⟨⟨some 27, Op.binOp BinOp.shl 3 (Operand.const (Value.int IntKind.i64 1)) (Operand.tmp 26) 3, none⟩, []⟩,
  ⟨⟨some 28, Op.binOp BinOp.sub 3 (Operand.tmp 27) (Operand.const (Value.int IntKind.i64 1)) 3, none⟩, []⟩,
  ⟨⟨some 22, Op.call { callee := (Callee.value (Operand.func 91)), args := #[(Operand.tmp 20), (Operand.tmp 21)], argTypes := #[26, 27] }, none⟩, [⟨some 26, Op.load 3 (Operand.tmp 25), none⟩, ⟨some 24, Op.load 3 (Operand.tmp 23), none⟩]⟩,
  ⟨⟨some 29, Op.call { callee := (Callee.value (Operand.func 99)), args := #[(Operand.tmp 24), (Operand.tmp 28)], argTypes := #[3, 3] }, none⟩, []⟩,
  ⟨⟨some 30, Op.call { callee := (Callee.value (Operand.func 98)), args := #[(Operand.tmp 22), (Operand.tmp 29)], argTypes := #[26, 27] }, none⟩, []⟩,
  ⟨⟨some 31, Op.call { callee := (Callee.builtin Builtin.len), args := #[(Operand.tmp 30)], argTypes := #[38] }, none⟩, []⟩,
  ⟨⟨some 32, Op.binOp BinOp.eql 3 (Operand.tmp 31) (Operand.const (Value.int IntKind.i64 1)) 3, none⟩, []⟩,
  ⟨⟨some 4, Op.assign (Operand.tmp 32), none⟩, []⟩]) .ret)))
theorem sl52 : slim Try.f52.ntmps ords52 (Try.f52.body.getD .skip) = some cd52 := by kernel_rfl
theorem in52 {args : List Value} {H : AH} {R : Value → AH → Prop} (hl : args.length = 2) (h : ∀ (Q : Exit → Sl → AH → Prop), (∀ e s H, endA Try.prog [ResultVar.tmp 4] R e s H → Q e s H) → wpC Try.prog cd52 Q (enterA args) H) : ACalls Try.prog 52 args H R :=
  ACalls.intro (by kernel_rfl) Try.func52 rfl (by kernel_rfl) sl52 hl (of_decide_eq_true (by kernel_rfl)) (by kernel_rfl) h
def ords51 : List (Nat × List (Nat × Bool)) := []
def cd51 : Cd := (.seq (.reg [⟨⟨some 1, Op.box 26 (Operand.tmp 0), none⟩, []⟩,
  ⟨⟨some 2, Op.assign (Operand.const (Value.bool false)), none⟩, []⟩]) (.seq (.reg [⟨⟨some 3, Op.load 26 (Operand.tmp 1), none⟩, []⟩,
  ⟨⟨some 4, Op.call { callee := (Callee.value (Operand.func 96)), args := #[(Operand.tmp 3)], argTypes := #[26] }, none⟩, []⟩,
  ⟨⟨some 5, Op.move (Operand.tmp 4), none⟩, []⟩,
  ⟨⟨some 6, Op.fieldAddr 26 (Operand.tmp 1) 0, some (5, true)⟩, []⟩,
  ⟨⟨some 7, Op.load 3 (Operand.tmp 6), some (5, true)⟩, []⟩,
  ⟨⟨some 8, Op.binOp BinOp.gtr 3 (Operand.tmp 7) (Operand.const (Value.int IntKind.i64 0)) 3, some (5, true)⟩, []⟩,
  ⟨⟨some 9, Op.pick (Operand.tmp 5) (Operand.tmp 8) (Operand.const (Value.bool false)), none⟩, []⟩,
  ⟨⟨some 2, Op.assign (Operand.tmp 9), none⟩, []⟩]) .ret))
theorem sl51 : slim Try.f51.ntmps ords51 (Try.f51.body.getD .skip) = some cd51 := by kernel_rfl
theorem in51 {args : List Value} {H : AH} {R : Value → AH → Prop} (hl : args.length = 1) (h : ∀ (Q : Exit → Sl → AH → Prop), (∀ e s H, endA Try.prog [ResultVar.tmp 2] R e s H → Q e s H) → wpC Try.prog cd51 Q (enterA args) H) : ACalls Try.prog 51 args H R :=
  ACalls.intro (by kernel_rfl) Try.func51 rfl (by kernel_rfl) sl51 hl (of_decide_eq_true (by kernel_rfl)) (by kernel_rfl) h
end Go.Proofs.Ytldcbmmmheookaa.Ai
namespace Go.Proofs.Ytldcbmmmheookaa.Ai
open Go Go.RowKit
set_option linter.unusedVariables false
set_option linter.unusedSimpArgs false
theorem l1Rising_c (v : Value) (ys : List Int) (n : Int) (H : AH) (hn : 0 ≤ n ∧ n ≤ 1099511627776) (hr : Row 3 H v ys) (hlen : ys.length ≤ 1099511627776) :
    ACalls Try.prog 97 [v, .int .i64 0, .int .i64 (n - 1)] H fun r H' => r = .bool (decide (Rsg n ys)) ∧ H = H' := by
  refine in97 rfl ?_
  intro Q hQ
  simp (maxSteps := 1000000) (disch := omega) only [cd97, S, S1, S2, S3, S4, S5, ST, eq_self, reduceIte, reduceCtorEq, Nat.reduceEqDiff, Nat.reduceAdd]
  refine LoopH.by (fun m s H' => ∃ i, m + i = ys.length ∧ s 0 = v ∧ s 1 = .int .i64 0 ∧ s 2 = .int .i64 (n - 1) ∧ s 7 = .int .i64 ((i : Nat) : Int) ∧ H = H' ∧ ∀ j, j < i → (0 ≤ ys.getD j 0 ∧ ys.getD j 0 ≤ n - 1) ∧ (0 < j → ys.getD (j - 1) 0 < ys.getD j 0)) ys.length ?_ ?_
  · exact ⟨0, by simp, rfl, rfl, rfl, rfl, rfl, by omega⟩
  · rintro m s H' ⟨i, hm, h0, h1, h2, h7, rfl, hj⟩
    simp (maxSteps := 1000000) (disch := omega) only [h0, h1, h2, h7, hr.len Try.underlying27, S, S1, S2, S3, S4, S5, ST, eq_self, reduceIte, reduceCtorEq, Nat.reduceEqDiff, Nat.reduceAdd]
    refine brD.intro (fun g => ?_) (fun g => ?_)
    · have hi : i < ys.length := by omega
      have hp : ((i : Int) - 1).toNat = i - 1 := by omega
      have bad : ¬ ((0 ≤ ys.getD i 0 ∧ ys.getD i 0 ≤ n - 1) ∧ (0 < i → ys.getD (i - 1) 0 < ys.getD i 0)) → decide (Rsg n ys) = false := fun h => decide_eq_false fun hh => h (hh i hi)
      have nxt : ((0 ≤ ys.getD i 0 ∧ ys.getD i 0 ≤ n - 1) ∧ (0 < i → ys.getD (i - 1) 0 < ys.getD i 0)) → ∀ j, j < i + 1 → (0 ≤ ys.getD j 0 ∧ ys.getD j 0 ≤ n - 1) ∧ (0 < j → ys.getD (j - 1) 0 < ys.getD j 0) := by
        intro h j hjj
        by_cases e : j = i
        · subst e; exact h
        · exact hj j (by omega)
      simp (maxSteps := 1000000) (disch := omega) only [h0, h1, h2, h7, hr.ix Try.underlying27 cs3, hr.cell, Int.toNat_natCast, wrap64, S, S1, S2, S3, S4, S5, ST, eq_self, reduceIte, reduceCtorEq, Nat.reduceEqDiff, Nat.reduceAdd]
      refine CallH.by (l1In_c ..) ?_
      rintro _ _ ⟨rfl, rfl⟩
      by_cases e : 0 ≤ ys.getD i 0 ∧ ys.getD i 0 ≤ n - 1
      rotate_left
      · simp (maxSteps := 1000000) (disch := omega) only [decide_eq_false e, S, S1, S2, S3, S4, S5, ST, eq_self, reduceIte, reduceCtorEq, Nat.reduceEqDiff, Nat.reduceAdd]
        refine hQ _ _ _ ?_
        simp (maxSteps := 1000000) (disch := omega) only [S, S1, S2, S3, S4, S5, ST, eq_self, reduceIte, reduceCtorEq, Nat.reduceEqDiff, Nat.reduceAdd]
        rw [bad (fun h => e h.1)]
      simp (maxSteps := 1000000) (disch := omega) only [decide_eq_true e, h0, h1, h2, h7, S, S1, S2, S3, S4, S5, ST, eq_self, reduceIte, reduceCtorEq, Nat.reduceEqDiff, Nat.reduceAdd]
      refine brD.intro (fun q => ?_) (fun q => ?_) <;> simp (maxSteps := 1000000) (disch := omega) only [q, h0, h1, h2, h7, hr.ix Try.underlying27 cs3, hr.cell, hp, Int.toNat_natCast, wrap64, S, S1, S2, S3, S4, S5, ST, eq_self, reduceIte, reduceCtorEq, Nat.reduceEqDiff, Nat.reduceAdd]
      · refine brD.intro (fun z => ?_) (fun z => ?_) <;> simp (maxSteps := 1000000) (disch := omega) only [q, z, h0, h1, h2, h7, wrap64, S, S1, S2, S3, S4, S5, ST, eq_self, reduceIte, reduceCtorEq, Nat.reduceEqDiff, Nat.reduceAdd]
        · refine hQ _ _ _ ?_
          simp (maxSteps := 1000000) (disch := omega) only [S, S1, S2, S3, S4, S5, ST, eq_self, reduceIte, reduceCtorEq, Nat.reduceEqDiff, Nat.reduceAdd]
          rw [bad (fun h => by have := h.2 (by omega); omega)]
        · have fx := nxt ⟨e, fun _ => by omega⟩
          refine ⟨m - 1, by omega, i + 1, ?_⟩
          (repeat' apply And.intro) <;> first | exact fx | (simp only [Value.int.injEq, true_and]; omega) | omega | rfl | assumption | (simp; done) | (simp; omega)
      · have fx := nxt ⟨e, fun _ => by omega⟩
        refine ⟨m - 1, by omega, i + 1, ?_⟩
        (repeat' apply And.intro) <;> first | exact fx | (simp only [Value.int.injEq, true_and]; omega) | omega | rfl | assumption | (simp; done) | (simp; omega)
    · simp (maxSteps := 1000000) (disch := omega) only [S, S1, S2, S3, S4, S5, ST, eq_self, reduceIte, reduceCtorEq, Nat.reduceEqDiff, Nat.reduceAdd]
      refine hQ _ _ _ ?_
      simp (maxSteps := 1000000) (disch := omega) only [S, S1, S2, S3, S4, S5, ST, eq_self, reduceIte, reduceCtorEq, Nat.reduceEqDiff, Nat.reduceAdd]
      have : Rsg n ys := fun j hjj => hj j (by omega)
      simp [this]
theorem bld_gr (n : Int) (p : Option Addr) (k c : Nat) : buildA Try.prog 26 [(0, .int .i64 n), (1, .slice p k c)] = some (.agg (List.toArray [.int .i64 n, .slice p k c])) := by kernel_rfl
theorem prt_len (es : List (Int × Int)) (T : List Int) : (prtG es T).length = T.length := by simp [prtG]
set_option maxRecDepth 20000 in
set_option maxHeartbeats 4000000 in
theorem l7Part_c (n : Int) (v w : Value) (es : List (Int × Int)) (T : List Int) (H : AH) (hr : RowP 71 H v es) (hw : Row 3 H w T) (hT : EdIn es T) (hlen : T.length ≤ 1000000) :
    ACalls Try.prog 91 [.agg (List.toArray [.int .i64 n, v]), w] H fun r H' => ∃ b, r = .agg (List.toArray [.int .i64 n, b]) ∧ MineP 71 H H' b (prtG es T) ∧ H <+: H' := by
  refine in91 rfl ?_
  intro Q hQ
  simp (maxSteps := 1000000) (disch := omega) only [cd91, hr.boxG, S, S1, S2, S3, S4, S5, ST, eq_self, reduceIte, reduceCtorEq, Nat.reduceEqDiff, Nat.reduceAdd]
  generalize hB : H ++ [AObj.cells [.int .i64 n, v] 26 false] = B
  have pB : H <+: B := by rw [← hB]; exact List.prefix_append _ _
  have cB : B[H.length]? = some (.cells [.int .i64 n, v] 26 false) := by rw [← hB]; exact at_new ..
  have rB := hr.pre pB
  simp (maxSteps := 1000000) (disch := omega) only [alloc_G, cell_of cB, S, S1, S2, S3, S4, S5, ST, eq_self, reduceIte, reduceCtorEq, Nat.reduceEqDiff, Nat.reduceAdd]
  generalize hA : B ++ [AObj.cells [.int .i64 0, .slice none 0 0] 26 false] = A
  have pBA : B <+: A := by rw [← hA]; exact List.prefix_append _ _
  have cA : A[B.length]? = some (.cells [.int .i64 0, .slice none 0 0] 26 false) := by rw [← hA]; exact at_new ..
  have lA : A.length = B.length + 1 := by rw [← hA]; simp
  have gA := pre_at pBA cB
  simp (maxSteps := 1000000) (disch := omega) only [cell_of gA, S, S1, S2, S3, S4, S5, ST, eq_self, reduceIte, reduceCtorEq, Nat.reduceEqDiff, Nat.reduceAdd]
  generalize hE : A ++ [AObj.cells [] 71 false] = E
  have pE : A <+: E := by rw [← hE]; exact List.prefix_append _ _
  have lE : E.length = A.length + 1 := by rw [← hE]; simp
  have m0 : MineP 71 A E (.slice (some ⟨A.length, 0, none⟩) 0 0) [] := by rw [← hE]; exact MineP.nil0 (P := Try.prog) A A (Nat.le_refl _)
  have hb2 := bld_gr n (some ⟨A.length, 0, none⟩) 0 0
  have st1 := st_G m0.row (at_new E (.cells [.int .i64 0, .slice none 0 0] 26 false)) rfl n
  rw [set_new] at st1
  simp (maxSteps := 1000000) (disch := omega) only [hb2, alloc_G, st1, S, S1, S2, S3, S4, S5, ST, eq_self, reduceIte, reduceCtorEq, Nat.reduceEqDiff, Nat.reduceAdd]
  generalize hG : E ++ [AObj.cells [.int .i64 n, .slice (some ⟨A.length, 0, none⟩) 0 0] 26 false] = G
  have pG : E <+: G := by rw [← hG]; exact List.prefix_append _ _
  have cG : G[E.length]? = some (.cells [.int .i64 n, .slice (some ⟨A.length, 0, none⟩) 0 0] 26 false) := by rw [← hG]; exact at_new ..
  have lG : G.length = E.length + 1 := by rw [← hG]; simp
  have pAG := pE.trans pG
  have pHA := pB.trans pBA
  refine LoopH.by (fun m s H' => ∃ i st, m + i = T.length ∧ s 1 = w ∧ s 2 = .pointer (some ⟨H.length, 0, none⟩) ∧ s 4 = .pointer (some ⟨B.length, 0, none⟩) ∧ s 5 = .pointer (some ⟨E.length, 0, none⟩) ∧ s 6 = .int .i64 ((i : Nat) : Int) ∧ H'[E.length]? = some (.cells [.int .i64 n, st] 26 false) ∧ (rowO st = A.length ∨ G.length ≤ rowO st) ∧ st ≠ .slice none 0 0 ∧ MineP 71 A H' st (prtG es (T.take i)) ∧ A <+: H') T.length ?_ ?_
  · exact ⟨0, .slice (some ⟨A.length, 0, none⟩) 0 0, by simp, rfl, rfl, rfl, rfl, rfl, cG, .inl rfl, (by intro e; cases e), m0.pre pG, pAG⟩
  rintro m s H' ⟨i, st, hm, s1, s2, s4, s5, s6, hc5, hst, hsn, hmn, hpp⟩
  have wH := hw.pre (pHA.trans hpp)
  have rH := rB.pre (pBA.trans hpp)
  have gH := pre_at hpp gA
  simp (maxSteps := 1000000) (disch := omega) only [s1, s2, s4, s5, s6, wH.len Try.underlying27, S, S1, S2, S3, S4, S5, ST, eq_self, reduceIte, reduceCtorEq, Nat.reduceEqDiff, Nat.reduceAdd]
  refine brD.intro (fun g => ?_) (fun g => ?_)
  · have hi : i < T.length := by omega
    have hcw := wH.cell hi
    have hmem : T.getD i 0 ∈ T := by simp [hi]
    have her := hT _ hmem
    have htk : T.take (i + 1) = T.take i ++ [T.getD i 0] := by rw [List.take_succ_eq_append_getElem hi]; simp [hi]
    have hi2 : (T.getD i 0).toNat < es.length := by omega
    obtain ⟨st2, H3, k1, k2, k3, k4, k5, k6⟩ := own1_24 hmn hpp (by rw [prt_len, List.length_take]; omega) (es.getD (T.getD i 0).toNat (0, 0)).1 (es.getD (T.getD i 0).toNat (0, 0)).2
    have l5 := at_lt hc5
    have lH := hpp.length_le
    have hne : E.length ≠ rowO st := by omega
    have d5 : H3[E.length]? = some (.cells [.int .i64 n, st] 26 false) := k4 _ _ (.inr hne) hc5
    obtain ⟨q2, hq2⟩ := k2.row.shape
    have t2 : st2.cells.toList = [st2] := by rw [hq2]; rfl
    have hst3 := st_at (P := Try.prog) (t := 24) (i := 1) (y := st2) cs24 d5 (by show 1 < 2; decide) k6 t2
    simp (maxSteps := 1000000) (disch := omega) only [s1, s2, s4, s5, s6, cell_of hc5, cell_of gH, wH.ix Try.underlying27 cs3, hcw, Int.toNat_natCast, rH.ix Try.underlying24 cs71, rH.ld ag71 cs71 hi2, k1, hst3, wrap64, S, S1, S2, S3, S4, S5, ST, eq_self, reduceIte, reduceCtorEq, Nat.reduceEqDiff, Nat.reduceAdd]
    have f5 : (H3.set E.length (.cells ([.int .i64 n, st].set 1 st2) 26 false))[E.length]? = some (.cells [.int .i64 n, st2] 26 false) := by
      rw [List.getElem?_set_self (at_lt d5)]; rfl
    have fs1 : rowO st2 = A.length ∨ G.length ≤ rowO st2 := .inr (by omega)
    have fs2 : st2 ≠ .slice none 0 0 := by
      intro hh
      rw [hh] at k5
      have : rowO (Value.slice none 0 0) = 0 := rfl
      omega
    have fm : MineP 71 A (H3.set E.length (.cells ([.int .i64 n, st].set 1 st2) 26 false)) st2 (prtG es (T.take (i + 1))) := by
      have e1 : prtG es (T.take (i + 1)) = prtG es (T.take i) ++ [((es.getD (T.getD i 0).toNat (0, 0)).1, (es.getD (T.getD i 0).toNat (0, 0)).2)] := by rw [htk]; simp [prtG]
      rw [e1]
      exact k2.keepL fun hl y hy => by rw [List.getElem?_set_ne (by omega)]; exact hy
    have fp : A <+: H3.set E.length (.cells ([.int .i64 n, st].set 1 st2) 26 false) := pre_set k3 (by omega) _
    refine ⟨m - 1, by omega, i + 1, st2, ?_⟩
    (repeat' first | exact f5 | exact fs1 | exact fs2 | exact fm | exact fp | apply And.intro) <;> first | (simp only [Value.int.injEq, true_and]; omega) | omega | rfl | assumption | (simp; done) | (simp; omega)
  · have hi : i = T.length := by omega
    subst hi
    rw [List.take_length] at hmn
    have cAH := pre_at hpp cA
    have hstore := st_G hmn.row cAH rfl n
    simp (maxSteps := 1000000) (disch := omega) only [s1, s2, s4, s5, s6, ld_agg ag26 cs26 hc5, hstore, S, S1, S2, S3, S4, S5, ST, eq_self, reduceIte, reduceCtorEq, Nat.reduceEqDiff, Nat.reduceAdd]
    have d4 := at_set (d := .cells [.int .i64 n, st] 26 false) cAH
    have lH' := hpp.length_le
    refine hQ _ _ _ (end_cell _ _ _ _ _ _ (.agg (List.toArray [.int .i64 n, st])) ?_ rfl ⟨st, rfl, ?_, ?_⟩)
    · simp (maxSteps := 1000000) (disch := omega) only [s4, ld_agg ag26 cs26 d4, S, S1, S2, S3, S4, S5, ST, eq_self, reduceIte, reduceCtorEq, Nat.reduceEqDiff, Nat.reduceAdd]
    · refine (hmn.base pHA).keep fun y hy => ?_
      rw [List.getElem?_set_ne (by omega)]; exact hy
    · exact pre_set (pHA.trans hpp) (by have := pB.length_le; omega) _
set_option maxHeartbeats 2000000 in
theorem l7Tree_c (n : Nat) (hn : 1 ≤ n) (v w : Value) (es : List (Int × Int)) (T : List Int) (H : AH) (hr : RowP 71 H v es) (hg : Grd (n : Int) es) (hw : Row 3 H w T) (hlen : T.length ≤ 1099511627776) :
    ACalls Try.prog 52 [.agg (List.toArray [.int .i64 (n : Int), v]), w] H fun r H' => r = .bool (decide (TreL n es T)) ∧ H <+: H' := by
  have h28 : es.length ≤ 28 := grd_len hg
  have hn8 : n ≤ 8 := by have := hg.1; omega
  refine in52 rfl ?_
  intro Q hQ
  simp (maxSteps := 1000000) (disch := omega) only [cd52, hr.boxG, hw.len Try.underlying27, S, S1, S2, S3, S4, S5, ST, eq_self, reduceIte, reduceCtorEq, Nat.reduceEqDiff, Nat.reduceAdd]
  generalize hA : H ++ [AObj.cells [.int .i64 n, v] 26 false] = A
  have pA : H <+: A := by rw [← hA]; exact List.prefix_append _ _
  have cA : A[H.length]? = some (.cells [.int .i64 n, v] 26 false) := by rw [← hA]; exact at_new ..
  have rA := hr.pre pA
  have wA := hw.pre pA
  have hw1 : IntKind.i64.wrap ((n : Int) - 1) = (n : Int) - 1 := wrap64 (by omega) (by omega)
  have hw2 : IntKind.i64.wrap ((es.length : Int) - 1) = (es.length : Int) - 1 := wrap64 (by omega) (by omega)
  simp (maxSteps := 1000000) (disch := omega) only [cell_of cA, hw1, S, S1, S2, S3, S4, S5, ST, eq_self, reduceIte, reduceCtorEq, Nat.reduceEqDiff, Nat.reduceAdd]
  by_cases e1 : (T.length : Int) = (n : Int) - 1
  rotate_left
  · simp (maxSteps := 1000000) (disch := omega) only [decide_eq_true (show (T.length : Int) ≠ (n : Int) - 1 from e1), S, S1, S2, S3, S4, S5, ST, eq_self, reduceIte, reduceCtorEq, Nat.reduceEqDiff, Nat.reduceAdd]
    refine hQ _ _ _ ?_
    simp (maxSteps := 1000000) (disch := omega) only [S, S1, S2, S3, S4, S5, ST, eq_self, reduceIte, reduceCtorEq, Nat.reduceEqDiff, Nat.reduceAdd]
    refine ⟨?_, pA⟩
    rw [decide_eq_false fun h => e1 (by have := h.1; omega)]
  have e1' : ¬ ¬ (T.length : Int) = (n : Int) - 1 := fun h => h e1
  simp (maxSteps := 1000000) (disch := omega) only [decide_eq_false e1', cell_of cA, rA.len Try.underlying24, hw2, S, S1, S2, S3, S4, S5, ST, eq_self, reduceIte, reduceCtorEq, Nat.reduceEqDiff, Nat.reduceAdd]
  refine CallH.by (l1Rising_c w T es.length A (by omega) wA hlen) ?_
  rintro _ _ ⟨rfl, rfl⟩
  by_cases e2 : Rsg es.length T
  rotate_left
  · simp (maxSteps := 1000000) (disch := omega) only [decide_eq_false e2, S, S1, S2, S3, S4, S5, ST, eq_self, reduceIte, reduceCtorEq, Nat.reduceEqDiff, Nat.reduceAdd]
    refine hQ _ _ _ ?_
    simp (maxSteps := 1000000) (disch := omega) only [S, S1, S2, S3, S4, S5, ST, eq_self, reduceIte, reduceCtorEq, Nat.reduceEqDiff, Nat.reduceAdd]
    refine ⟨?_, pA⟩
    rw [decide_eq_false fun h => e2 ((rsg_asc _ _).2 ⟨h.2.1, h.2.2.1⟩)]
  obtain ⟨hasc, hin⟩ := (rsg_asc _ _).1 e2
  have hin : EdIn es T := hin
  have pw : 2 ^ n ≤ 2 ^ 8 := Nat.pow_le_pow_right (by decide) hn8
  have pw1 : 1 ≤ 2 ^ n := Nat.one_le_two_pow
  have hw3 : IntKind.i64.wrap (((2 ^ n : Nat) : Int) - 1) = ((2 ^ n : Nat) : Int) - 1 := wrap64 (by omega) (by omega)
  simp (maxSteps := 1000000) (disch := omega) only [decide_eq_true e2, cell_of cA, ld_agg ag26 cs26 cA, shl1 _ _ n hn8, hw3, S, S1, S2, S3, S4, S5, ST, eq_self, reduceIte, reduceCtorEq, Nat.reduceEqDiff, Nat.reduceAdd]
  refine CallH.by (l7Part_c n v w es T A rA wA hin (by omega)) ?_
  rintro _ B ⟨b, rfl, hb, pB⟩
  have cB := pre_at pB cA
  simp (maxSteps := 1000000) (disch := omega) only [cell_of cB, S, S1, S2, S3, S4, S5, ST, eq_self, reduceIte, reduceCtorEq, Nat.reduceEqDiff, Nat.reduceAdd]
  refine CallH.by (l2Bits_c n _ B hn8 rfl) ?_
  rintro u D ⟨hu, pD⟩
  simp (maxSteps := 1000000) (disch := omega) only [S, S1, S2, S3, S4, S5, ST, eq_self, reduceIte, reduceCtorEq, Nat.reduceEqDiff, Nat.reduceAdd]
  refine CallH.by (l2Pieces_c n b u (prtG es T) (alls n) D (hb.row.pre pD) (by rw [prt_len]; omega) hu.row (fun z hz => by have := (alls_mem _ _).1 hz; omega) (by rw [alls_len]; exact hn8)) ?_
  rintro x E ⟨hx, pE⟩
  obtain ⟨us, r1, r2, r3⟩ := hx.parts
  simp (maxSteps := 1000000) (disch := omega) only [r1.len Try.underlying38, S, S1, S2, S3, S4, S5, ST, eq_self, reduceIte, reduceCtorEq, Nat.reduceEqDiff, Nat.reduceAdd]
  refine hQ _ _ _ ?_
  simp (maxSteps := 1000000) (disch := omega) only [S, S1, S2, S3, S4, S5, ST, eq_self, reduceIte, reduceCtorEq, Nat.reduceEqDiff, Nat.reduceAdd]
  refine ⟨?_, pA.trans (pB.trans (pD.trans pE))⟩
  have := pieces_one hn hg hin
  rw [Value.bool.injEq, decide_eq_decide]
  have hl : T.length + 1 = n := by omega
  constructor
  · intro h
    exact ⟨hl, hasc, hin, this.1 (by omega)⟩
  · intro h
    have := this.2 h.2.2.2
    omega
theorem l7Some_c (n : Int) (v : Value) (es : List (Int × Int)) (H : AH) (hr : RowP 71 H v es) (hl : es.length ≤ 1099511627776) :
    ACalls Try.prog 51 [.agg (List.toArray [.int .i64 n, v])] H fun r H' => r = .bool (decide (Grd n es ∧ 0 < n)) ∧ H <+: H' := by
  refine in51 rfl ?_
  intro Q hQ
  simp (maxSteps := 1000000) (disch := omega) only [cd51, hr.boxG, S, S1, S2, S3, S4, S5, ST, eq_self, reduceIte, reduceCtorEq, Nat.reduceEqDiff, Nat.reduceAdd]
  generalize hA : H ++ [AObj.cells [.int .i64 n, v] 26 false] = A
  have pA : H <+: A := by rw [← hA]; exact List.prefix_append _ _
  have cA : A[H.length]? = some (.cells [.int .i64 n, v] 26 false) := by rw [← hA]; exact at_new ..
  have rA := hr.pre pA
  simp (maxSteps := 1000000) (disch := omega) only [ld_agg ag26 cs26 cA, S, S1, S2, S3, S4, S5, ST, eq_self, reduceIte, reduceCtorEq, Nat.reduceEqDiff, Nat.reduceAdd]
  refine CallH.by (l2Good_c n v es A rA hl) ?_
  rintro _ B ⟨rfl, pB⟩
  have cB := pre_at pB cA
  by_cases e : Grd n es
  rotate_left
  · simp (maxSteps := 1000000) (disch := omega) only [decide_eq_false e, S, S1, S2, S3, S4, S5, ST, eq_self, reduceIte, reduceCtorEq, Nat.reduceEqDiff, Nat.reduceAdd]
    refine hQ _ _ _ ?_
    simp (maxSteps := 1000000) (disch := omega) only [S, S1, S2, S3, S4, S5, ST, eq_self, reduceIte, reduceCtorEq, Nat.reduceEqDiff, Nat.reduceAdd]
    refine ⟨?_, pA.trans pB⟩
    rw [decide_eq_false fun h : Grd n es ∧ 0 < n => e h.1]
  simp (maxSteps := 1000000) (disch := omega) only [decide_eq_true e, cell_of cB, S, S1, S2, S3, S4, S5, ST, eq_self, reduceIte, reduceCtorEq, Nat.reduceEqDiff, Nat.reduceAdd]
  refine hQ _ _ _ ?_
  simp (maxSteps := 1000000) (disch := omega) only [S, S1, S2, S3, S4, S5, ST, eq_self, reduceIte, reduceCtorEq, Nat.reduceEqDiff, Nat.reduceAdd]
  refine ⟨?_, pA.trans pB⟩
  rw [Value.bool.injEq, decide_eq_decide]
  exact ⟨fun h => ⟨e, h⟩, fun h => h.2⟩
end Go.Proofs.Ytldcbmmmheookaa.Ai
namespace Go.Proofs.Ytldcbmmmheookaa.Ai
open Go
def ords88 : List (Nat × List (Nat × Bool)) := []
def cd88 : Cd := (.seq (.reg [⟨⟨some 4, Op.assign (Operand.const (Value.int IntKind.i64 0)), none⟩, []⟩]) (.seq (.seq (.reg [⟨⟨some 6, Op.move (Operand.tmp 0), none⟩, []⟩,
  ⟨⟨some 7, Op.call { callee := (Callee.builtin Builtin.len), args := #[(Operand.tmp 6)], argTypes := #[27] }, none⟩, []⟩,
  ⟨⟨some 8, Op.move (Operand.const (Value.int IntKind.i64 0)), none⟩, []⟩]) (.block 0 (.loop (.seq (.reg [⟨⟨some 9, Op.binOp BinOp.lss 3 (Operand.tmp 8) (Operand.tmp 7) 3, none⟩, []⟩]) (.seq (.cond (Operand.tmp 9) .skip (.exit 0)) (.seq (.block 1 (.seq (.reg [⟨⟨some 10, Op.move (Operand.tmp 8), none⟩, []⟩,
  ⟨⟨some 5, Op.assign (Operand.tmp 10), none⟩, []⟩]) (.seq (.reg [⟨⟨some 11, Op.move (Operand.tmp 1), none⟩, []⟩,
  ⟨⟨some 12, Op.move (Operand.tmp 0), none⟩, []⟩,
  ⟨⟨some 13, Op.move (Operand.tmp 5), none⟩, []⟩,
  ⟨⟨some 14, Op.indexAddr 27 (Operand.tmp 12) (Operand.tmp 13), none⟩, []⟩,
  ⟨⟨some 15, Op.load 3 (Operand.tmp 14), none⟩, []⟩,
  ⟨⟨some 16, Op.binOp BinOp.eql 3 (Operand.tmp 11) (Operand.tmp 15) 3, none⟩, []⟩]) (.cond (Operand.tmp 16) (.seq (.reg [⟨⟨some 17, Op.move (Operand.tmp 5), none⟩, []⟩,
  ⟨⟨some 4, Op.assign (Operand.tmp 17), none⟩, []⟩]) .ret) .skip)))) (.reg [⟨⟨some 18, Op.binOp BinOp.add 3 (Operand.tmp 8) (Operand.const (Value.int IntKind.i64 1)) 3, none⟩, []⟩,
  ⟨⟨some 8, Op.move (Operand.tmp 18), none⟩, []⟩]))))))) (.seq (.reg [⟨⟨some 4, Op.assign (Operand.const (Value.int IntKind.i64 (-1))), none⟩, []⟩]) .ret)))
theorem sl88 : slim Try.f88.ntmps ords88 (Try.f88.body.getD .skip) = some cd88 := by kernel_rfl
theorem in88 {args : List Value} {H : AH} {R : Value → AH → Prop} (hl : args.length = 2) (h : ∀ (Q : Exit → Sl → AH → Prop), (∀ e s H, endA Try.prog [ResultVar.tmp 4] R e s H → Q e s H) → wpC Try.prog cd88 Q (enterA args) H) : ACalls Try.prog 88 args H R :=
  ACalls.intro (by kernel_rfl) Try.func88 rfl (by kernel_rfl) sl88 hl (of_decide_eq_true (by kernel_rfl)) (by kernel_rfl) h
def ords39 : List (Nat × List (Nat × Bool)) := []
def cd39 : Cd := (.seq (.reg [⟨⟨some 4, Op.assign (Operand.const (Value.bool false)), none⟩, []⟩]) (.seq (.reg [⟨⟨some 5, Op.move (Operand.tmp 0), none⟩, []⟩,
  ⟨⟨some 6, Op.move (Operand.tmp 1), none⟩, []⟩,
  ⟨⟨some 7, Op.call { callee := (Callee.value (Operand.func 88)), args := #[(Operand.tmp 5), (Operand.tmp 6)], argTypes := #[27, 3] }, none⟩, []⟩,
  ⟨⟨some 8, Op.binOp BinOp.geq 3 (Operand.tmp 7) (Operand.const (Value.int IntKind.i64 0)) 3, none⟩, []⟩,
  ⟨⟨some 4, Op.assign (Operand.tmp 8), none⟩, []⟩]) .ret))
theorem sl39 : slim Try.f39.ntmps ords39 (Try.f39.body.getD .skip) = some cd39 := by kernel_rfl
theorem in39 {args : List Value} {H : AH} {R : Value → AH → Prop} (hl : args.length = 2) (h : ∀ (Q : Exit → Sl → AH → Prop), (∀ e s H, endA Try.prog [ResultVar.tmp 4] R e s H → Q e s H) → wpC Try.prog cd39 Q (enterA args) H) : ACalls Try.prog 39 args H R :=
  ACalls.intro (by kernel_rfl) Try.func39 rfl (by kernel_rfl) sl39 hl (of_decide_eq_true (by kernel_rfl)) (by kernel_rfl) h
end Go.Proofs.Ytldcbmmmheookaa.Ai
namespace Go.Proofs.Ytldcbmmmheookaa.Ai
open Go Go.RowKit
set_option linter.unusedVariables false
set_option linter.unusedSimpArgs false
/-- the place of a number, or -1 -/
theorem Index_c (v : Value) (xs : List Int) (x : Int) (H : AH) (hr : Row 3 H v xs) (hlen : xs.length ≤ 1099511627776) :
    ACalls Try.prog 88 [v, .int .i64 x] H fun r H' => r = .int .i64 (idxP (fun y => decide (x = y)) xs 0) ∧ H = H' := by
  refine in88 rfl ?_
  intro Q hQ
  simp (maxSteps := 1000000) (disch := omega) only [cd88, hr.len Try.underlying27, S, S1, S2, S3, S4, S5, ST, eq_self, reduceIte, reduceCtorEq, Nat.reduceEqDiff, Nat.reduceAdd]
  refine LoopH.by (fun m s H' => ∃ i, m + i = xs.length ∧ s 0 = v ∧ s 1 = .int .i64 x ∧ s 7 = .int .i64 (xs.length : Int) ∧ s 8 = .int .i64 ((i : Nat) : Int) ∧ H = H' ∧ idxP (fun y => decide (x = y)) xs 0 = idxP (fun y => decide (x = y)) (xs.drop i) i) xs.length ?_ ?_
  · exact ⟨0, by simp, rfl, rfl, rfl, rfl, rfl, by simp⟩
  · rintro m s H' ⟨i, hm, h0, h1, h7, h8, rfl, hn⟩
    simp (maxSteps := 1000000) (disch := omega) only [h0, h1, h7, h8, S, S1, S2, S3, S4, S5, ST, eq_self, reduceIte, reduceCtorEq, Nat.reduceEqDiff, Nat.reduceAdd]
    refine brD.intro (fun g => ?_) (fun g => ?_) <;> simp (maxSteps := 1000000) (disch := omega) only [h0, h1, h8, h7, hr.ix Try.underlying27 cs3, hr.cell, Int.toNat_natCast, S, S1, S2, S3, S4, S5, ST, eq_self, reduceIte, reduceCtorEq, Nat.reduceEqDiff, Nat.reduceAdd]
    · have hi : i < xs.length := by omega
      rw [idxP_step _ xs i hi] at hn
      refine brD.intro (fun e => ?_) (fun e => ?_) <;> simp (maxSteps := 1000000) (disch := omega) only [h0, h1, h7, h8, wrap64, S, S1, S2, S3, S4, S5, ST, eq_self, reduceIte, reduceCtorEq, Nat.reduceEqDiff, Nat.reduceAdd]
      · refine hQ _ _ _ ?_
        simp (maxSteps := 1000000) (disch := omega) only [S, S1, S2, S3, S4, S5, ST, eq_self, reduceIte, reduceCtorEq, Nat.reduceEqDiff, Nat.reduceAdd]
        rw [hn, if_pos (by simpa using e)]
      · rw [if_neg (by simpa using e)] at hn
        refine ⟨m - 1, by omega, i + 1, by omega, ?_⟩
        (repeat' apply And.intro) <;> first | exact hn | (simp only [Value.int.injEq, true_and]; omega) | omega | rfl | assumption | (simp; done) | (simp; omega)
    · refine hQ _ _ _ ?_
      simp (maxSteps := 1000000) (disch := omega) only [S, S1, S2, S3, S4, S5, ST, eq_self, reduceIte, reduceCtorEq, Nat.reduceEqDiff, Nat.reduceAdd]
      rw [hn, List.drop_of_length_le (by omega)]; rfl
theorem Contains_c (v : Value) (xs : List Int) (x : Int) (H : AH) (hr : Row 3 H v xs) (hlen : xs.length ≤ 1099511627776) :
    ACalls Try.prog 39 [v, .int .i64 x] H fun r H' => r = .bool (decide (x ∈ xs)) ∧ H = H' := by
  refine in39 rfl ?_
  intro Q hQ
  simp (maxSteps := 1000000) (disch := omega) only [cd39, S, S1, S2, S3, S4, S5, ST, eq_self, reduceIte, reduceCtorEq, Nat.reduceEqDiff, Nat.reduceAdd]
  refine CallH.by (Index_c v xs x H hr hlen) ?_
  rintro _ _ ⟨rfl, rfl⟩
  simp (maxSteps := 1000000) (disch := omega) only [S, S1, S2, S3, S4, S5, ST, eq_self, reduceIte, reduceCtorEq, Nat.reduceEqDiff, Nat.reduceAdd]
  refine hQ _ _ _ ?_
  simp (maxSteps := 1000000) (disch := omega) only [S, S1, S2, S3, S4, S5, ST, eq_self, reduceIte, reduceCtorEq, Nat.reduceEqDiff, Nat.reduceAdd]
  have h1 := idxP_any (fun y => decide (x = y)) xs 0
  have h2 : xs.any (fun y => decide (x = y)) = true ↔ x ∈ xs := by simp
  have : (0 ≤ idxP (fun y => decide (x = y)) xs 0) ↔ x ∈ xs := h1.trans h2
  simp only [this]
end Go.Proofs.Ytldcbmmmheookaa.Ai
namespace Go.Proofs.Ytldcbmmmheookaa.Ai
open Go Go.RowKit
set_option linter.unusedVariables false
set_option linter.unusedSimpArgs false
/-- what of a list another one does not have -/
def without (xs ys : List Int) : List Int := xs.filter fun x => decide (¬ x ∈ ys)
theorem without_step (xs ys : List Int) (i : Nat) (hi : i < xs.length) : without (xs.take (i + 1)) ys = without (xs.take i) ys ++ if xs.getD i 0 ∈ ys then [] else [xs.getD i 0] := by
  unfold without
  rw [List.take_add_one, List.getElem?_eq_getElem hi, List.filter_append]
  have hx : xs.getD i 0 = xs[i] := by simp [hi]
  rw [hx]
  by_cases h : xs[i] ∈ ys <;> simp [h]
end Go.Proofs.Ytldcbmmmheookaa.Ai
namespace Go.Proofs.Ytldcbmmmheookaa.Ai
open Go
def ords55 : List (Nat × List (Nat × Bool)) := []
def cd55 : Cd := (.seq (.reg [⟨⟨some 4, Op.assign (Operand.const (Value.slice none 0 0)), none⟩, []⟩]) (.seq (.reg [⟨⟨some 7, Op.buildSlice 27 0 #[], none⟩, []⟩,
  ⟨⟨some 5, Op.assign (Operand.tmp 7), none⟩, []⟩]) (.seq (.seq (.reg [⟨⟨some 6, Op.assign (Operand.const (Value.int IntKind.i64 0)), none⟩, []⟩]) (.block 0 (.loop (.seq (.seq (.reg [⟨⟨some 8, Op.move (Operand.tmp 6), none⟩, []⟩,
  ⟨⟨some 9, Op.move (Operand.tmp 0), none⟩, []⟩,
  ⟨⟨some 10, Op.call { callee := (Callee.builtin Builtin.len), args := #[(Operand.tmp 9)], argTypes := #[27] }, none⟩, []⟩,
  ⟨⟨some 11, Op.binOp BinOp.lss 3 (Operand.tmp 8) (Operand.tmp 10) 3, none⟩, []⟩]) (.cond (Operand.tmp 11) .skip (.exit 0))) (.seq (.block 1 (.seq (.reg [⟨⟨some 14, Op.move (Operand.tmp 1), none⟩, []⟩,
  ⟨⟨some 15, Op.move (Operand.tmp 0), none⟩, []⟩,
  ⟨⟨some 16, Op.move (Operand.tmp 6), none⟩, []⟩,
  ⟨⟨some 17, Op.indexAddr 27 (Operand.tmp 15) (Operand.tmp 16), none⟩, []⟩,
  ⟨⟨some 18, Op.load 3 (Operand.tmp 17), none⟩, []⟩,
  ⟨⟨some 19, Op.call { callee := (Callee.value (Operand.func 42)), args := #[(Operand.tmp 14), (Operand.tmp 18)], argTypes := #[27, 3] }, none⟩, []⟩,
  ⟨⟨some 20, Op.unOp UnOp.not 4 (Operand.tmp 19), none⟩, []⟩]) (.cond (Operand.tmp 20) (.reg [⟨⟨some 21, Op.move (Operand.tmp 5), none⟩, []⟩,
  ⟨⟨some 22, Op.move (Operand.tmp 0), none⟩, []⟩,
  ⟨⟨some 23, Op.move (Operand.tmp 6), none⟩, []⟩,
  ⟨⟨some 24, Op.indexAddr 27 (Operand.tmp 22) (Operand.tmp 23), none⟩, []⟩,
  ⟨⟨some 25, Op.load 3 (Operand.tmp 24), none⟩, []⟩,
  ⟨⟨some 26, Op.buildSlice 27 1 #[(0, (Operand.tmp 25))], none⟩, []⟩,
  ⟨⟨some 27, Op.call { callee := (Callee.builtin Builtin.append), args := #[(Operand.tmp 21), (Operand.tmp 26)], argTypes := #[27, 27] }, none⟩, []⟩,
  ⟨⟨some 5, Op.assign (Operand.tmp 27), none⟩, []⟩]) .skip))) (.reg [⟨⟨some 12, Op.move (Operand.tmp 6), none⟩, []⟩,
  ⟨⟨some 13, Op.binOp BinOp.add 3 (Operand.tmp 12) (Operand.const (Value.int IntKind.i64 1)) 3, none⟩, []⟩,
  ⟨⟨some 6, Op.assign (Operand.tmp 13), none⟩, []⟩])))))) (.seq (.reg [⟨⟨some 28, Op.move (Operand.tmp 5), none⟩, []⟩,
  ⟨⟨some 4, Op.assign (Operand.tmp 28), none⟩, []⟩]) .ret))))
theorem sl55 : slim Try.f55.ntmps ords55 (Try.f55.body.getD .skip) = some cd55 := by kernel_rfl
theorem in55 {args : List Value} {H : AH} {R : Value → AH → Prop} (hl : args.length = 2) (h : ∀ (Q : Exit → Sl → AH → Prop), (∀ e s H, endA Try.prog [ResultVar.tmp 4] R e s H → Q e s H) → wpC Try.prog cd55 Q (enterA args) H) : ACalls Try.prog 55 args H R :=
  ACalls.intro (by kernel_rfl) Try.func55 rfl (by kernel_rfl) sl55 hl (of_decide_eq_true (by kernel_rfl)) (by kernel_rfl) h
end Go.Proofs.Ytldcbmmmheookaa.Ai
namespace Go.Proofs.Ytldcbmmmheookaa.Ai
open Go Go.RowKit
set_option linter.unusedVariables false
set_option linter.unusedSimpArgs false
set_option maxRecDepth 20000 in
set_option maxHeartbeats 1000000 in
theorem l3Only_c (v w : Value) (xs ys : List Int) (H : AH) (hr : Row 3 H v xs) (hy : Row 3 H w ys) (hlen : xs.length ≤ 1000000) (hlen2 : ys.length ≤ 1000000) :
    ACalls Try.prog 55 [v, w] H fun r H' => Own 3 H H' r (without xs ys) ∧ H <+: H' := by
  refine in55 rfl ?_
  intro Q hQ
  simp (maxSteps := 1000000) (disch := omega) only [cd55, S, S1, S2, S3, S4, S5, ST, eq_self, reduceIte, reduceCtorEq, Nat.reduceEqDiff, Nat.reduceAdd]
  refine LoopH.by (fun m s H' => ∃ i, m + i = xs.length ∧ s 0 = v ∧ s 1 = w ∧ s 6 = .int .i64 ((i : Nat) : Int) ∧ Own 3 H H' (s 5) (without (xs.take i) ys) ∧ H <+: H') xs.length ?_ ?_
  · exact ⟨0, by simp, rfl, rfl, rfl, .inr ⟨H.length, rfl, Nat.le_refl _, at_new ..⟩, List.prefix_append _ _⟩
  · rintro m s H' ⟨i, hm, h0, h1, h6, ho, hp⟩
    have hr' := hr.pre hp
    have hy' := hy.pre hp
    generalize hu : s 5 = u at *
    simp (maxSteps := 1000000) (disch := omega) only [h0, h1, h6, hu, hr'.len Try.underlying27, S, S1, S2, S3, S4, S5, ST, eq_self, reduceIte, reduceCtorEq, Nat.reduceEqDiff, Nat.reduceAdd]
    refine brD.intro (fun g => ?_) (fun g => ?_)
    · have hi : i < xs.length := by omega
      have st := without_step xs ys i hi
      have le : (without (xs.take i) ys).length ≤ i := by
        unfold without
        refine Nat.le_trans (List.length_filter_le _ _) ?_
        simp; omega
      simp (maxSteps := 1000000) (disch := omega) only [h0, h1, h6, hu, hr'.ix Try.underlying27 cs3, hr'.cell, Int.toNat_natCast, S, S1, S2, S3, S4, S5, ST, eq_self, reduceIte, reduceCtorEq, Nat.reduceEqDiff, Nat.reduceAdd]
      refine CallH.by (l1Has_c w ys _ H' hy' (by omega)) ?_
      rintro _ _ ⟨rfl, rfl⟩
      simp (maxSteps := 1000000) (disch := omega) only [S, S1, S2, S3, S4, S5, ST, eq_self, reduceIte, reduceCtorEq, Nat.reduceEqDiff, Nat.reduceAdd]
      refine brD.intro (fun e => ?_) (fun e => ?_)
      · rw [if_pos e, List.append_nil] at st
        simp (maxSteps := 1000000) (disch := omega) only [h0, h1, h6, hu, wrap64, S, S1, S2, S3, S4, S5, ST, eq_self, reduceIte, reduceCtorEq, Nat.reduceEqDiff, Nat.reduceAdd]
        refine ⟨m - 1, by omega, i + 1, ?_⟩
        rw [st]
        (repeat' apply And.intro) <;> first | exact ho | exact hp | (simp only [Value.int.injEq, true_and]; omega) | omega | rfl | assumption | (simp; done) | (simp; omega)
      · rw [if_neg e] at st
        obtain ⟨v', H2, k1, k2, k3, k4, k5, k6⟩ := own1_27 ho hp (by omega) (xs.getD i 0)
        simp (maxSteps := 1000000) (disch := omega) only [h0, h1, h6, hu, hr'.ix Try.underlying27 cs3, hr'.cell, Int.toNat_natCast, k1, wrap64, S, S1, S2, S3, S4, S5, ST, eq_self, reduceIte, reduceCtorEq, Nat.reduceEqDiff, Nat.reduceAdd]
        refine ⟨m - 1, by omega, i + 1, ?_⟩
        rw [st]
        (repeat' apply And.intro) <;> first | exact k2 | exact k3 | (simp only [Value.int.injEq, true_and]; omega) | omega | rfl | assumption | (simp; done) | (simp; omega)
    · simp (maxSteps := 1000000) (disch := omega) only [hu, S, S1, S2, S3, S4, S5, ST, eq_self, reduceIte, reduceCtorEq, Nat.reduceEqDiff, Nat.reduceAdd]
      refine hQ _ _ _ ?_
      simp (maxSteps := 1000000) (disch := omega) only [hu, ho.row.tup, S, S1, S2, S3, S4, S5, ST, eq_self, reduceIte, reduceCtorEq, Nat.reduceEqDiff, Nat.reduceAdd]
      rw [List.take_of_length_le (by omega)] at ho
      exact ⟨ho, hp⟩
end Go.Proofs.Ytldcbmmmheookaa.Ai
namespace Go.Proofs.Ytldcbmmmheookaa.Ai
open Go
def ords40 : List (Nat × List (Nat × Bool)) := []
def cd40 : Cd := (.seq (.reg [⟨⟨some 3, Op.box 26 (Operand.tmp 0), none⟩, []⟩,
  ⟨⟨some 6, Op.assign (Operand.const (Value.slice none 0 0)), none⟩, []⟩]) (.seq (.reg [⟨⟨some 13, Op.move (Operand.tmp 2), none⟩, []⟩,
  ⟨⟨some 14, Op.buildSlice 27 1 #[(0, (Operand.tmp 13))], none⟩, []⟩,
  ⟨⟨some 7, Op.assign (Operand.tmp 14), none⟩, []⟩]) (.seq (.seq (.reg [⟨⟨some 15, Op.move (Operand.tmp 1), none⟩, []⟩,
  ⟨⟨some 16, Op.call { callee := (Callee.builtin Builtin.len), args := #[(Operand.tmp 15)], argTypes := #[27] }, none⟩, []⟩,
  ⟨⟨some 17, Op.move (Operand.const (Value.int IntKind.i64 0)), none⟩, []⟩]) (.block 0 (.loop (.seq (.reg [⟨⟨some 18, Op.binOp BinOp.lss 3 (Operand.tmp 17) (Operand.tmp 16) 3, none⟩, []⟩]) (.seq (.cond (Operand.tmp 18) .skip (.exit 0)) (.seq (.block 1 (.seq (.reg [⟨⟨some 19, Op.indexAddr 27 (Operand.tmp 15) (Operand.tmp 17), none⟩, []⟩,
  ⟨⟨some 20, Op.load 3 (Operand.tmp 19), none⟩, []⟩,
  ⟨⟨some 9, Op.assign (Operand.tmp 20), none⟩, []⟩]) (.seq (.reg [⟨⟨some 21, Op.fieldAddr 26 (Operand.tmp 3) 0, none⟩, []⟩,
  ⟨⟨some 22, Op.load 3 (Operand.tmp 21), none⟩, []⟩,
  ⟨⟨some 23, Op.call { callee := (Callee.value (Operand.func 44)), args := #[(Operand.tmp 22)], argTypes := #[3] }, none⟩, []⟩,
  ⟨⟨some 10, Op.assign (Operand.tmp 23), none⟩, []⟩]) (.seq (.seq (.reg [⟨⟨some 24, Op.move (Operand.tmp 1), none⟩, []⟩,
  ⟨⟨some 25, Op.call { callee := (Callee.builtin Builtin.len), args := #[(Operand.tmp 24)], argTypes := #[27] }, none⟩, []⟩,
  ⟨⟨some 26, Op.move (Operand.const (Value.int IntKind.i64 0)), none⟩, []⟩]) (.block 2 (.loop (.seq (.reg [⟨⟨some 27, Op.binOp BinOp.lss 3 (Operand.tmp 26) (Operand.tmp 25) 3, none⟩, []⟩]) (.seq (.cond (Operand.tmp 27) .skip (.exit 2)) (.seq (.block 3 (.seq (.reg [⟨⟨some 28, Op.indexAddr 27 (Operand.tmp 24) (Operand.tmp 26), none⟩, []⟩,
  ⟨⟨some 29, Op.load 3 (Operand.tmp 28), none⟩, []⟩,
  ⟨⟨some 12, Op.assign (Operand.tmp 29), none⟩, []⟩]) (.seq (.reg [⟨⟨some 30, Op.move (Operand.tmp 12), none⟩, []⟩,
  ⟨⟨some 31, Op.move (Operand.tmp 9), none⟩, []⟩,
  ⟨⟨some 32, Op.binOp BinOp.neq 3 (Operand.tmp 30) (Operand.tmp 31) 3, none⟩, []⟩]) (.cond (Operand.tmp 32) (.reg [⟨⟨some 33, Op.move (Operand.tmp 10), none⟩, []⟩,
  ⟨⟨some 34, Op.fieldAddr 26 (Operand.tmp 3) 1, none⟩, []⟩,
  ⟨⟨some 35, Op.load 24 (Operand.tmp 34), none⟩, []⟩,
  ⟨⟨some 36, Op.move (Operand.tmp 12), none⟩, []⟩,
  ⟨⟨some 37, Op.indexAddr 24 (Operand.tmp 35) (Operand.tmp 36), none⟩, []⟩,
  ⟨⟨some 38, Op.load 71 (Operand.tmp 37), none⟩, []⟩,
  ⟨⟨some 39, Op.call { callee := (Callee.value (Operand.func 45)), args := #[(Operand.tmp 33), (Operand.tmp 38)], argTypes := #[68, 71] }, none⟩, []⟩]) .skip)))) (.reg [⟨⟨some 40, Op.binOp BinOp.add 3 (Operand.tmp 26) (Operand.const (Value.int IntKind.i64 1)) 3, none⟩, []⟩,
  ⟨⟨some 26, Op.move (Operand.tmp 40), none⟩, []⟩]))))))) (.seq (.reg [⟨⟨some 41, Op.move (Operand.tmp 10), none⟩, []⟩,
  ⟨⟨some 42, Op.fieldAddr 26 (Operand.tmp 3) 1, none⟩, []⟩,
  ⟨⟨some 43, Op.load 24 (Operand.tmp 42), none⟩, []⟩,
  ⟨⟨some 44, Op.move (Operand.tmp 2), none⟩, []⟩,
  ⟨⟨some 45, Op.indexAddr 24 (Operand.tmp 43) (Operand.tmp 44), none⟩, []⟩,
  ⟨⟨some 46, Op.load 71 (Operand.tmp 45), none⟩, []⟩,
  ⟨⟨some 47, Op.call { callee := (Callee.value (Operand.func 45)), args := #[(Operand.tmp 41), (Operand.tmp 46)], argTypes := #[68, 71] }, none⟩, []⟩]) (.cond (Operand.tmp 47) (.reg [⟨⟨some 48, Op.move (Operand.tmp 7), none⟩, []⟩,
  ⟨⟨some 49, Op.move (Operand.tmp 9), none⟩, []⟩,
  ⟨⟨some 50, Op.buildSlice 27 1 #[(0, (Operand.tmp 49))], none⟩, []⟩,
  ⟨⟨some 51, Op.call { callee := (Callee.builtin Builtin.append), args := #[(Operand.tmp 48), (Operand.tmp 50)], argTypes := #[27, 27] }, none⟩, []⟩,
  ⟨⟨some 7, Op.assign (Operand.tmp 51), none⟩, []⟩]) .skip)))))) (.reg [⟨⟨some 52, Op.binOp BinOp.add 3 (Operand.tmp 17) (Operand.const (Value.int IntKind.i64 1)) 3, none⟩, []⟩,
  ⟨⟨some 17, Op.move (Operand.tmp 52), none⟩, []⟩]))))))) (.seq (.reg [⟨⟨some 53, Op.move (Operand.tmp 7), none⟩, []⟩,
  ⟨⟨some 54, Op.call { callee := (Callee.value (Operand.func 61)), args := #[(Operand.tmp 53)], argTypes := #[27] }, none⟩, []⟩]) (.seq (.reg [⟨⟨some 55, Op.move (Operand.tmp 7), none⟩, []⟩,
  ⟨⟨some 6, Op.assign (Operand.tmp 55), none⟩, []⟩]) .ret)))))
theorem sl40 : slim Try.f40.ntmps ords40 (Try.f40.body.getD .skip) = some cd40 := by kernel_rfl
theorem in40 {args : List Value} {H : AH} {R : Value → AH → Prop} (hl : args.length = 3) (h : ∀ (Q : Exit → Sl → AH → Prop), (∀ e s H, endA Try.prog [ResultVar.tmp 6] R e s H → Q e s H) → wpC Try.prog cd40 Q (enterA args) H) : ACalls Try.prog 40 args H R :=
  ACalls.intro (by kernel_rfl) Try.func40 rfl (by kernel_rfl) sl40 hl (of_decide_eq_true (by kernel_rfl)) (by kernel_rfl) h
end Go.Proofs.Ytldcbmmmheookaa.Ai
namespace Go.Proofs.Ytldcbmmmheookaa.Ai
open Go Go.RowKit
set_option linter.unusedVariables false
set_option linter.unusedSimpArgs false
theorem wo1_snoc (T : List Int) (e x : Int) : wo1 (T ++ [x]) e = if x ≠ e then wo1 T e ++ [x] else wo1 T e := by
  unfold wo1
  rw [List.filter_append]
  by_cases h : x = e <;> simp [h]
/-- .. of some of the tree's edges -/
def cirLT (n : Nat) (es : List (Int × Int)) (T l : List Int) (f : Int) : List Int := l.filter fun e => !jnB es n (wo1 T e) (enA es f) (enB es f)
/-- the circle, in order -/
def crcL (n : Nat) (es : List (Int × Int)) (T : List Int) (f : Int) : List Int := put (cirL n es T f) f
theorem asc_srt {ys : List Int} (ha : Asc ys) (hn : ys.Nodup) : ys.Pairwise (· < ·) := by
  rw [List.pairwise_iff_getElem]
  intro i j hi hj hij
  have := ha i j hij hj
  rw [show ys.getD i 0 = ys[i] by simp [hi], show ys.getD j 0 = ys[j] by simp [hj]] at this
  have hne : ys[i] ≠ ys[j] := fun e => by
    have := (List.getElem_inj hn).1 e
    omega
  omega
theorem crc_of {n : Nat} {es : List (Int × Int)} {T ys : List Int} {f : Int} (hT : T.Pairwise (· < ·)) (hf : f ∉ T) (hp : ys.Perm ([f] ++ cirL n es T f)) (ha : Asc ys) : ys = crcL n es T f := by
  have hs : (cirL n es T f).Pairwise (· < ·) := hT.sublist List.filter_sublist
  have hfc : f ∉ cirL n es T f := fun q => hf (List.mem_filter.1 q).1
  have hn : ys.Nodup := by
    rw [hp.nodup_iff, List.singleton_append, List.nodup_cons]
    exact ⟨hfc, hs.imp fun q e => by omega⟩
  refine srt_ext (asc_srt ha hn) (put_sorted _ _ hs) fun z => ?_
  rw [hp.mem_iff]
  unfold crcL
  rw [put_mem]
  simp
set_option maxRecDepth 20000 in
set_option maxHeartbeats 8000000 in
theorem circle_c (n : Nat) (hn : 1 ≤ n) (v w : Value) (es : List (Int × Int)) (T : List Int) (f : Int) (H : AH) (hr : RowP 71 H v es) (hg : Grd (n : Int) es) (hw : Row 3 H w T) (hT : TreL n es T) (hf : 0 ≤ f ∧ f < es.length) (hfT : f ∉ T) :
    ACalls Try.prog 40 [.agg (List.toArray [.int .i64 (n : Int), v]), w, .int .i64 f] H fun r H' => Mine 3 H H' r (crcL n es T f) ∧ H <+: H' := by
  have h28 : es.length ≤ 28 := grd_len hg
  have hn8 : n ≤ 8 := by have := hg.1; omega
  have htl := hT.1
  refine in40 rfl ?_
  intro Q hQ
  simp (maxSteps := 1000000) (disch := omega) only [cd40, hr.boxG, hw.len Try.underlying27, S, S1, S2, S3, S4, S5, ST, eq_self, reduceIte, reduceCtorEq, Nat.reduceEqDiff, Nat.reduceAdd]
  generalize hA : H ++ [AObj.cells [.int .i64 n, v] 26 false] = A
  have pA : H <+: A := by rw [← hA]; exact List.prefix_append _ _
  have cA : A[H.length]? = some (.cells [.int .i64 n, v] 26 false) := by rw [← hA]; exact at_new ..
  have rA := hr.pre pA
  have wA := hw.pre pA
  generalize hB : A ++ [AObj.cells [.int .i64 f] 3 false] = B
  have pB : A <+: B := by rw [← hB]; exact List.prefix_append _ _
  have own0 : Own 3 A B (.slice (some ⟨A.length, 0, none⟩) 1 1) [f] := .inr ⟨A.length, rfl, Nat.le_refl _, by rw [← hB]; exact at_new ..⟩
  try simp (maxSteps := 1000000) (disch := omega) only [S, S1, S2, S3, S4, S5, ST, eq_self, reduceIte, reduceCtorEq, Nat.reduceEqDiff, Nat.reduceAdd]
  refine LoopH.by (fun m s H' => ∃ i : Nat, m + i = T.length ∧ s 1 = w ∧ s 2 = .int .i64 f ∧ s 3 = .pointer (some ⟨H.length, 0, none⟩) ∧ s 15 = w ∧ s 16 = .int .i64 (T.length : Int) ∧ s 17 = .int .i64 ((i : Nat) : Int) ∧ Own 3 A H' (s 7) ([f] ++ cirLT n es T (T.take i) f) ∧ A <+: H') T.length ?_ ?_
  · refine ⟨0, by simp, ?_⟩
    simp (maxSteps := 1000000) (disch := omega) only [S, S1, S2, S3, S4, S5, ST, eq_self, reduceIte, reduceCtorEq, Nat.reduceEqDiff, Nat.reduceAdd]
    (repeat' first | exact own0 | exact pB | apply And.intro) <;> first | (simp only [Value.int.injEq, true_and]; omega) | omega | rfl | assumption | (simp; done) | (simp; omega)
  rintro m s H' ⟨i, hm, s1, s2, s3, s15, s16, s17, hO, hp⟩
  generalize hU : s 7 = U at *
  have wH := wA.pre hp
  have rH := rA.pre hp
  have cH := pre_at hp cA
  simp (maxSteps := 1000000) (disch := omega) only [s1, s2, s3, s15, s16, s17, hU, S, S1, S2, S3, S4, S5, ST, eq_self, reduceIte, reduceCtorEq, Nat.reduceEqDiff, Nat.reduceAdd]
  refine brD.intro (fun g => ?_) (fun g => ?_)
  rotate_left
  · have hi : i = T.length := by omega
    subst hi
    rw [List.take_length] at hO
    have hlen : ([f] ++ cirLT n es T T f).length ≤ 12 := by
      have : (cirLT n es T T f).length ≤ T.length := List.length_filter_le _ _
      simp only [List.length_append, List.length_cons, List.length_nil]; omega
    simp (maxSteps := 1000000) (disch := omega) only [s1, s2, s3, s15, s16, s17, hU, S, S1, S2, S3, S4, S5, ST, eq_self, reduceIte, reduceCtorEq, Nat.reduceEqDiff, Nat.reduceAdd]
    refine CallH.by (Sort_c U _ A H' hO hlen) ?_
    rintro _ D ⟨ys, hD, hperm, hasc, hels⟩
    simp (maxSteps := 1000000) (disch := omega) only [hU, S, S1, S2, S3, S4, S5, ST, eq_self, reduceIte, reduceCtorEq, Nat.reduceEqDiff, Nat.reduceAdd]
    refine hQ _ _ _ ?_
    simp (maxSteps := 1000000) (disch := omega) only [hU, hD.row.tup, S, S1, S2, S3, S4, S5, ST, eq_self, reduceIte, reduceCtorEq, Nat.reduceEqDiff, Nat.reduceAdd]
    have e1 := crc_of hT.2.1 hfT hperm hasc
    subst e1
    have hpD : A <+: D := by
      rcases hO with ⟨q, _⟩ | ⟨o, q1, q2, q3⟩
      · exact hp.trans (else_pre_nil q hels)
      · exact else_pre hp (by rw [q1]; exact q2) hels
    exact ⟨hD.mine.base pA, pA.trans hpD⟩
  have hi : i < T.length := by omega
  have hci := wH.cell hi
  have hmi : T.getD i 0 ∈ T := by simp [hi]
  have htk : T.take (i + 1) = T.take i ++ [T.getD i 0] := by rw [List.take_succ_eq_append_getElem hi]; simp [hi]
  obtain ⟨e, he⟩ : ∃ e, e = T.getD i 0 := ⟨_, rfl⟩
  rw [← he] at hci hmi htk
  simp (maxSteps := 1000000) (disch := omega) only [s1, s2, s3, s15, s16, s17, hU, wH.ix Try.underlying27 cs3, Int.toNat_natCast, hci, cell_of cH, S, S1, S2, S3, S4, S5, ST, eq_self, reduceIte, reduceCtorEq, Nat.reduceEqDiff, Nat.reduceAdd]
  refine CallH.by (newJoiner_c n H' (by omega)) ?_
  rintro w1 C ⟨hC, pC⟩
  obtain ⟨o, rfl, ho1, ho2⟩ := own_sl hC (by rw [alls_len]; omega)
  rw [alls_len]
  have wC := wH.pre pC
  simp (maxSteps := 1000000) (disch := omega) only [s1, s2, s3, s15, s16, s17, hU, wC.len Try.underlying27, S, S1, S2, S3, S4, S5, ST, eq_self, reduceIte, reduceCtorEq, Nat.reduceEqDiff, Nat.reduceAdd]
  refine LoopH.by (fun m' s' G => ∃ (j : Nat) (J : List Int), m' + j = T.length ∧ s' 1 = w ∧ s' 2 = .int .i64 f ∧ s' 3 = .pointer (some ⟨H.length, 0, none⟩) ∧ s' 15 = w ∧ s' 16 = .int .i64 (T.length : Int) ∧ s' 17 = .int .i64 ((i : Nat) : Int) ∧ s' 7 = U ∧ s' 9 = .int .i64 e ∧ s' 10 = .slice (some ⟨o, 0, none⟩) n n ∧ s' 24 = w ∧ s' 25 = .int .i64 (T.length : Int) ∧ s' 26 = .int .i64 ((j : Nat) : Int) ∧ G[o]? = some (.cells (ints J) 3 false) ∧ JR es (wo1 (T.take j) e) n J ∧ Keeps o C G) T.length ?_ ?_
  · refine ⟨0, alls n, by simp, ?_⟩
    simp (maxSteps := 1000000) (disch := omega) only [s1, s2, s3, s15, s16, s17, hU, S, S1, S2, S3, S4, S5, ST, eq_self, reduceIte, reduceCtorEq, Nat.reduceEqDiff, Nat.reduceAdd]
    have f1 : JR es (wo1 (T.take 0) e) n (alls n) := by rw [List.take_zero]; exact JR.zero es n
    have f2 : Keeps o C C := .of_pre (List.prefix_refl _)
    (repeat' first | exact ho2 | exact f1 | exact f2 | apply And.intro) <;> first | (simp only [Value.int.injEq, true_and]; omega) | omega | rfl | assumption | (simp; done) | (simp; omega)
  rintro m' s' G ⟨j, J, hm', g1, g2, g3, g15, g16, g17, g7, g9, g10, g24, g25, g26, hJ, hjr, kG⟩
  have pHG : H' <+: G := keepsA kG pC ho1
  have wG := wH.pre pHG
  have rG := rH.pre pHG
  have cG := pre_at pHG cH
  simp (maxSteps := 1000000) (disch := omega) only [g1, g2, g3, g15, g16, g17, g7, g9, g10, g24, g25, g26, S, S1, S2, S3, S4, S5, ST, eq_self, reduceIte, reduceCtorEq, Nat.reduceEqDiff, Nat.reduceAdd]
  refine brD.intro (fun q => ?_) (fun q => ?_)
  · have hj : j < T.length := by omega
    have hcj := wG.cell hj
    have hmj : T.getD j 0 ∈ T := by simp [hj]
    have htj : T.take (j + 1) = T.take j ++ [T.getD j 0] := by rw [List.take_succ_eq_append_getElem hj]; simp [hj]
    obtain ⟨x, hx⟩ : ∃ x, x = T.getD j 0 := ⟨_, rfl⟩
    rw [← hx] at hcj hmj htj
    have hxr := hT.2.2.1 x hmj
    have hxe := en_eq hg hxr
    have hx2 : x.toNat < es.length := by omega
    have hst := wo1_snoc (T.take j) e x
    rw [← htj] at hst
    simp (maxSteps := 1000000) (disch := omega) only [g1, g2, g3, g15, g16, g17, g7, g9, g10, g24, g25, g26, wG.ix Try.underlying27 cs3, Int.toNat_natCast, hcj, S, S1, S2, S3, S4, S5, ST, eq_self, reduceIte, reduceCtorEq, Nat.reduceEqDiff, Nat.reduceAdd]
    refine brD.intro (fun z => ?_) (fun z => ?_)
    · rw [if_pos z] at hst
      simp (maxSteps := 1000000) (disch := omega) only [g1, g2, g3, g15, g16, g17, g7, g9, g10, g24, g25, g26, cell_of cG, rG.ix Try.underlying24 cs71, rG.ld ag71 cs71 hx2, S, S1, S2, S3, S4, S5, ST, eq_self, reduceIte, reduceCtorEq, Nat.reduceEqDiff, Nat.reduceAdd]
      refine CallH.by (join_c hjr o G hJ x (by omega) (by omega) (congrArg Prod.fst hxe.1) (congrArg Prod.snd hxe.1)) ?_
      rintro _ G2 ⟨b, J', rfl, _, hJ', hjr', k2⟩
      rw [← hst] at hjr'
      have f1 := kG.trans k2
      simp (maxSteps := 1000000) (disch := omega) only [g1, g2, g3, g15, g16, g17, g7, g9, g10, g24, g25, g26, wrap64, S, S1, S2, S3, S4, S5, ST, eq_self, reduceIte, reduceCtorEq, Nat.reduceEqDiff, Nat.reduceAdd]
      refine ⟨m' - 1, by omega, j + 1, J', ?_⟩
      (repeat' first | exact hJ' | exact hjr' | exact f1 | apply And.intro) <;> first | (simp only [Value.int.injEq, true_and]; omega) | omega | rfl | assumption | (simp; done) | (simp; omega)
    · rw [if_neg z] at hst
      rw [← hst] at hjr
      simp (maxSteps := 1000000) (disch := omega) only [g1, g2, g3, g15, g16, g17, g7, g9, g10, g24, g25, g26, wrap64, S, S1, S2, S3, S4, S5, ST, eq_self, reduceIte, reduceCtorEq, Nat.reduceEqDiff, Nat.reduceAdd]
      refine ⟨m' - 1, by omega, j + 1, J, ?_⟩
      (repeat' first | exact hJ | exact hjr | exact kG | apply And.intro) <;> first | (simp only [Value.int.injEq, true_and]; omega) | omega | rfl | assumption | (simp; done) | (simp; omega)
  · have hj : j = T.length := by omega
    subst hj
    rw [List.take_length] at hjr
    have hfe := en_eq hg hf
    have hf2 : f.toNat < es.length := by omega
    simp (maxSteps := 1000000) (disch := omega) only [g1, g2, g3, g15, g16, g17, g7, g9, g10, g24, g25, g26, cell_of cG, rG.ix Try.underlying24 cs71, Int.toNat_natCast, rG.ld ag71 cs71 hf2, S, S1, S2, S3, S4, S5, ST, eq_self, reduceIte, reduceCtorEq, Nat.reduceEqDiff, Nat.reduceAdd]
    refine CallH.by (join_c hjr o G hJ f (by omega) (by omega) (congrArg Prod.fst hfe.1) (congrArg Prod.snd hfe.1)) ?_
    rintro _ G2 ⟨b, J', rfl, hb, hJ', hjr', k2⟩
    have pHG2 : H' <+: G2 := keepsA (kG.trans k2) pC ho1
    have hO2 := hO.pre pHG2
    have hpG2 := hp.trans pHG2
    have hflt : cirLT n es T (T.take (i + 1)) f = cirLT n es T (T.take i) f ++ if b = true then [e] else [] := by
      rw [htk]
      unfold cirLT
      rw [List.filter_append]
      congr 1
      have hn1 := jnB_not hg (wo1_in hT.2.2.1 e) (i := enA es f) (j := enB es f) (by omega) (by omega)
      cases b with
      | true => have := hn1.2 (hb.1 rfl); simp [this]
      | false =>
        have : jnB es n (wo1 T e) (enA es f) (enB es f) = true := by
          cases h : jnB es n (wo1 T e) (enA es f) (enB es f) with
          | true => rfl
          | false => cases hb.2 (hn1.1 h)
        simp [this]
    have hcl : (cirLT n es T (T.take i) f).length ≤ (T.take i).length := List.length_filter_le _ _
    rw [List.length_take] at hcl
    simp (maxSteps := 1000000) (disch := omega) only [S, S1, S2, S3, S4, S5, ST, eq_self, reduceIte, reduceCtorEq, Nat.reduceEqDiff, Nat.reduceAdd]
    refine brH.intro (fun z => ?_) (fun z => ?_)
    · rw [if_pos z] at hflt
      obtain ⟨w2, K, a1, a2, a3, a4, a5, a6⟩ := own1_27 hO2 hpG2 (by simp only [List.length_append, List.length_cons, List.length_nil]; omega) e
      rw [List.append_assoc, ← hflt] at a2
      simp (maxSteps := 1000000) (disch := omega) only [g1, g2, g3, g15, g16, g17, g7, g9, g10, a1, wrap64, S, S1, S2, S3, S4, S5, ST, eq_self, reduceIte, reduceCtorEq, Nat.reduceEqDiff, Nat.reduceAdd]
      refine ⟨m - 1, by omega, i + 1, ?_⟩
      (repeat' first | exact a2 | exact a3 | apply And.intro) <;> first | (simp only [Value.int.injEq, true_and]; omega) | omega | rfl | assumption | (simp; done) | (simp; omega)
    · rw [if_neg (by rw [z]; decide), List.append_nil] at hflt
      rw [← hflt] at hO2
      simp (maxSteps := 1000000) (disch := omega) only [g1, g2, g3, g15, g16, g17, g7, g9, g10, wrap64, S, S1, S2, S3, S4, S5, ST, eq_self, reduceIte, reduceCtorEq, Nat.reduceEqDiff, Nat.reduceAdd]
      refine ⟨m - 1, by omega, i + 1, ?_⟩
      (repeat' first | exact hO2 | exact hpG2 | apply And.intro) <;> first | (simp only [Value.int.injEq, true_and]; omega) | omega | rfl | assumption | (simp; done) | (simp; omega)
end Go.Proofs.Ytldcbmmmheookaa.Ai
namespace Go.Proofs.Ytldcbmmmheookaa.Ai
open Go
set_option linter.unusedVariables false
/-- what is taken away for an edge -/
def awL (n : Nat) (es : List (Int × Int)) (b now : List Int) (e : Int) : Int := (without (cirL n es now e) b).getD 0 0
/-- the exchange -/
def exL (n : Nat) (es : List (Int × Int)) (b now : List Int) (e : Int) : List Int := put (wo1 now (awL n es b now e)) e
/-- the trees behind one -/
def twI (n : Nat) (es : List (Int × Int)) (b : List Int) : List Int → List Int → List (List Int)
  | _, [] => []
  | now, e :: r => if e ∈ now then twI n es b now r else exL n es b now e :: twI n es b (exL n es b now e) r
theorem without_eq (T : List Int) (e : Int) : without T [e] = wo1 T e := by
  unfold without wo1
  exact List.filter_congr fun x _ => by simp
structure ExOk (n : Nat) (es : List (Int × Int)) (b now : List Int) (e : Int) : Prop where
  cir : awL n es b now e ∈ cirL n es now e
  out : awL n es b now e ∉ b
  pos : 0 < (without (cirL n es now e) b).length
  tree : TreL n es (exL n es b now e)
  keep : ∀ x ∈ b, x ∈ now → x ∈ exL n es b now e
  new : e ∈ exL n es b now e
theorem ex_ok {n : Nat} {es : List (Int × Int)} (hg : Grd (n : Int) es) {b now : List Int} (hN : TreL n es now) (hB : TreL n es b) {e : Int} (he : e ∈ b) (hn : e ∉ now) : ExOk n es b now e := by
  have tN := hN.tree hg
  have tB := hB.tree hg
  have her := hB.2.2.1 e he
  have hen := en_eq hg her
  obtain ⟨x, hx, hxb⟩ := tN.away tB he hn
  have hxc := (cir_mem hg hN.2.2.1 her).2 hx
  have hxw : x ∈ without (cirL n es now e) b := by unfold without; exact List.mem_filter.2 ⟨hxc, by simpa using hxb⟩
  have hpos : 0 < (without (cirL n es now e) b).length := List.length_pos_of_mem hxw
  have haw : awL n es b now e ∈ without (cirL n es now e) b := by
    unfold awL
    simp [hpos]
  have haw' := haw
  unfold without at haw'
  rw [List.mem_filter] at haw'
  have hab : awL n es b now e ∉ b := by simpa using haw'.2
  have hcir := (cir_mem hg hN.2.2.1 her).1 haw'.1
  have hput : (exL n es b now e).Perm (wo1 now (awL n es b now e) ++ [e]) := by
    refine (put_perm _ _ (fun q => hn (wo1_mem.1 q).1)).trans ?_
    exact (List.perm_append_comm (l₁ := [e]) (l₂ := wo1 now (awL n es b now e)))
  have hmem : ∀ x, x ∈ exL n es b now e ↔ x = e ∨ (x ∈ now ∧ x ≠ awL n es b now e) := fun x => by
    unfold exL
    rw [put_mem, wo1_mem]
  have tS := tN.swap hcir hn (by omega) hput
  refine ⟨haw'.1, hab, hpos, ⟨tS.len, put_sorted _ _ (hN.2.1.sublist List.filter_sublist), fun x hx => ?_, tS.conn⟩, fun x hx hxn => (hmem x).2 (.inr ⟨hxn, fun q => hab (q ▸ hx)⟩), (hmem e).2 (.inl rfl)⟩
  rcases (hmem x).1 hx with q | q
  · rw [q]; exact her
  · exact hN.2.2.1 x q.1
theorem tw_done {n : Nat} {es : List (Int × Int)} {b now : List Int} : ∀ r : List Int, (∀ x ∈ r, x ∈ now) → twI n es b now r = []
  | [], _ => rfl
  | e :: r, h => by rw [twI, if_pos (h e (by simp))]; exact tw_done r fun x hx => h x (by simp [hx])
/-- both are the same if all of one is in the other -/
theorem tre_eq {n : Nat} {es : List (Int × Int)} (hg : Grd (n : Int) es) {a b : List Int} (hA : TreL n es a) (hB : TreL n es b) (h : ∀ x ∈ b, x ∈ a) : a = b := by
  have nb : b.Nodup := hB.2.1.imp fun q e => by omega
  refine srt_ext hA.2.1 hB.2.1 fun z => ⟨fun hz => ?_, h z⟩
  refine Classical.byContradiction fun hzb => ?_
  have := nodup_le (a := z :: b) (b := a) (List.nodup_cons.2 ⟨hzb, nb⟩) fun y hy => by
    rcases List.mem_cons.1 hy with rfl | hy
    · exact hz
    · exact h y hy
  have h1 := hA.1
  have h2 := hB.1
  simp only [List.length_cons] at this
  omega
/-- the first one that is missing -/
theorem tw_next {n : Nat} {es : List (Int × Int)} (hg : Grd (n : Int) es) {b now : List Int} (hN : TreL n es now) (hB : TreL n es b) (i : Nat) (hi : ∀ j, j < i → j < b.length → b.getD j 0 ∈ now) (hne : now ≠ b) :
    ∃ j, j < b.length ∧ b.getD j 0 ∉ now ∧ (without b now).getD 0 0 = b.getD j 0 ∧ 0 < (without b now).length ∧ twI n es b now (b.drop i) = exL n es b now (b.getD j 0) :: twI n es b (exL n es b now (b.getD j 0)) (b.drop (j + 1)) ∧ (∀ k, k < j + 1 → k < b.length → b.getD k 0 ∈ exL n es b now (b.getD j 0)) := by
  -- the least place of one that is missing
  obtain ⟨x, hx, hxn⟩ : ∃ x, x ∈ b ∧ x ∉ now := Classical.byContradiction fun q => hne (tre_eq hg hN hB fun x hx => Classical.byContradiction fun q2 => q ⟨x, hx, q2⟩)
  obtain ⟨k0, hk0, e0⟩ := List.mem_iff_getElem.1 hx
  obtain ⟨j, ⟨hj, hjn⟩, hmin⟩ := least_of (P := fun k => k < b.length ∧ b.getD k 0 ∉ now) k0 ⟨hk0, by simp [hk0, e0, hxn]⟩
  have before : ∀ k, k < j → b.getD k 0 ∈ now := fun k hk => Classical.byContradiction fun q => by have := hmin k ⟨by omega, q⟩; omega
  have hij : i ≤ j := Nat.le_of_not_lt fun q => hjn (hi j q hj)
  have hb := hB
  have ok := ex_ok hg hN hB (e := b.getD j 0) (by simp [hj]) hjn
  have split : b = b.take j ++ b.getD j 0 :: b.drop (j + 1) := by
    have e1 : b.getD j 0 = b[j] := by simp [hj]
    rw [e1, ← List.drop_eq_getElem_cons hj, List.take_append_drop]
  have hw : without b now = b.getD j 0 :: without (b.drop (j + 1)) now := by
    have : without b now = without (b.take j ++ b.getD j 0 :: b.drop (j + 1)) now := by rw [← split]
    rw [this]
    unfold without
    rw [List.filter_append, List.filter_cons, if_pos (by simpa using hjn)]
    have : (b.take j).filter (fun x => decide (¬ x ∈ now)) = [] := by
      rw [List.filter_eq_nil_iff]
      intro y hy
      obtain ⟨k, hk, ek⟩ := List.mem_iff_getElem.1 hy
      rw [List.length_take] at hk
      rw [List.getElem_take] at ek
      have := before k (by omega)
      rw [show b.getD k 0 = y by simp [show k < b.length by omega, ek]] at this
      simpa using this
    rw [this, List.nil_append]
  refine ⟨j, hj, hjn, by rw [hw]; rfl, by rw [hw]; simp, ?_, fun k hk hkb => ?_⟩
  · have key : ∀ d, i + d = j → twI n es b now (b.drop i) = twI n es b now (b.drop j) := by
      intro d hd
      have : ∀ m, m ≤ d → twI n es b now (b.drop i) = twI n es b now (b.drop (i + m)) := by
        intro m
        induction m with
        | zero => intro _; rfl
        | succ m ih =>
          intro hm
          rw [ih (by omega), List.drop_eq_getElem_cons (show i + m < b.length by omega), twI, if_pos]
          · rfl
          · have := before (i + m) (by omega)
            rwa [show b.getD (i + m) 0 = b[i + m]'(by omega) by simp [show i + m < b.length by omega]] at this
      rw [this d (Nat.le_refl _), hd]
    rw [key (j - i) (by omega), List.drop_eq_getElem_cons hj, show b[j] = b.getD j 0 by simp [hj], twI, if_neg hjn]
  · by_cases e : k = j
    · subst e; exact ok.new
    · exact ok.keep _ (by simp [hkb]) (before k (by omega))
theorem tw_len {n : Nat} {es : List (Int × Int)} {b : List Int} : ∀ (r now : List Int), (twI n es b now r).length ≤ r.length
  | [], _ => Nat.le_refl _
  | e :: r, now => by
    rw [twI]
    split
    · have := tw_len (n := n) (es := es) (b := b) r now; simp only [List.length_cons]; omega
    · have := tw_len (n := n) (es := es) (b := b) r (exL n es b now e); simp only [List.length_cons]; omega
theorem tw_tree {n : Nat} {es : List (Int × Int)} (hg : Grd (n : Int) es) {b : List Int} (hB : TreL n es b) : ∀ (r now : List Int), (∀ x ∈ r, x ∈ b) → TreL n es now → ∀ U ∈ twI n es b now r, TreL n es U
  | [], _, _, _, U, hU => by simp [twI] at hU
  | e :: r, now, hr, hN, U, hU => by
    rw [twI] at hU
    split at hU
    · exact tw_tree hg hB r now (fun x hx => hr x (by simp [hx])) hN U hU
    · rename_i hn
      have ok := ex_ok hg hN hB (hr e (by simp)) hn
      rcases List.mem_cons.1 hU with rfl | hU
      · exact ok.tree
      · exact tw_tree hg hB r _ (fun x hx => hr x (by simp [hx])) ok.tree U hU
end Go.Proofs.Ytldcbmmmheookaa.Ai
namespace Go.Proofs.Ytldcbmmmheookaa.Ai
open Go
def ords47 : List (Nat × List (Nat × Bool)) := [(2, [(0, false), (1, false), (2, false), (3, false), (6, false), (7, false), (8, false), (9, false), (10, false), (11, false), (4, true), (5, true), (12, true), (13, false)]), (6, [(0, false), (1, false), (2, false), (3, false), (4, false), (5, false), (6, false), (7, false), (8, false), (9, false), (10, false), (11, false), (12, false), (13, false), (14, false), (15, false), (16, false), (17, false), (18, false), (19, false), (20, false)])]
def cd47 : Cd := (.seq (.reg [⟨⟨some 3, Op.box 26 (Operand.tmp 0), none⟩, []⟩,
  ⟨⟨some 6, Op.assign (Operand.const (Value.slice none 0 0)), none⟩, []⟩]) (.seq (.reg [⟨⟨some 10, Op.buildSlice 27 0 #[], none⟩, []⟩,
  ⟨⟨some 7, Op.assign (Operand.tmp 10), none⟩, []⟩]) (.seq (.reg [⟨⟨some 11, Op.load 26 (Operand.tmp 3), none⟩, []⟩,
  ⟨⟨some 12, Op.move (Operand.tmp 1), none⟩, []⟩,
  ⟨⟨some 13, Op.move (Operand.tmp 2), none⟩, []⟩,
  ⟨⟨some 14, Op.buildSlice 27 1 #[(0, (Operand.tmp 13))], none⟩, []⟩,
  ⟨⟨some 17, Op.fieldAddr 26 (Operand.tmp 3) 1, none⟩, []⟩,
  ⟨⟨some 18, Op.load 24 (Operand.tmp 17), none⟩, []⟩,
  ⟨⟨some 19, Op.move (Operand.tmp 2), none⟩, []⟩,
  ⟨⟨some 20, Op.indexAddr 24 (Operand.tmp 18) (Operand.tmp 19), none⟩, []⟩,
  ⟨⟨some 21, Op.indexAddr 71 (Operand.tmp 20) (Operand.const (Value.int IntKind.i64 0)), none⟩, []⟩,
  ⟨⟨some 22, Op.load 3 (Operand.tmp 21), none⟩, []⟩,
  ⟨⟨some 15, Op.call { callee := (Callee.value (Operand.func 55)), args := #[(Operand.tmp 12), (Operand.tmp 14)], argTypes := #[27, 27] }, none⟩, [⟨some 22, Op.load 3 (Operand.tmp 21), none⟩, ⟨some 18, Op.load 24 (Operand.tmp 17), none⟩, ⟨some 11, Op.load 26 (Operand.tmp 3), none⟩]⟩,
  ⟨⟨some 16, Op.call { callee := (Callee.value (Operand.func 91)), args := #[(Operand.tmp 11), (Operand.tmp 15)], argTypes := #[26, 27] }, none⟩, [⟨some 22, Op.load 3 (Operand.tmp 21), none⟩, ⟨some 18, Op.load 24 (Operand.tmp 17), none⟩]⟩,
  ⟨⟨some 23, Op.call { callee := (Callee.value (Operand.func 90)), args := #[(Operand.tmp 16), (Operand.tmp 22)], argTypes := #[26, 3] }, none⟩, []⟩,
  ⟨⟨some 8, Op.assign (Operand.tmp 23), none⟩, []⟩]) (.seq (.seq (.reg [⟨⟨some 9, Op.assign (Operand.const (Value.int IntKind.i64 0)), none⟩, []⟩]) (.block 0 (.loop (.seq (.seq (.reg [⟨⟨some 24, Op.move (Operand.tmp 9), none⟩, []⟩,
  ⟨⟨some 25, Op.fieldAddr 26 (Operand.tmp 3) 1, none⟩, []⟩,
  ⟨⟨some 26, Op.load 24 (Operand.tmp 25), none⟩, []⟩,
  ⟨⟨some 27, Op.call { callee := (Callee.builtin Builtin.len), args := #[(Operand.tmp 26)], argTypes := #[24] }, none⟩, []⟩,
  ⟨⟨some 28, Op.binOp BinOp.lss 3 (Operand.tmp 24) (Operand.tmp 27) 3, none⟩, []⟩]) (.cond (Operand.tmp 28) .skip (.exit 0))) (.seq (.block 1 (.seq (.reg [⟨⟨some 31, Op.move (Operand.tmp 8), none⟩, []⟩,
  ⟨⟨some 32, Op.fieldAddr 26 (Operand.tmp 3) 1, none⟩, []⟩,
  ⟨⟨some 33, Op.load 24 (Operand.tmp 32), none⟩, []⟩,
  ⟨⟨some 34, Op.move (Operand.tmp 9), none⟩, []⟩,
  ⟨⟨some 35, Op.indexAddr 24 (Operand.tmp 33) (Operand.tmp 34), none⟩, []⟩,
  ⟨⟨some 36, Op.indexAddr 71 (Operand.tmp 35) (Operand.const (Value.int IntKind.i64 0)), none⟩, []⟩,
  ⟨⟨some 37, Op.load 3 (Operand.tmp 36), none⟩, []⟩,
  ⟨⟨some 38, Op.indexAddr 27 (Operand.tmp 31) (Operand.tmp 37), none⟩, []⟩,
  ⟨⟨some 39, Op.load 3 (Operand.tmp 38), none⟩, []⟩,
  ⟨⟨some 40, Op.binOp BinOp.lss 3 (Operand.tmp 39) (Operand.const (Value.int IntKind.i64 0)) 3, none⟩, []⟩,
  ⟨⟨some 41, Op.move (Operand.tmp 8), none⟩, []⟩,
  ⟨⟨some 42, Op.fieldAddr 26 (Operand.tmp 3) 1, none⟩, []⟩,
  ⟨⟨some 43, Op.load 24 (Operand.tmp 42), none⟩, []⟩,
  ⟨⟨some 44, Op.move (Operand.tmp 9), none⟩, []⟩,
  ⟨⟨some 45, Op.indexAddr 24 (Operand.tmp 43) (Operand.tmp 44), none⟩, []⟩,
  ⟨⟨some 46, Op.indexAddr 71 (Operand.tmp 45) (Operand.const (Value.int IntKind.i64 1)), none⟩, []⟩,
  ⟨⟨some 47, Op.load 3 (Operand.tmp 46), none⟩, []⟩,
  ⟨⟨some 48, Op.indexAddr 27 (Operand.tmp 41) (Operand.tmp 47), none⟩, []⟩,
  ⟨⟨some 49, Op.load 3 (Operand.tmp 48), none⟩, []⟩,
  ⟨⟨some 50, Op.binOp BinOp.lss 3 (Operand.tmp 49) (Operand.const (Value.int IntKind.i64 0)) 3, none⟩, []⟩,
  ⟨⟨some 51, Op.binOp BinOp.neq 4 (Operand.tmp 40) (Operand.tmp 50) 4, none⟩, []⟩]) (.cond (Operand.tmp 51) (.reg [⟨⟨some 52, Op.move (Operand.tmp 7), none⟩, []⟩,
  ⟨⟨some 53, Op.move (Operand.tmp 9), none⟩, []⟩,
  ⟨⟨some 54, Op.buildSlice 27 1 #[(0, (Operand.tmp 53))], none⟩, []⟩,
  ⟨⟨some 55, Op.call { callee := (Callee.builtin Builtin.append), args := #[(Operand.tmp 52), (Operand.tmp 54)], argTypes := #[27, 27] }, none⟩, []⟩,
  ⟨⟨some 7, Op.assign (Operand.tmp 55), none⟩, []⟩]) .skip))) (.reg [⟨⟨some 29, Op.move (Operand.tmp 9), none⟩, []⟩,
  ⟨⟨some 30, Op.binOp BinOp.add 3 (Operand.tmp 29) (Operand.const (Value.int IntKind.i64 1)) 3, none⟩, []⟩,
  ⟨⟨some 9, Op.assign (Operand.tmp 30), none⟩, []⟩])))))) (.seq (.reg [⟨⟨some 56, Op.move (Operand.tmp 7), none⟩, []⟩,
  ⟨⟨some 6, Op.assign (Operand.tmp 56), none⟩, []⟩]) .ret)))))
theorem sl47 : slim Try.f47.ntmps ords47 (Try.f47.body.getD .skip) = some cd47 := by kernel_rfl
theorem in47 {args : List Value} {H : AH} {R : Value → AH → Prop} (hl : args.length = 3) (h : ∀ (Q : Exit → Sl → AH → Prop), (∀ e s H, endA Try.prog [ResultVar.tmp 6] R e s H → Q e s H) → wpC Try.prog cd47 Q (enterA args) H) : ACalls Try.prog 47 args H R :=
  ACalls.intro (by kernel_rfl) Try.func47 rfl (by kernel_rfl) sl47 hl (of_decide_eq_true (by kernel_rfl)) (by kernel_rfl) h
def ords43 : List (Nat × List (Nat × Bool)) := [(5, [(0, false), (1, false), (2, false), (3, false), (4, false), (5, false), (7, false), (6, true), (8, true)])]
def cd43 : Cd := (.seq (.reg [⟨⟨some 3, Op.box 26 (Operand.tmp 0), none⟩, []⟩,
  ⟨⟨some 6, Op.assign (Operand.const (Value.slice none 0 0)), none⟩, []⟩]) (.seq (.reg [⟨⟨some 9, Op.buildSlice 27 0 #[], none⟩, []⟩,
  ⟨⟨some 7, Op.assign (Operand.tmp 9), none⟩, []⟩]) (.seq (.seq (.reg [⟨⟨some 8, Op.assign (Operand.const (Value.int IntKind.i64 0)), none⟩, []⟩]) (.block 0 (.loop (.seq (.seq (.reg [⟨⟨some 10, Op.move (Operand.tmp 8), none⟩, []⟩,
  ⟨⟨some 11, Op.move (Operand.tmp 1), none⟩, []⟩,
  ⟨⟨some 12, Op.call { callee := (Callee.builtin Builtin.len), args := #[(Operand.tmp 11)], argTypes := #[27] }, none⟩, []⟩,
  ⟨⟨some 13, Op.binOp BinOp.lss 3 (Operand.tmp 10) (Operand.tmp 12) 3, none⟩, []⟩]) (.cond (Operand.tmp 13) .skip (.exit 0))) (.seq (.block 1 (.seq (.reg [⟨⟨some 16, Op.load 26 (Operand.tmp 3), none⟩, []⟩,
  ⟨⟨some 17, Op.move (Operand.tmp 1), none⟩, []⟩,
  ⟨⟨some 18, Op.move (Operand.tmp 1), none⟩, []⟩,
  ⟨⟨some 19, Op.move (Operand.tmp 8), none⟩, []⟩,
  ⟨⟨some 20, Op.indexAddr 27 (Operand.tmp 18) (Operand.tmp 19), none⟩, []⟩,
  ⟨⟨some 21, Op.load 3 (Operand.tmp 20), none⟩, []⟩,
  ⟨⟨some 23, Op.move (Operand.tmp 2), none⟩, []⟩,
  ⟨⟨some 22, Op.call { callee := (Callee.value (Operand.func 47)), args := #[(Operand.tmp 16), (Operand.tmp 17), (Operand.tmp 21)], argTypes := #[26, 27, 3] }, none⟩, []⟩,
  ⟨⟨some 24, Op.call { callee := (Callee.value (Operand.func 42)), args := #[(Operand.tmp 22), (Operand.tmp 23)], argTypes := #[27, 3] }, none⟩, []⟩]) (.cond (Operand.tmp 24) (.reg [⟨⟨some 25, Op.move (Operand.tmp 7), none⟩, []⟩,
  ⟨⟨some 26, Op.move (Operand.tmp 1), none⟩, []⟩,
  ⟨⟨some 27, Op.move (Operand.tmp 8), none⟩, []⟩,
  ⟨⟨some 28, Op.indexAddr 27 (Operand.tmp 26) (Operand.tmp 27), none⟩, []⟩,
  ⟨⟨some 29, Op.load 3 (Operand.tmp 28), none⟩, []⟩,
  ⟨⟨some 30, Op.buildSlice 27 1 #[(0, (Operand.tmp 29))], none⟩, []⟩,
  ⟨⟨some 31, Op.call { callee := (Callee.builtin Builtin.append), args := #[(Operand.tmp 25), (Operand.tmp 30)], argTypes := #[27, 27] }, none⟩, []⟩,
  ⟨⟨some 7, Op.assign (Operand.tmp 31), none⟩, []⟩]) .skip))) (.reg [⟨⟨some 14, Op.move (Operand.tmp 8), none⟩, []⟩,
  ⟨⟨some 15, Op.binOp BinOp.add 3 (Operand.tmp 14) (Operand.const (Value.int IntKind.i64 1)) 3, none⟩, []⟩,
  ⟨⟨some 8, Op.assign (Operand.tmp 15), none⟩, []⟩])))))) (.seq (.reg [⟨⟨some 32, Op.move (Operand.tmp 7), none⟩, []⟩,
  ⟨⟨some 33, Op.move (Operand.tmp 2), none⟩, []⟩,
  ⟨⟨some 34, Op.call { callee := (Callee.value (Operand.func 56)), args := #[(Operand.tmp 32), (Operand.tmp 33)], argTypes := #[27, 3] }, none⟩, []⟩,
  ⟨⟨some 6, Op.assign (Operand.tmp 34), none⟩, []⟩]) .ret))))
theorem sl43 : slim Try.f43.ntmps ords43 (Try.f43.body.getD .skip) = some cd43 := by kernel_rfl
theorem in43 {args : List Value} {H : AH} {R : Value → AH → Prop} (hl : args.length = 3) (h : ∀ (Q : Exit → Sl → AH → Prop), (∀ e s H, endA Try.prog [ResultVar.tmp 6] R e s H → Q e s H) → wpC Try.prog cd43 Q (enterA args) H) : ACalls Try.prog 43 args H R :=
  ACalls.intro (by kernel_rfl) Try.func43 rfl (by kernel_rfl) sl43 hl (of_decide_eq_true (by kernel_rfl)) (by kernel_rfl) h
end Go.Proofs.Ytldcbmmmheookaa.Ai
namespace Go.Proofs.Ytldcbmmmheookaa.Ai
open Go Go.RowKit
set_option linter.unusedVariables false
set_option linter.unusedSimpArgs false
/-- the cut as spec finds it -/
def cutS (n : Nat) (es : List (Int × Int)) (T : List Int) (e : Int) (k : Nat) : List Int := (alls k).filter fun f => decide (decide ((bfs (roadsL n (prtG es (wo1 T e))) (enA es e)).getD (enA es f) 0 < 0) ≠ decide ((bfs (roadsL n (prtG es (wo1 T e))) (enA es e)).getD (enB es f) 0 < 0))
theorem cutS_succ (n : Nat) (es : List (Int × Int)) (T : List Int) (e : Int) (k : Nat) : cutS n es T e (k + 1) = cutS n es T e k ++ if decide ((bfs (roadsL n (prtG es (wo1 T e))) (enA es e)).getD (enA es (k : Int)) 0 < 0) ≠ decide ((bfs (roadsL n (prtG es (wo1 T e))) (enA es e)).getD (enB es (k : Int)) 0 < 0) then [(k : Int)] else [] := by
  unfold cutS
  rw [alls_succ, List.filter_append]
  congr 1
  rw [List.filter_cons, List.filter_nil]
  by_cases h : decide ((bfs (roadsL n (prtG es (wo1 T e))) (enA es e)).getD (enA es (k : Int)) 0 < 0) ≠ decide ((bfs (roadsL n (prtG es (wo1 T e))) (enA es e)).getD (enB es (k : Int)) 0 < 0)
  · rw [if_pos (decide_eq_true h), if_pos h]
  · rw [if_neg (by rw [decide_eq_false h]; decide), if_neg h]
theorem cutS_eq {n : Nat} {es : List (Int × Int)} (hg : Grd (n : Int) es) {T : List Int} (hT : TreL n es T) {e : Int} (he : e ∈ T) : cutS n es T e es.length = cutL n es T e := by
  unfold cutS cutL
  refine List.filter_congr fun f hf => ?_
  have hfr := (alls_mem _ _).1 hf
  have hfe := en_eq hg hfr
  have hee := en_eq hg (hT.2.2.1 e he)
  have tw := wo1_in hT.2.2.1 e
  have h1 := jnB_iff hg tw (i := enA es e) (j := enA es f) (by omega) (by omega)
  have h2 := jnB_iff hg tw (i := enA es e) (j := enB es f) (by omega) (by omega)
  have h3 := jnB_not hg tw (i := enA es f) (j := enB es f) (by omega) (by omega)
  have hc := (hT.tree hg).cut he (u := enA es f) (v := enB es f) (by omega) (by omega)
  rw [Bool.eq_iff_iff, decide_eq_true_eq, Bool.not_eq_true', h3, hc, ← h1, ← h2]
  unfold jnB
  rw [decide_eq_true_eq, decide_eq_true_eq]
  rw [ne_eq, decide_eq_decide]
  constructor
  · intro h q; exact h ⟨fun z => by have := mt q.2; omega, fun z => by have := mt q.1; omega⟩
  · intro h q; exact h ⟨fun z => by have := mt q.2; omega, fun z => by have := mt q.1; omega⟩
set_option maxRecDepth 20000 in
set_option maxHeartbeats 8000000 in
theorem l7Cut_c (n : Nat) (v w : Value) (es : List (Int × Int)) (T : List Int) (e : Int) (H : AH) (hr : RowP 71 H v es) (hg : Grd (n : Int) es) (hw : Row 3 H w T) (hT : TreL n es T) (he : e ∈ T) :
    ACalls Try.prog 47 [.agg (List.toArray [.int .i64 (n : Int), v]), w, .int .i64 e] H fun r H' => Own 3 H H' r (cutL n es T e) ∧ H <+: H' := by
  have h28 : es.length ≤ 28 := grd_len hg
  have hn8 : n ≤ 8 := by have := hg.1; omega
  have htl := hT.1
  have her := hT.2.2.1 e he
  have hee := en_eq hg her
  have he2 : e.toNat < es.length := by omega
  refine in47 rfl ?_
  intro Q hQ
  simp (maxSteps := 1000000) (disch := omega) only [cd47, hr.boxG, S, S1, S2, S3, S4, S5, ST, eq_self, reduceIte, reduceCtorEq, Nat.reduceEqDiff, Nat.reduceAdd]
  generalize hA : H ++ [AObj.cells [.int .i64 n, v] 26 false] = A
  have pA : H <+: A := by rw [← hA]; exact List.prefix_append _ _
  have cA : A[H.length]? = some (.cells [.int .i64 n, v] 26 false) := by rw [← hA]; exact at_new ..
  have rA := hr.pre pA
  have wA := hw.pre pA
  generalize hB : A ++ [AObj.cells [] 3 false] = B
  have pB : A <+: B := by rw [← hB]; exact List.prefix_append _ _
  have own0 : Own 3 A B (.slice (some ⟨A.length, 0, none⟩) 0 0) [] := .inr ⟨A.length, rfl, Nat.le_refl _, by rw [← hB]; exact at_new ..⟩
  have cB := pre_at pB cA
  have rB := rA.pre pB
  have wB := wA.pre pB
  simp (maxSteps := 1000000) (disch := omega) only [ld_agg ag26 cs26 cB, S, S1, S2, S3, S4, S5, ST, eq_self, reduceIte, reduceCtorEq, Nat.reduceEqDiff, Nat.reduceAdd]
  generalize hC : B ++ [AObj.cells [.int .i64 e] 3 false] = C
  have pC : B <+: C := by rw [← hC]; exact List.prefix_append _ _
  have rC1 : Row 3 C (.slice (some ⟨B.length, 0, none⟩) 1 1) [e] := .inr ⟨B.length, 0, [.int .i64 e], false, rfl, by rw [← hC]; exact at_new .., by simp, rfl⟩
  have cC := pre_at pC cB
  have rC := rB.pre pC
  have ld0 : ∀ {K : AH}, RowP 71 K v es → cellA K (rowO v) (rowK v + 2 * e.toNat) = some (.int .i64 (enA es e : Int)) := fun h => by
    rw [h.cell0 he2, congrArg Prod.fst hee.1]
  simp (maxSteps := 1000000) (disch := omega) only [cell_of cC, rC.ix Try.underlying24 cs71, ld0 rC, S, S1, S2, S3, S4, S5, ST, eq_self, reduceIte, reduceCtorEq, Nat.reduceEqDiff, Nat.reduceAdd]
  refine CallH.by (l3Only_c w _ T [e] C (wB.pre pC) rC1 (by omega) (by simp)) ?_
  rintro w1 D ⟨hD, pD⟩
  rw [without_eq] at hD
  have rD := rC.pre pD
  have cD := pre_at pD cC
  simp (maxSteps := 1000000) (disch := omega) only [cell_of cD, ld0 rD, ld_agg ag26 cs26 cD, S, S1, S2, S3, S4, S5, ST, eq_self, reduceIte, reduceCtorEq, Nat.reduceEqDiff, Nat.reduceAdd]
  refine CallH.by (l7Part_c n v w1 es (wo1 T e) D rD hD.row (wo1_in hT.2.2.1 e) (by have := List.length_filter_le (fun y => decide (y ≠ e)) T; unfold wo1; omega)) ?_
  rintro _ E ⟨b, rfl, hb, pE⟩
  have rE := rD.pre pE
  have cE := pre_at pE cD
  simp (maxSteps := 1000000) (disch := omega) only [cell_of cE, ld0 rE, S, S1, S2, S3, S4, S5, ST, eq_self, reduceIte, reduceCtorEq, Nat.reduceEqDiff, Nat.reduceAdd]
  refine CallH.by (l3Far_c n b (prtG es (wo1 T e)) (enA es e) E hb.row (by rw [prt_len]; have := List.length_filter_le (fun y => decide (y ≠ e)) T; unfold wo1; omega) (by omega) (by omega)) ?_
  rintro u F ⟨hF, pF⟩
  rw [Int.toNat_natCast] at hF
  have bl := (bfs_rng (roadsL n (prtG es (wo1 T e))) (roadsL_ok _ _) (enA es e) (by rw [roadsL_len]; omega)).1
  rw [roadsL_len] at bl
  generalize hfar : bfs (roadsL n (prtG es (wo1 T e))) (enA es e) = far at *
  have pAF : A <+: F := pB.trans (pC.trans (pD.trans (pE.trans pF)))
  have ownF := own0.pre (pC.trans (pD.trans (pE.trans pF)))
  try simp (maxSteps := 1000000) (disch := omega) only [S, S1, S2, S3, S4, S5, ST, eq_self, reduceIte, reduceCtorEq, Nat.reduceEqDiff, Nat.reduceAdd]
  refine LoopH.by (fun m s H' => ∃ i : Nat, m + i = es.length ∧ s 3 = .pointer (some ⟨H.length, 0, none⟩) ∧ s 8 = u ∧ s 9 = .int .i64 ((i : Nat) : Int) ∧ Own 3 A H' (s 7) (cutS n es T e i) ∧ Row 3 H' u far ∧ Apart u (s 7) ∧ A <+: H') es.length ?_ ?_
  · refine ⟨0, by simp, ?_⟩
    simp (maxSteps := 1000000) (disch := omega) only [S, S1, S2, S3, S4, S5, ST, eq_self, reduceIte, reduceCtorEq, Nat.reduceEqDiff, Nat.reduceAdd]
    have f1 : Own 3 A F (.slice (some ⟨A.length, 0, none⟩) 0 0) (cutS n es T e 0) := ownF
    have f2 := hF.row
    have lE : A.length < E.length := by
      have := (pC.trans (pD.trans pE)).length_le
      have lB : B.length = A.length + 1 := by rw [← hB]; simp
      omega
    have f3 : Apart u (.slice (some ⟨A.length, 0, none⟩) 0 0) := by
      rcases hF with ⟨q, _⟩ | ⟨o, q1, q2, q3⟩
      · exact .inr (.inl q)
      · refine .inr (.inr ?_)
        rw [q1]
        show o ≠ A.length
        omega
    (repeat' first | exact f1 | exact f2 | exact f3 | exact pAF | apply And.intro) <;> first | (simp only [Value.int.injEq, true_and]; omega) | omega | rfl | assumption | (simp; done) | (simp; omega)
  rintro m s H' ⟨i, hm, s3, s8, s9, hO, hU, hap, hp⟩
  generalize hV : s 7 = V at *
  have cH := pre_at hp cA
  have rH := rA.pre hp
  simp (maxSteps := 1000000) (disch := omega) only [s3, s8, s9, hV, cell_of cH, rH.len Try.underlying24, S, S1, S2, S3, S4, S5, ST, eq_self, reduceIte, reduceCtorEq, Nat.reduceEqDiff, Nat.reduceAdd]
  refine brD.intro (fun g => ?_) (fun g => ?_)
  · have hi : i < es.length := by omega
    have hir : (0 : Int) ≤ ((i : Nat) : Int) ∧ ((i : Nat) : Int) < es.length := by omega
    have hie := en_eq hg hir
    rw [Int.toNat_natCast] at hie
    have c0 := rH.cell0 hi
    have c1 := rH.cell1 hi
    rw [congrArg Prod.fst hie.1] at c0
    rw [congrArg Prod.snd hie.1] at c1
    have k0 := hU.cell (show enA es (i : Int) < far.length by omega)
    have k1 := hU.cell (show enB es (i : Int) < far.length by omega)
    have hsc := cutS_succ n es T e i
    rw [hfar] at hsc
    simp (maxSteps := 1000000) (disch := omega) only [s3, s8, s9, hV, cell_of cH, rH.ix Try.underlying24 cs71, Int.toNat_natCast, c0, c1, hU.ix Try.underlying27 cs3, k0, k1, S, S1, S2, S3, S4, S5, ST, eq_self, reduceIte, reduceCtorEq, Nat.reduceEqDiff, Nat.reduceAdd]
    refine brD.intro (fun z => ?_) (fun z => ?_)
    · rw [if_pos z] at hsc
      have hcl : (cutS n es T e i).length ≤ i := by unfold cutS; exact Nat.le_trans (List.length_filter_le _ _) (by rw [alls_len]; exact Nat.le_refl _)
      obtain ⟨w2, K, a1, a2, a3, a4, a5, a6⟩ := own1_27 hO hp (by omega) (i : Int)
      rw [← hsc] at a2
      have hUK : Row 3 K u far := hU.kept hap a4
      have hap2 : Apart u w2 := Apart.new hU a5
      simp (maxSteps := 1000000) (disch := omega) only [s3, s8, s9, hV, a1, wrap64, S, S1, S2, S3, S4, S5, ST, eq_self, reduceIte, reduceCtorEq, Nat.reduceEqDiff, Nat.reduceAdd]
      refine ⟨m - 1, by omega, i + 1, ?_⟩
      (repeat' first | exact a2 | exact a3 | exact hUK | exact hap2 | apply And.intro) <;> first | (simp only [Value.int.injEq, true_and]; omega) | omega | rfl | assumption | (simp; done) | (simp; omega)
    · rw [if_neg z, List.append_nil] at hsc
      rw [← hsc] at hO
      simp (maxSteps := 1000000) (disch := omega) only [s3, s8, s9, hV, wrap64, S, S1, S2, S3, S4, S5, ST, eq_self, reduceIte, reduceCtorEq, Nat.reduceEqDiff, Nat.reduceAdd]
      refine ⟨m - 1, by omega, i + 1, ?_⟩
      (repeat' first | exact hO | exact hU | exact hap | exact hp | apply And.intro) <;> first | (simp only [Value.int.injEq, true_and]; omega) | omega | rfl | assumption | (simp; done) | (simp; omega)
  · have : i = es.length := by omega
    subst this
    simp (maxSteps := 1000000) (disch := omega) only [hV, S, S1, S2, S3, S4, S5, ST, eq_self, reduceIte, reduceCtorEq, Nat.reduceEqDiff, Nat.reduceAdd]
    refine hQ _ _ _ ?_
    simp (maxSteps := 1000000) (disch := omega) only [hV, hO.row.tup, S, S1, S2, S3, S4, S5, ST, eq_self, reduceIte, reduceCtorEq, Nat.reduceEqDiff, Nat.reduceAdd]
    rw [cutS_eq hg hT he] at hO
    exact ⟨hO.base pA, pA.trans hp⟩
theorem cir_cut {n : Nat} {es : List (Int × Int)} (hg : Grd (n : Int) es) {T : List Int} (hT : EdIn es T) {f : Int} (hf : 0 ≤ f ∧ f < es.length) (e : Int) : f ∈ cutL n es T e ↔ (!jnB es n (wo1 T e) (enA es f) (enB es f)) = true := by
  have := en_eq hg hf
  rw [cut_mem hg hT, Bool.not_eq_true', jnB_not hg (wo1_in hT e) (by omega) (by omega)]
  exact ⟨fun h => h.2, fun h => ⟨hf, h⟩⟩
set_option maxRecDepth 20000 in
set_option maxHeartbeats 4000000 in
theorem l7Round_c (n : Nat) (v w : Value) (es : List (Int × Int)) (T : List Int) (f : Int) (H : AH) (hr : RowP 71 H v es) (hg : Grd (n : Int) es) (hw : Row 3 H w T) (hT : TreL n es T) (hf : 0 ≤ f ∧ f < es.length) (hfT : f ∉ T) :
    ACalls Try.prog 43 [.agg (List.toArray [.int .i64 (n : Int), v]), w, .int .i64 f] H fun r H' => Own 3 H H' r (crcL n es T f) ∧ H <+: H' := by
  have h28 : es.length ≤ 28 := grd_len hg
  have hn8 : n ≤ 8 := by have := hg.1; omega
  have htl := hT.1
  refine in43 rfl ?_
  intro Q hQ
  simp (maxSteps := 1000000) (disch := omega) only [cd43, hr.boxG, S, S1, S2, S3, S4, S5, ST, eq_self, reduceIte, reduceCtorEq, Nat.reduceEqDiff, Nat.reduceAdd]
  generalize hA : H ++ [AObj.cells [.int .i64 n, v] 26 false] = A
  have pA : H <+: A := by rw [← hA]; exact List.prefix_append _ _
  have cA : A[H.length]? = some (.cells [.int .i64 n, v] 26 false) := by rw [← hA]; exact at_new ..
  have rA := hr.pre pA
  have wA := hw.pre pA
  generalize hB : A ++ [AObj.cells [] 3 false] = B
  have pB : A <+: B := by rw [← hB]; exact List.prefix_append _ _
  have own0 : Own 3 A B (.slice (some ⟨A.length, 0, none⟩) 0 0) [] := .inr ⟨A.length, rfl, Nat.le_refl _, by rw [← hB]; exact at_new ..⟩
  try simp (maxSteps := 1000000) (disch := omega) only [S, S1, S2, S3, S4, S5, ST, eq_self, reduceIte, reduceCtorEq, Nat.reduceEqDiff, Nat.reduceAdd]
  refine LoopH.by (fun m s H' => ∃ i : Nat, m + i = T.length ∧ s 1 = w ∧ s 2 = .int .i64 f ∧ s 3 = .pointer (some ⟨H.length, 0, none⟩) ∧ s 8 = .int .i64 ((i : Nat) : Int) ∧ Own 3 A H' (s 7) (cirLT n es T (T.take i) f) ∧ A <+: H') T.length ?_ ?_
  · refine ⟨0, by simp, ?_⟩
    simp (maxSteps := 1000000) (disch := omega) only [S, S1, S2, S3, S4, S5, ST, eq_self, reduceIte, reduceCtorEq, Nat.reduceEqDiff, Nat.reduceAdd]
    have f1 : Own 3 A B (.slice (some ⟨A.length, 0, none⟩) 0 0) (cirLT n es T (T.take 0) f) := own0
    (repeat' first | exact f1 | exact pB | apply And.intro) <;> first | (simp only [Value.int.injEq, true_and]; omega) | omega | rfl | assumption | (simp; done) | (simp; omega)
  rintro m s H' ⟨i, hm, s1, s2, s3, s8, hO, hp⟩
  generalize hU : s 7 = U at *
  have wH := wA.pre hp
  have rH := rA.pre hp
  have cH := pre_at hp cA
  simp (maxSteps := 1000000) (disch := omega) only [s1, s2, s3, s8, hU, wH.len Try.underlying27, S, S1, S2, S3, S4, S5, ST, eq_self, reduceIte, reduceCtorEq, Nat.reduceEqDiff, Nat.reduceAdd]
  refine brD.intro (fun g => ?_) (fun g => ?_)
  rotate_left
  · have hi : i = T.length := by omega
    subst hi
    rw [List.take_length] at hO
    have hlen : (cirLT n es T T f).length ≤ T.length := List.length_filter_le _ _
    simp (maxSteps := 1000000) (disch := omega) only [s1, s2, s3, s8, hU, S, S1, S2, S3, S4, S5, ST, eq_self, reduceIte, reduceCtorEq, Nat.reduceEqDiff, Nat.reduceAdd]
    refine CallH.by (l1Put_c U (cirLT n es T T f) f H' hO.row (by omega) (fun q => hfT (List.mem_filter.1 q).1)) ?_
    rintro w2 D ⟨hD, pD⟩
    simp (maxSteps := 1000000) (disch := omega) only [S, S1, S2, S3, S4, S5, ST, eq_self, reduceIte, reduceCtorEq, Nat.reduceEqDiff, Nat.reduceAdd]
    refine hQ _ _ _ ?_
    simp (maxSteps := 1000000) (disch := omega) only [hD.row.tup, S, S1, S2, S3, S4, S5, ST, eq_self, reduceIte, reduceCtorEq, Nat.reduceEqDiff, Nat.reduceAdd]
    exact ⟨ownB hD (by have := hp.length_le; have := pA.length_le; omega), pA.trans (hp.trans pD)⟩
  have hi : i < T.length := by omega
  have hci := wH.cell hi
  have hmi : T.getD i 0 ∈ T := by simp [hi]
  have htk : T.take (i + 1) = T.take i ++ [T.getD i 0] := by rw [List.take_succ_eq_append_getElem hi]; simp [hi]
  obtain ⟨e, he⟩ : ∃ e, e = T.getD i 0 := ⟨_, rfl⟩
  rw [← he] at hci hmi htk
  simp (maxSteps := 1000000) (disch := omega) only [s1, s2, s3, s8, hU, wH.ix Try.underlying27 cs3, Int.toNat_natCast, hci, ld_agg ag26 cs26 cH, S, S1, S2, S3, S4, S5, ST, eq_self, reduceIte, reduceCtorEq, Nat.reduceEqDiff, Nat.reduceAdd]
  refine CallH.by (l7Cut_c n v w es T e H' rH hg wH hT hmi) ?_
  rintro w1 C ⟨hC, pC⟩
  have hcl : (cutL n es T e).length ≤ es.length := by unfold cutL; exact Nat.le_trans (List.length_filter_le _ _) (by rw [alls_len]; exact Nat.le_refl _)
  simp (maxSteps := 1000000) (disch := omega) only [s2, S, S1, S2, S3, S4, S5, ST, eq_self, reduceIte, reduceCtorEq, Nat.reduceEqDiff, Nat.reduceAdd]
  refine CallH.by (l1Has_c w1 _ f C hC.row (by omega)) ?_
  rintro _ _ ⟨rfl, rfl⟩
  have hOC := hO.pre pC
  have hpC := hp.trans pC
  have wC := wH.pre pC
  have hflt : cirLT n es T (T.take (i + 1)) f = cirLT n es T (T.take i) f ++ if f ∈ cutL n es T e then [e] else [] := by
    rw [htk]
    unfold cirLT
    rw [List.filter_append]
    congr 1
    have := cir_cut hg hT.2.2.1 hf e
    by_cases z : f ∈ cutL n es T e
    · rw [if_pos z, List.filter_cons, if_pos (this.1 z)]; rfl
    · rw [if_neg z, List.filter_cons, if_neg (fun q => z (this.2 q))]; rfl
  have hcl2 : (cirLT n es T (T.take i) f).length ≤ (T.take i).length := List.length_filter_le _ _
  rw [List.length_take] at hcl2
  simp (maxSteps := 1000000) (disch := omega) only [S, S1, S2, S3, S4, S5, ST, eq_self, reduceIte, reduceCtorEq, Nat.reduceEqDiff, Nat.reduceAdd]
  refine brD.intro (fun z => ?_) (fun z => ?_)
  · rw [if_pos z] at hflt
    obtain ⟨w2, K, a1, a2, a3, a4, a5, a6⟩ := own1_27 hOC hpC (by omega) e
    rw [← hflt] at a2
    simp (maxSteps := 1000000) (disch := omega) only [s1, s2, s3, s8, hU, wC.ix Try.underlying27 cs3, Int.toNat_natCast, wC.cell hi, ← he, a1, wrap64, S, S1, S2, S3, S4, S5, ST, eq_self, reduceIte, reduceCtorEq, Nat.reduceEqDiff, Nat.reduceAdd]
    refine ⟨m - 1, by omega, i + 1, ?_⟩
    (repeat' first | exact a2 | exact a3 | apply And.intro) <;> first | (simp only [Value.int.injEq, true_and]; omega) | omega | rfl | assumption | (simp; done) | (simp; omega)
  · rw [if_neg z, List.append_nil] at hflt
    rw [← hflt] at hOC
    simp (maxSteps := 1000000) (disch := omega) only [s1, s2, s3, s8, hU, wrap64, S, S1, S2, S3, S4, S5, ST, eq_self, reduceIte, reduceCtorEq, Nat.reduceEqDiff, Nat.reduceAdd]
    refine ⟨m - 1, by omega, i + 1, ?_⟩
    (repeat' first | exact hOC | exact hpC | apply And.intro) <;> first | (simp only [Value.int.injEq, true_and]; omega) | omega | rfl | assumption | (simp; done) | (simp; omega)
end Go.Proofs.Ytldcbmmmheookaa.Ai
namespace Go.Proofs.Ytldcbmmmheookaa.Ai
open Go
def ords54 : List (Nat × List (Nat × Bool)) := [(6, [(0, false), (1, false), (2, false), (3, false), (4, false), (5, false), (6, false), (7, false), (8, false)])]
def cd54 : Cd := (.seq (.reg [⟨⟨some 4, Op.assign (Operand.const (Value.bool false)), none⟩, []⟩]) (.seq (.seq (.reg [⟨⟨some 6, Op.move (Operand.tmp 0), none⟩, []⟩,
  ⟨⟨some 7, Op.call { callee := (Callee.builtin Builtin.len), args := #[(Operand.tmp 6)], argTypes := #[27] }, none⟩, []⟩,
  ⟨⟨some 8, Op.move (Operand.tmp 1), none⟩, []⟩,
  ⟨⟨some 9, Op.call { callee := (Callee.builtin Builtin.len), args := #[(Operand.tmp 8)], argTypes := #[27] }, none⟩, []⟩,
  ⟨⟨some 10, Op.binOp BinOp.neq 3 (Operand.tmp 7) (Operand.tmp 9) 3, none⟩, []⟩]) (.cond (Operand.tmp 10) (.seq (.reg [⟨⟨some 4, Op.assign (Operand.const (Value.bool false)), none⟩, []⟩]) .ret) .skip)) (.seq (.seq (.reg [⟨⟨some 5, Op.assign (Operand.const (Value.int IntKind.i64 0)), none⟩, []⟩]) (.block 0 (.loop (.seq (.seq (.reg [⟨⟨some 11, Op.move (Operand.tmp 5), none⟩, []⟩,
  ⟨⟨some 12, Op.move (Operand.tmp 0), none⟩, []⟩,
  ⟨⟨some 13, Op.call { callee := (Callee.builtin Builtin.len), args := #[(Operand.tmp 12)], argTypes := #[27] }, none⟩, []⟩,
  ⟨⟨some 14, Op.binOp BinOp.lss 3 (Operand.tmp 11) (Operand.tmp 13) 3, none⟩, []⟩]) (.cond (Operand.tmp 14) .skip (.exit 0))) (.seq (.block 1 (.seq (.reg [⟨⟨some 17, Op.move (Operand.tmp 0), none⟩, []⟩,
  ⟨⟨some 18, Op.move (Operand.tmp 5), none⟩, []⟩,
  ⟨⟨some 19, Op.indexAddr 27 (Operand.tmp 17) (Operand.tmp 18), none⟩, []⟩,
  ⟨⟨some 20, Op.load 3 (Operand.tmp 19), none⟩, []⟩,
  ⟨⟨some 21, Op.move (Operand.tmp 1), none⟩, []⟩,
  ⟨⟨some 22, Op.move (Operand.tmp 5), none⟩, []⟩,
  ⟨⟨some 23, Op.indexAddr 27 (Operand.tmp 21) (Operand.tmp 22), none⟩, []⟩,
  ⟨⟨some 24, Op.load 3 (Operand.tmp 23), none⟩, []⟩,
  ⟨⟨some 25, Op.binOp BinOp.neq 3 (Operand.tmp 20) (Operand.tmp 24) 3, none⟩, []⟩]) (.cond (Operand.tmp 25) (.seq (.reg [⟨⟨some 4, Op.assign (Operand.const (Value.bool false)), none⟩, []⟩]) .ret) .skip))) (.reg [⟨⟨some 15, Op.move (Operand.tmp 5), none⟩, []⟩,
  ⟨⟨some 16, Op.binOp BinOp.add 3 (Operand.tmp 15) (Operand.const (Value.int IntKind.i64 1)) 3, none⟩, []⟩,
  ⟨⟨some 5, Op.assign (Operand.tmp 16), none⟩, []⟩])))))) (.seq (.reg [⟨⟨some 4, Op.assign (Operand.const (Value.bool true)), none⟩, []⟩]) .ret))))
theorem sl54 : slim Try.f54.ntmps ords54 (Try.f54.body.getD .skip) = some cd54 := by kernel_rfl
theorem in54 {args : List Value} {H : AH} {R : Value → AH → Prop} (hl : args.length = 2) (h : ∀ (Q : Exit → Sl → AH → Prop), (∀ e s H, endA Try.prog [ResultVar.tmp 4] R e s H → Q e s H) → wpC Try.prog cd54 Q (enterA args) H) : ACalls Try.prog 54 args H R :=
  ACalls.intro (by kernel_rfl) Try.func54 rfl (by kernel_rfl) sl54 hl (of_decide_eq_true (by kernel_rfl)) (by kernel_rfl) h
end Go.Proofs.Ytldcbmmmheookaa.Ai
namespace Go.Proofs.Ytldcbmmmheookaa.Ai
open Go Go.RowKit
set_option linter.unusedVariables false
set_option linter.unusedSimpArgs false
theorem l1Same_c (v w : Value) (xs ys : List Int) (H : AH) (hr : Row 3 H v xs) (hr2 : Row 3 H w ys) (hlen : xs.length ≤ 1099511627776) : ACalls Try.prog 54 [v, w] H fun r H' => r = .bool (decide (xs = ys)) ∧ H = H' := by
  refine in54 rfl ?_
  intro Q hQ
  simp (maxSteps := 1000000) (disch := omega) only [cd54, hr.len Try.underlying27, hr2.len Try.underlying27, S, S1, S2, S3, S4, S5, ST, eq_self, reduceIte, reduceCtorEq, Nat.reduceEqDiff, Nat.reduceAdd]
  refine brD.intro (fun g => ?_) (fun g => ?_) <;> simp (maxSteps := 1000000) (disch := omega) only [hr.len Try.underlying27, S, S1, S2, S3, S4, S5, ST, eq_self, reduceIte, reduceCtorEq, Nat.reduceEqDiff, Nat.reduceAdd]
  · refine hQ _ _ _ ?_
    simp (maxSteps := 1000000) (disch := omega) only [S, S1, S2, S3, S4, S5, ST, eq_self, reduceIte, reduceCtorEq, Nat.reduceEqDiff, Nat.reduceAdd]
    have : xs ≠ ys := fun e => g (by rw [e])
    simp [this]
  · have hl : xs.length = ys.length := by omega
    refine LoopH.by (fun m s H' => ∃ i, m + i = xs.length ∧ s 0 = v ∧ s 1 = w ∧ s 5 = .int .i64 ((i : Nat) : Int) ∧ H = H' ∧ xs.take i = ys.take i) xs.length ?_ ?_
    · exact ⟨0, by simp, rfl, rfl, rfl, rfl, by simp⟩
    · rintro m s H' ⟨i, hm, h0, h1, h5, rfl, hn⟩
      simp (maxSteps := 1000000) (disch := omega) only [h0, h1, h5, hr.len Try.underlying27, S, S1, S2, S3, S4, S5, ST, eq_self, reduceIte, reduceCtorEq, Nat.reduceEqDiff, Nat.reduceAdd]
      refine brD.intro (fun g => ?_) (fun g => ?_) <;> simp (maxSteps := 1000000) (disch := omega) only [h0, h1, h5, hr.ix Try.underlying27 cs3, hr.cell, hr2.ix Try.underlying27 cs3, hr2.cell, Int.toNat_natCast, S, S1, S2, S3, S4, S5, ST, eq_self, reduceIte, reduceCtorEq, Nat.reduceEqDiff, Nat.reduceAdd]
      · have hi : i < xs.length := by omega
        have hg : xs.getD i 0 = xs[i] := by simp [hi]
        have hg2 : ys.getD i 0 = ys[i] := by simp [hl ▸ hi]
        refine brD.intro (fun e => ?_) (fun e => ?_) <;> simp (maxSteps := 1000000) (disch := omega) only [h0, h1, h5, wrap64, S, S1, S2, S3, S4, S5, ST, eq_self, reduceIte, reduceCtorEq, Nat.reduceEqDiff, Nat.reduceAdd]
        · refine hQ _ _ _ ?_
          simp (maxSteps := 1000000) (disch := omega) only [S, S1, S2, S3, S4, S5, ST, eq_self, reduceIte, reduceCtorEq, Nat.reduceEqDiff, Nat.reduceAdd]
          have : xs ≠ ys := by
            intro e'
            subst e'
            exact e rfl
          simp [this]
        · refine ⟨m - 1, by omega, i + 1, by omega, by simp, ?_⟩
          rw [List.take_add_one, List.take_add_one, hn, List.getElem?_eq_getElem hi, List.getElem?_eq_getElem (hl ▸ hi)]
          rw [hg, hg2] at e
          rw [Decidable.not_not.1 e]
      · refine hQ _ _ _ ?_
        simp (maxSteps := 1000000) (disch := omega) only [S, S1, S2, S3, S4, S5, ST, eq_self, reduceIte, reduceCtorEq, Nat.reduceEqDiff, Nat.reduceAdd]
        rw [List.take_of_length_le (by omega), List.take_of_length_le (by omega)] at hn
        simp [hn]
end Go.Proofs.Ytldcbmmmheookaa.Ai
namespace Go.Proofs.Ytldcbmmmheookaa.Ai
open Go
def ords17 : List (Nat × List (Nat × Bool)) := []
def cd17 : Cd := (.seq (.reg [⟨⟨some 3, Op.box 26 (Operand.tmp 0), none⟩, []⟩,
  ⟨⟨some 6, Op.assign (Operand.const (Value.slice none 0 0)), none⟩, []⟩,
  ⟨⟨some 7, Op.assign (Operand.const (Value.bool false)), none⟩, []⟩]) (.seq (.reg [⟨⟨some 12, Op.buildSlice 38 0 #[], none⟩, []⟩,
  ⟨⟨some 8, Op.assign (Operand.tmp 12), none⟩, []⟩]) (.seq (.seq (.reg [⟨⟨some 13, Op.load 26 (Operand.tmp 3), none⟩, []⟩,
  ⟨⟨some 14, Op.call { callee := (Callee.value (Operand.func 51)), args := #[(Operand.tmp 13)], argTypes := #[26] }, none⟩, []⟩,
  ⟨⟨some 15, Op.unOp UnOp.not 4 (Operand.tmp 14), none⟩, []⟩,
  ⟨⟨some 16, Op.move (Operand.tmp 15), none⟩, []⟩,
  ⟨⟨some 17, Op.load 26 (Operand.tmp 3), some (16, false)⟩, []⟩,
  ⟨⟨some 18, Op.move (Operand.tmp 1), some (16, false)⟩, []⟩,
  ⟨⟨some 19, Op.call { callee := (Callee.value (Operand.func 52)), args := #[(Operand.tmp 17), (Operand.tmp 18)], argTypes := #[26, 27] }, some (16, false)⟩, []⟩,
  ⟨⟨some 20, Op.unOp UnOp.not 4 (Operand.tmp 19), some (16, false)⟩, []⟩,
  ⟨⟨some 21, Op.pick (Operand.tmp 16) (Operand.const (Value.bool true)) (Operand.tmp 20), none⟩, []⟩,
  ⟨⟨some 22, Op.move (Operand.tmp 21), none⟩, []⟩,
  ⟨⟨some 23, Op.load 26 (Operand.tmp 3), some (22, false)⟩, []⟩,
  ⟨⟨some 24, Op.move (Operand.tmp 2), some (22, false)⟩, []⟩,
  ⟨⟨some 25, Op.call { callee := (Callee.value (Operand.func 52)), args := #[(Operand.tmp 23), (Operand.tmp 24)], argTypes := #[26, 27] }, some (22, false)⟩, []⟩,
  ⟨⟨some 26, Op.unOp UnOp.not 4 (Operand.tmp 25), some (22, false)⟩, []⟩,
  ⟨⟨some 27, Op.pick (Operand.tmp 22) (Operand.const (Value.bool true)) (Operand.tmp 26), none⟩, []⟩]) (.cond (Operand.tmp 27) (.seq (.reg [⟨⟨some 28, Op.move (Operand.tmp 8), none⟩, []⟩,
  ⟨⟨some 6, Op.assign (Operand.tmp 28), none⟩, []⟩,
  ⟨⟨some 7, Op.assign (Operand.const (Value.bool false)), none⟩, []⟩]) .ret) .skip)) (.seq (.reg [⟨⟨some 29, Op.move (Operand.tmp 1), none⟩, []⟩,
  ⟨⟨some 30, Op.call { callee := (Callee.value (Operand.func 53)), args := #[(Operand.tmp 29)], argTypes := #[27] }, none⟩, []⟩,
  ⟨⟨some 9, Op.assign (Operand.tmp 30), none⟩, []⟩]) (.seq (.reg [⟨⟨some 31, Op.move (Operand.tmp 8), none⟩, []⟩,
  ⟨⟨some 32, Op.move (Operand.tmp 9), none⟩, []⟩,
  ⟨⟨some 33, Op.call { callee := (Callee.value (Operand.func 53)), args := #[(Operand.tmp 32)], argTypes := #[27] }, none⟩, []⟩,
  ⟨⟨some 34, Op.buildSlice 38 1 #[(0, (Operand.tmp 33))], none⟩, []⟩,
  ⟨⟨some 35, Op.call { callee := (Callee.builtin Builtin.append), args := #[(Operand.tmp 31), (Operand.tmp 34)], argTypes := #[38, 38] }, none⟩, []⟩,
  ⟨⟨some 8, Op.assign (Operand.tmp 35), none⟩, []⟩]) (.seq (.block 0 (.loop (.seq (.seq (.reg [⟨⟨some 36, Op.move (Operand.tmp 9), none⟩, []⟩,
  ⟨⟨some 37, Op.move (Operand.tmp 2), none⟩, []⟩,
  ⟨⟨some 38, Op.call { callee := (Callee.value (Operand.func 54)), args := #[(Operand.tmp 36), (Operand.tmp 37)], argTypes := #[27, 27] }, none⟩, []⟩,
  ⟨⟨some 39, Op.unOp UnOp.not 4 (Operand.tmp 38), none⟩, []⟩]) (.cond (Operand.tmp 39) .skip (.exit 0))) (.block 1 (.seq (.reg [⟨⟨some 40, Op.move (Operand.tmp 2), none⟩, []⟩,
  ⟨⟨some 41, Op.move (Operand.tmp 9), none⟩, []⟩,
  ⟨⟨some 42, Op.call { callee := (Callee.value (Operand.func 55)), args := #[(Operand.tmp 40), (Operand.tmp 41)], argTypes := #[27, 27] }, none⟩, []⟩,
  ⟨⟨some 43, Op.indexAddr 27 (Operand.tmp 42) (Operand.const (Value.int IntKind.i64 0)), none⟩, []⟩,
  ⟨⟨some 44, Op.load 3 (Operand.tmp 43), none⟩, []⟩,
  ⟨⟨some 10, Op.assign (Operand.tmp 44), none⟩, []⟩]) (.seq (.reg [⟨⟨some 45, Op.load 26 (Operand.tmp 3), none⟩, []⟩,
  ⟨⟨some 46, Op.move (Operand.tmp 9), none⟩, []⟩,
  ⟨⟨some 47, Op.move (Operand.tmp 10), none⟩, []⟩,
  ⟨⟨some 48, Op.call { callee := (Callee.value (Operand.func 43)), args := #[(Operand.tmp 45), (Operand.tmp 46), (Operand.tmp 47)], argTypes := #[26, 27, 3] }, none⟩, []⟩,
  ⟨⟨some 49, Op.move (Operand.tmp 2), none⟩, []⟩,
  ⟨⟨some 50, Op.call { callee := (Callee.value (Operand.func 55)), args := #[(Operand.tmp 48), (Operand.tmp 49)], argTypes := #[27, 27] }, none⟩, []⟩,
  ⟨⟨some 51, Op.indexAddr 27 (Operand.tmp 50) (Operand.const (Value.int IntKind.i64 0)), none⟩, []⟩,
  ⟨⟨some 52, Op.load 3 (Operand.tmp 51), none⟩, []⟩,
  ⟨⟨some 11, Op.assign (Operand.tmp 52), none⟩, []⟩]) (.seq (.reg [⟨⟨some 53, Op.move (Operand.tmp 9), none⟩, []⟩,
  ⟨⟨some 54, Op.move (Operand.tmp 11), none⟩, []⟩,
  ⟨⟨some 55, Op.buildSlice 27 1 #[(0, (Operand.tmp 54))], none⟩, []⟩,
  ⟨⟨some 56, Op.call { callee := (Callee.value (Operand.func 55)), args := #[(Operand.tmp 53), (Operand.tmp 55)], argTypes := #[27, 27] }, none⟩, []⟩,
  ⟨⟨some 57, Op.move (Operand.tmp 10), none⟩, []⟩,
  ⟨⟨some 58, Op.call { callee := (Callee.value (Operand.func 56)), args := #[(Operand.tmp 56), (Operand.tmp 57)], argTypes := #[27, 3] }, none⟩, []⟩,
  ⟨⟨some 9, Op.assign (Operand.tmp 58), none⟩, []⟩]) (.reg [⟨⟨some 59, Op.move (Operand.tmp 8), none⟩, []⟩,
  ⟨⟨some 60, Op.move (Operand.tmp 9), none⟩, []⟩,
  ⟨⟨some 61, Op.call { callee := (Callee.value (Operand.func 53)), args := #[(Operand.tmp 60)], argTypes := #[27] }, none⟩, []⟩,
  ⟨⟨some 62, Op.buildSlice 38 1 #[(0, (Operand.tmp 61))], none⟩, []⟩,
  ⟨⟨some 63, Op.call { callee := (Callee.builtin Builtin.append), args := #[(Operand.tmp 59), (Operand.tmp 62)], argTypes := #[38, 38] }, none⟩, []⟩,
  ⟨⟨some 8, Op.assign (Operand.tmp 63), none⟩, []⟩])))))))) (.seq (.reg [⟨⟨some 64, Op.move (Operand.tmp 8), none⟩, []⟩,
  ⟨⟨some 6, Op.assign (Operand.tmp 64), none⟩, []⟩,
  ⟨⟨some 7, Op.assign (Operand.const (Value.bool true)), none⟩, []⟩]) .ret)))))))
theorem sl17 : slim Try.f17.ntmps ords17 (Try.f17.body.getD .skip) = some cd17 := by kernel_rfl
theorem in17 {args : List Value} {H : AH} {R : Value → AH → Prop} (hl : args.length = 3) (h : ∀ (Q : Exit → Sl → AH → Prop), (∀ e s H, endA Try.prog [ResultVar.tmp 6, ResultVar.tmp 7] R e s H → Q e s H) → wpC Try.prog cd17 Q (enterA args) H) : ACalls Try.prog 17 args H R :=
  ACalls.intro (by kernel_rfl) Try.func17 rfl (by kernel_rfl) sl17 hl (of_decide_eq_true (by kernel_rfl)) (by kernel_rfl) h
end Go.Proofs.Ytldcbmmmheookaa.Ai
namespace Go.Proofs.Ytldcbmmmheookaa.Ai
open Go Go.RowKit
set_option linter.unusedVariables false
set_option linter.unusedSimpArgs false
theorem bsRowT {H0 : AH} {v : Value} {xs : List Int} (h : Row 3 H0 v xs) (K : AH) : buildSliceA Try.prog 38 1 [(0, v)] K = some (.slice (some ⟨K.length, 0, none⟩) 1 1, K ++ [.cells [v] 27 false]) := by
  obtain ⟨q, eq⟩ := h.shape
  rw [eq]
  exact bs1 Try.underlying38 cs27 ze27 ⟨by kernel_rfl, by kernel_rfl⟩ K rfl
/-- one more list, a copy -/
theorem InU.copy {lo : Nat} {H C : AH} {o : Nat} {us : List Value} {ls : List (List Int)} (h : InU lo H.length 27 3 H o us ls) (hlo : lo ≤ H.length) {c : Value} {xs : List Int} (pC : H <+: C) (hc : Own 3 H C c xs) (hb : ls.length ≤ 1000000000) :
    ∃ H3 us', appendA Try.prog 38 38 (.slice (some ⟨o, 0, none⟩) ls.length ls.length) (.slice (some ⟨C.length, 0, none⟩) 1 1) (C ++ [.cells [c] 27 false]) = some (.slice (some ⟨C.length + 1, 0, none⟩) (ls.length + 1) (ls.length + 1), H3) ∧
      InU lo H3.length 27 3 H3 (C.length + 1) us' (ls ++ [xs]) ∧ H3.length = C.length + 2 ∧ (∀ (j : Nat) (y : AObj), j ≠ o → C[j]? = some y → H3[j]? = some y) ∧ us' = us.take ls.length ++ [c] := by
  have hinw := InI.of hc.mine
  obtain ⟨H3, k1, k2, k3, k4⟩ := (h.pre pC).app1 (P := Try.prog) (t2 := 38) Try.underlying38 cs27 (by rw [by27]; decide) zk27 hinw hlo pC.length_le (Nat.le_refl _) (by omega)
  exact ⟨H3, _, k1, k2.wide (Nat.le_refl _) (by omega), k3, k4, rfl⟩
theorem without_put {c b : List Int} {x : Int} (hc : c.Pairwise (· < ·)) (hx : x ∈ b) : without (put c x) b = without c b := by
  refine srt_ext ((put_sorted _ _ hc).sublist List.filter_sublist) (hc.sublist List.filter_sublist) fun z => ?_
  unfold without
  rw [List.mem_filter, List.mem_filter, put_mem]
  constructor
  · rintro ⟨rfl | h, h2⟩
    · simp [hx] at h2
    · exact ⟨h, h2⟩
  · rintro ⟨h, h2⟩
    exact ⟨.inr h, h2⟩
abbrev TwOk (n : Int) (es : List (Int × Int)) (a b : List Int) : Prop := ((Grd n es ∧ 0 < n) ∧ TreL n.toNat es a) ∧ TreL n.toNat es b
noncomputable def twR (n : Int) (es : List (Int × Int)) (a b : List Int) : List (List Int) := if TwOk n es a b then a :: twI n.toNat es b a b else []
theorem sizeL_leT {m : Nat} : ∀ {ls : List (List Int)}, (∀ l ∈ ls, l.length ≤ m) → sizeL ls ≤ ls.length * m
  | [], _ => by simp [sizeL]
  | l :: ls, h => by
    have h1 := h l (by simp)
    have h2 := sizeL_leT (ls := ls) fun x hx => h x (by simp [hx])
    simp only [sizeL, List.map_cons, List.sum_cons, List.length_cons, Nat.add_mul, Nat.one_mul] at *
    omega
theorem tw_ok (n : Int) (es : List (Int × Int)) (a b : List Int) : (twR n es a b).length ≤ 1099511627776 ∧ sizeL (twR n es a b) ≤ 1099511627776 := by
  unfold twR
  split
  · rename_i h
    have hg := h.1.1.1
    obtain ⟨N, rfl⟩ : ∃ N : Nat, n = N := ⟨n.toNat, by have := h.1.1.2; omega⟩
    have hn8 : N ≤ 8 := by have := hg.1; omega
    have h2 := h.1.2
    have h3 := h.2
    rw [Int.toNat_natCast] at h2 h3 ⊢
    have h4 := tw_len (n := N) (es := es) (b := b) b a
    have h5 : ∀ l ∈ a :: twI N es b a b, l.length ≤ 8 := fun l hl => by
      rcases List.mem_cons.1 hl with rfl | hl
      · have := h2.1; omega
      · have := (tw_tree hg h3 b a (fun x hx => hx) h2 l hl).1; omega
    have h6 := sizeL_leT h5
    have h7 := h3.1
    simp only [List.length_cons] at *
    omega
  · simp [sizeL]
set_option maxRecDepth 20000 in
set_option maxHeartbeats 16000000 in
theorem TwS_c (n : Int) (v w u : Value) (es : List (Int × Int)) (a b : List Int) (H : AH) (hr : RowP 71 H v es) (hlen : es.length ≤ 1048576) (hes : ∀ y ∈ es, I64 y.1 ∧ I64 y.2) (hw : Row 3 H w a) (hal : a.length ≤ 1048576) (hai : ∀ y ∈ a, I64 y) (hu : Row 3 H u b) (hbl : b.length ≤ 1048576) (hbi : ∀ y ∈ b, I64 y) (hn : I64 n) :
    ACalls Try.prog 17 [.agg (List.toArray [.int .i64 n, v]), w, u] H fun r H' => ∃ g, r = .tuple (List.toArray [g, .bool (decide (TwOk n es a b))]) ∧ InL H.length H'.length 27 3 H' g (twR n es a b) ∧ H <+: H' := by
  refine in17 rfl ?_
  intro Q hQ
  simp (maxSteps := 1000000) (disch := omega) only [cd17, hr.boxG, S, S1, S2, S3, S4, S5, ST, eq_self, reduceIte, reduceCtorEq, Nat.reduceEqDiff, Nat.reduceAdd]
  generalize hA : H ++ [AObj.cells [.int .i64 n, v] 26 false] = A
  have pA : H <+: A := by rw [← hA]; exact List.prefix_append _ _
  have cA : A[H.length]? = some (.cells [.int .i64 n, v] 26 false) := by rw [← hA]; exact at_new ..
  have rA := hr.pre pA
  have wA := hw.pre pA
  have uA := hu.pre pA
  generalize hB : A ++ [AObj.cells [] 27 false] = B
  have pB : A <+: B := by rw [← hB]; exact List.prefix_append _ _
  have u0 : InU A.length B.length 27 3 B A.length [] [] := by
    have := InU.new A.length 27 3 A (Nat.le_refl _)
    rw [hB] at this
    exact this.wide (Nat.le_refl _) (by rw [← hB]; simp)
  have cB := pre_at pB cA
  have rB := rA.pre pB
  have lB : B.length = A.length + 1 := by rw [← hB]; simp
  have no : ¬ TwOk n es a b → ∀ {K : AH}, B <+: K → ∃ g, (Value.tuple (List.toArray [.slice (some ⟨A.length, 0, none⟩) 0 0, .bool false])) = .tuple (List.toArray [g, .bool (decide (TwOk n es a b))]) ∧ InL H.length K.length 27 3 K g (twR n es a b) ∧ H <+: K := by
    intro hno K hK
    refine ⟨_, by rw [decide_eq_false hno], ?_, pA.trans (pB.trans hK)⟩
    have e1 : twR n es a b = [] := by unfold twR; rw [if_neg hno]
    rw [e1]
    exact ((u0.pre hK).inl).wide pA.length_le (by have := hK.length_le; omega)
  simp (maxSteps := 1000000) (disch := omega) only [ld_agg ag26 cs26 cB, S, S1, S2, S3, S4, S5, ST, eq_self, reduceIte, reduceCtorEq, Nat.reduceEqDiff, Nat.reduceAdd]
  refine CallH.by (l7Some_c n v es B rB (by omega)) ?_
  rintro _ C ⟨rfl, pC⟩
  have cC := pre_at pC cB
  by_cases e1 : Grd n es ∧ 0 < n
  rotate_left
  · simp (maxSteps := 1000000) (disch := omega) only [decide_eq_false e1, S, S1, S2, S3, S4, S5, ST, eq_self, reduceIte, reduceCtorEq, Nat.reduceEqDiff, Nat.reduceAdd]
    refine hQ _ _ _ ?_
    simp (maxSteps := 1000000) (disch := omega) only [S, S1, S2, S3, S4, S5, ST, eq_self, reduceIte, reduceCtorEq, Nat.reduceEqDiff, Nat.reduceAdd]
    exact no (fun h => e1 h.1.1) pC
  have hg := e1.1
  have hn0 := e1.2
  obtain ⟨N, rfl⟩ : ∃ N : Nat, n = N := ⟨n.toNat, by omega⟩
  have h28 : es.length ≤ 28 := grd_len hg
  have hn8 : N ≤ 8 := by have := hg.1; omega
  have rC := rB.pre pC
  have wC := (wA.pre pB).pre pC
  have uC := (uA.pre pB).pre pC
  simp (maxSteps := 1000000) (disch := omega) only [decide_eq_true e1, ld_agg ag26 cs26 cC, S, S1, S2, S3, S4, S5, ST, eq_self, reduceIte, reduceCtorEq, Nat.reduceEqDiff, Nat.reduceAdd]
  refine CallH.by (l7Tree_c N (by omega) v w es a C rC hg wC (by omega)) ?_
  rintro _ D ⟨rfl, pD⟩
  have cD := pre_at pD cC
  by_cases e2 : TreL N es a
  rotate_left
  · simp (maxSteps := 1000000) (disch := omega) only [decide_eq_false e2, S, S1, S2, S3, S4, S5, ST, eq_self, reduceIte, reduceCtorEq, Nat.reduceEqDiff, Nat.reduceAdd]
    refine hQ _ _ _ ?_
    simp (maxSteps := 1000000) (disch := omega) only [S, S1, S2, S3, S4, S5, ST, eq_self, reduceIte, reduceCtorEq, Nat.reduceEqDiff, Nat.reduceAdd]
    exact no (fun h => e2 h.1.2) (pC.trans pD)
  simp (maxSteps := 1000000) (disch := omega) only [decide_eq_true e2, ld_agg ag26 cs26 cD, S, S1, S2, S3, S4, S5, ST, eq_self, reduceIte, reduceCtorEq, Nat.reduceEqDiff, Nat.reduceAdd]
  refine CallH.by (l7Tree_c N (by omega) v u es b D (rC.pre pD) hg (uC.pre pD) (by omega)) ?_
  rintro _ E ⟨rfl, pE⟩
  have cE := pre_at pE cD
  by_cases e3 : TreL N es b
  rotate_left
  · simp (maxSteps := 1000000) (disch := omega) only [decide_eq_false e3, S, S1, S2, S3, S4, S5, ST, eq_self, reduceIte, reduceCtorEq, Nat.reduceEqDiff, Nat.reduceAdd]
    refine hQ _ _ _ ?_
    simp (maxSteps := 1000000) (disch := omega) only [S, S1, S2, S3, S4, S5, ST, eq_self, reduceIte, reduceCtorEq, Nat.reduceEqDiff, Nat.reduceAdd]
    exact no (fun h => e3 h.2) (pC.trans (pD.trans pE))
  have hok : TwOk (N : Int) es a b := ⟨⟨e1, e2⟩, e3⟩
  clear no
  have pBE := pC.trans (pD.trans pE)
  have wE := (wC.pre pD).pre pE
  simp (maxSteps := 1000000) (disch := omega) only [decide_eq_true e3, S, S1, S2, S3, S4, S5, ST, eq_self, reduceIte, reduceCtorEq, Nat.reduceEqDiff, Nat.reduceAdd]
  refine CallH.by (l1Own_c w a E wE (by omega)) ?_
  rintro w1 F ⟨hF, pF⟩
  simp (maxSteps := 1000000) (disch := omega) only [S, S1, S2, S3, S4, S5, ST, eq_self, reduceIte, reduceCtorEq, Nat.reduceEqDiff, Nat.reduceAdd]
  refine CallH.by (l1Own_c w1 a F hF.row (by omega)) ?_
  rintro w2 G ⟨hG, pG⟩
  have uF : InU A.length F.length 27 3 F A.length [] [] := (u0.pre (pBE.trans pF)).wide (Nat.le_refl _) (pBE.trans pF).length_le
  obtain ⟨K, us1, k1, k2, k3, k4, _⟩ := uF.copy (by have := (pB.trans (pBE.trans pF)).length_le; omega) pG hG (by simp)
  simp only [List.length_nil, Nat.zero_add] at k1
  simp (maxSteps := 1000000) (disch := omega) only [bsRowT hG.row, k1, S, S1, S2, S3, S4, S5, ST, eq_self, reduceIte, reduceCtorEq, Nat.reduceEqDiff, Nat.reduceAdd]
  have hFr := hF.row
  have lFE := (pBE.trans pF).length_le
  have pAK : A <+: K := prefix_of fun j y hy => k4 j y (by have := at_lt hy; omega) (pre_at (pB.trans (pBE.trans (pF.trans pG))) hy)
  have w1K : Row 3 K w1 a := by
    rcases hF with ⟨q1, q2⟩ | ⟨o, q1, q2, q3⟩
    · exact .inl ⟨q1, q2⟩
    · refine (hFr.pre pG).mono fun y hy => k4 _ _ ?_ hy
      rw [q1]
      have := pBE.length_le
      show o ≠ A.length
      omega
  have hbl2 : b.length + 1 = N := e3.1
  refine LoopH.by (fun m s H' => ∃ (i : Nat) (nw : List Int) (out : List (List Int)) (oo : Nat) (us : List Value), m = (twI N es b nw (b.drop i)).length ∧ s 2 = u ∧ s 3 = .pointer (some ⟨H.length, 0, none⟩) ∧ s 8 = .slice (some ⟨oo, 0, none⟩) out.length out.length ∧ Row 3 H' (s 9) nw ∧ (s 9 = .slice none 0 0 ∨ rowO (s 9) ≠ oo) ∧ TreL N es nw ∧ (∀ j, j < i → j < b.length → b.getD j 0 ∈ nw) ∧ out ++ twI N es b nw (b.drop i) = a :: twI N es b a b ∧ InU A.length H'.length 27 3 H' oo us out ∧ A <+: H') (twI N es b a b).length ?_ ?_
  · refine ⟨0, a, [] ++ [a], G.length + 1, us1, by rw [List.drop_zero], ?_⟩
    simp (maxSteps := 1000000) (disch := omega) only [S, S1, S2, S3, S4, S5, ST, eq_self, reduceIte, reduceCtorEq, Nat.reduceEqDiff, Nat.reduceAdd]
    have f1 : w1 = .slice none 0 0 ∨ rowO w1 ≠ G.length + 1 := by
      rcases hF.row.nil with q | q
      · exact .inl q.1
      · have := pG.length_le
        exact .inr (by omega)
    have f2 : ∀ j, j < 0 → j < b.length → b.getD j 0 ∈ a := fun j hj => absurd hj (Nat.not_lt_zero j)
    have f3 : [] ++ [a] ++ twI N es b a (b.drop 0) = a :: twI N es b a b := by rw [List.drop_zero]; rfl
    (repeat' first | exact w1K | exact f1 | exact e2 | exact f2 | exact f3 | exact k2 | exact pAK | apply And.intro) <;> first | (simp only [Value.int.injEq, true_and]; omega) | omega | rfl | assumption | (simp; done) | (simp; omega)
  rintro m s H' ⟨i, nw, out, oo, us, rfl, s2, s3, s8, hrow, hap, hN, hpre, hout, hU, hp⟩
  generalize hV : s 9 = V at *
  have uH := uA.pre hp
  have rH := rA.pre hp
  have cH := pre_at hp cA
  have hnl := hN.1
  have hol : out.length ≤ b.length + 1 := by
    have h1 := congrArg List.length hout
    have h2 := tw_len (n := N) (es := es) (b := b) b a
    rw [List.length_append, List.length_cons] at h1
    omega
  simp (maxSteps := 1000000) (disch := omega) only [s2, s3, s8, hV, S, S1, S2, S3, S4, S5, ST, eq_self, reduceIte, reduceCtorEq, Nat.reduceEqDiff, Nat.reduceAdd]
  refine CallH.by (l1Same_c V u nw b H' hrow uH (by omega)) ?_
  rintro _ _ ⟨rfl, rfl⟩
  by_cases e : nw = b
  · have hd : twI N es b nw (b.drop i) = [] := tw_done _ fun x hx => by rw [e]; exact List.mem_of_mem_drop hx
    rw [hd, List.append_nil] at hout
    simp (maxSteps := 1000000) (disch := omega) only [decide_eq_true e, s8, S, S1, S2, S3, S4, S5, ST, eq_self, reduceIte, reduceCtorEq, Nat.reduceEqDiff, Nat.reduceAdd]
    refine hQ _ _ _ ?_
    simp (maxSteps := 1000000) (disch := omega) only [s8, S, S1, S2, S3, S4, S5, ST, eq_self, reduceIte, reduceCtorEq, Nat.reduceEqDiff, Nat.reduceAdd]
    have e1 : twR (N : Int) es a b = out := by unfold twR; rw [if_pos hok, hout, Int.toNat_natCast]
    rw [e1]
    exact ⟨_, by rw [decide_eq_true hok], hU.inl.wide pA.length_le (Nat.le_refl _), pA.trans hp⟩
  obtain ⟨j, hj, hjn, hw0, hwp, htw, hpre2⟩ := tw_next hg hN e3 i hpre e
  have hxm : b.getD j 0 ∈ b := by simp [hj]
  have ok := ex_ok hg hN e3 hxm hjn
  have hxr := e3.2.2.1 _ hxm
  generalize hx : b.getD j 0 = x at *
  simp (maxSteps := 1000000) (disch := omega) only [decide_eq_false e, s2, hV, S, S1, S2, S3, S4, S5, ST, eq_self, reduceIte, reduceCtorEq, Nat.reduceEqDiff, Nat.reduceAdd]
  refine CallH.by (l3Only_c u V b nw H' uH hrow (by omega) (by omega)) ?_
  rintro w3 I ⟨hI, pI⟩
  have c0 := hI.row.cell hwp
  rw [hw0] at c0
  have cI := pre_at pI cH
  have c0 : cellA I (rowO w3) (rowK w3 + Int.toNat 0) = some (.int .i64 x) := c0
  simp (maxSteps := 1000000) (disch := omega) only [hI.row.ix Try.underlying27 cs3, c0, s2, s3, s8, hV, ld_agg ag26 cs26 cI, S, S1, S2, S3, S4, S5, ST, eq_self, reduceIte, reduceCtorEq, Nat.reduceEqDiff, Nat.reduceAdd]
  refine CallH.by (l7Round_c N v V es nw x I (rH.pre pI) hg (hrow.pre pI) hN hxr hjn) ?_
  rintro w4 J ⟨hJ, pJ⟩
  have hcl : (crcL N es nw x).length ≤ nw.length + 1 := by
    unfold crcL
    have h1 := put_len (cirL N es nw x) x
    have h2 : (cirL N es nw x).length ≤ nw.length := List.length_filter_le _ _
    omega
  simp (maxSteps := 1000000) (disch := omega) only [s2, S, S1, S2, S3, S4, S5, ST, eq_self, reduceIte, reduceCtorEq, Nat.reduceEqDiff, Nat.reduceAdd]
  refine CallH.by (l3Only_c w4 u _ b J hJ.row ((uH.pre pI).pre pJ) (by omega) (by omega)) ?_
  rintro w5 L ⟨hL, pL⟩
  have haw : (without (crcL N es nw x) b).getD 0 0 = awL N es b nw x ∧ 0 < (without (crcL N es nw x) b).length := by
    have e1 : without (crcL N es nw x) b = without (cirL N es nw x) b := without_put (hN.2.1.sublist List.filter_sublist) hxm
    rw [e1]
    exact ⟨rfl, ok.pos⟩
  have c1 := hL.row.cell haw.2
  rw [haw.1] at c1
  have c1 : cellA L (rowO w5) (rowK w5 + Int.toNat 0) = some (.int .i64 (awL N es b nw x)) := c1
  simp (maxSteps := 1000000) (disch := omega) only [hL.row.ix Try.underlying27 cs3, c1, s2, s3, s8, hV, S, S1, S2, S3, S4, S5, ST, eq_self, reduceIte, reduceCtorEq, Nat.reduceEqDiff, Nat.reduceAdd]
  generalize hM : L ++ [AObj.cells [.int .i64 (awL N es b nw x)] 3 false] = M
  have pM : L <+: M := by rw [← hM]; exact List.prefix_append _ _
  have rM : Row 3 M (.slice (some ⟨L.length, 0, none⟩) 1 1) [awL N es b nw x] := .inr ⟨L.length, 0, [.int .i64 _], false, rfl, by rw [← hM]; exact at_new .., by simp, rfl⟩
  have vM := (((hrow.pre pI).pre pJ).pre pL).pre pM
  refine CallH.by (l3Only_c V _ nw _ M vM rM (by omega) (by simp)) ?_
  rintro w6 O ⟨hO, pO⟩
  rw [without_eq] at hO
  have hwl : (wo1 nw (awL N es b nw x)).length ≤ nw.length := List.length_filter_le _ _
  simp (maxSteps := 1000000) (disch := omega) only [S, S1, S2, S3, S4, S5, ST, eq_self, reduceIte, reduceCtorEq, Nat.reduceEqDiff, Nat.reduceAdd]
  refine CallH.by (l1Put_c w6 _ x O hO.row (by omega) (fun q => hjn (wo1_mem.1 q).1)) ?_
  rintro w7 P ⟨hP, pP⟩
  simp (maxSteps := 1000000) (disch := omega) only [S, S1, S2, S3, S4, S5, ST, eq_self, reduceIte, reduceCtorEq, Nat.reduceEqDiff, Nat.reduceAdd]
  have hel := ok.tree.1
  have hPr : Row 3 P w7 (exL N es b nw x) := hP.row
  refine CallH.by (l1Own_c w7 _ P hPr (by omega)) ?_
  rintro w8 R ⟨hR, pR⟩
  have pHP : H' <+: P := pI.trans (pJ.trans (pL.trans (pM.trans (pO.trans pP))))
  have hUP : InU A.length P.length 27 3 P oo us out := (hU.pre pHP).wide (Nat.le_refl _) pHP.length_le
  obtain ⟨K2, us2, m1, m2, m3, m4, _⟩ := hUP.copy (hp.trans pHP).length_le pR hR (by omega)
  simp (maxSteps := 1000000) (disch := omega) only [s8, bsRowT hR.row, m1, S, S1, S2, S3, S4, S5, ST, eq_self, reduceIte, reduceCtorEq, Nat.reduceEqDiff, Nat.reduceAdd]
  have hoo := hU.2.1
  have hAo := hU.1
  have lO : H'.length ≤ O.length := (pI.trans (pJ.trans (pL.trans (pM.trans pO)))).length_le
  have w7o : w7 = .slice none 0 0 ∨ O.length ≤ rowO w7 := by
    rcases hP with ⟨q1, _⟩ | ⟨o, q1, q2, _⟩
    · exact .inl q1
    · exact .inr (by rw [q1]; exact q2)
  have g1 : Row 3 K2 w7 (exL N es b nw x) := by
    rcases w7o with q | q
    · rcases hPr with z | ⟨_, _, _, _, z, _⟩
      · exact .inl z
      · rw [q] at z; cases z
    · exact (hPr.pre pR).mono fun y hy => m4 _ _ (by omega) hy
  have g2 : w7 = .slice none 0 0 ∨ rowO w7 ≠ R.length + 1 := by
    rcases hPr.nil with q | q
    · exact .inl q.1
    · have := pR.length_le
      exact .inr (by omega)
  have g3 : out ++ [exL N es b nw x] ++ twI N es b (exL N es b nw x) (b.drop (j + 1)) = a :: twI N es b a b := by
    rw [List.append_assoc, List.singleton_append, ← htw]; exact hout
  have g4 : A <+: K2 := prefix_of fun k y hy => m4 k y (by have := at_lt hy; omega) (pre_at (hp.trans (pHP.trans pR)) hy)
  have g6 := ok.tree
  refine ⟨(twI N es b (exL N es b nw x) (b.drop (j + 1))).length, by rw [htw]; simp, j + 1, exL N es b nw x, out ++ [exL N es b nw x], R.length + 1, us2, rfl, ?_⟩
  (repeat' first | exact g1 | exact g2 | exact g3 | exact g4 | exact g6 | exact hpre2 | exact m2 | apply And.intro) <;> first | (simp only [Value.int.injEq, true_and]; omega) | omega | rfl | assumption | (simp; done) | (simp; omega)
end Go.Proofs.Ytldcbmmmheookaa.Ai
namespace Go.Proofs.Ytldcbmmmheookaa.Ai
open Go Go.RowKit
set_option linter.unusedVariables false
set_option linter.unusedSimpArgs false
end Go.Proofs.Ytldcbmmmheookaa.Ai
namespace Go.Proofs.Ytldcbmmmheookaa.Ai
open Go Go.RowKit
set_option linter.unusedVariables false
set_option linter.unusedSimpArgs false
/-- the diagonals at a corner, as far as b -/
def dgRow (n a : Int) : Nat → List Int
  | 0 => []
  | k + 1 => dgRow n a k ++ (if 0 < a ∨ a + 2 + (k : Int) < n - 1 then [10 * a + (a + 2 + (k : Int))] else [])
def dgs (n : Int) : Nat → List Int
  | 0 => []
  | a + 1 => dgs n a ++ dgRow n a (n - a - 2).toNat
def triOkS (n : Int) (xs : List Int) (i : Nat) : Bool := decide (xs.getD i 0 ∈ dgs n n.toNat) && (decide (i = 0) || decide (xs.getD (i - 1) 0 < xs.getD i 0)) && !(xs.take i).any fun y => decide (Crs y (xs.getD i 0))
def triS (n : Int) (xs : List Int) : Bool := (List.range xs.length).all (triOkS n xs) && decide ((xs.length : Int) = n - 3)
end Go.Proofs.Ytldcbmmmheookaa.Ai
namespace Go.Proofs.Ytldcbmmmheookaa.Ai
open Go Go.RowKit
set_option linter.unusedVariables false
set_option linter.unusedSimpArgs false
/-- a diagonal is at a corner -/
def At (d c : Int) : Prop := d.tdiv 10 = c ∨ d.tmod 10 = c
instance (d c : Int) : Decidable (At d c) := inferInstanceAs (Decidable (_ ∨ _))
def Tri1 (n : Int) (xs : List Int) : Prop := (3 ≤ n ∧ n ≤ 8) ∧ triS n xs = true
instance (n : Int) (xs : List Int) : Decidable (Tri1 n xs) := inferInstanceAs (Decidable (_ ∧ _))
def Tri2 (n : Int) (xs ys : List Int) : Prop := (3 ≤ n ∧ n ≤ 8) ∧ triS n xs = true ∧ triS n ys = true
instance (n : Int) (xs ys : List Int) : Decidable (Tri2 n xs ys) := inferInstanceAs (Decidable (_ ∧ _))
theorem Tri1.len {n : Int} {xs : List Int} (h : Tri1 n xs) : (xs.length : Int) = n - 3 := by
  have h := h.2
  unfold triS at h
  simp only [Bool.and_eq_true, decide_eq_true_eq] at h
  exact h.2
theorem Tri2.a {n : Int} {xs ys : List Int} (h : Tri2 n xs ys) : Tri1 n xs := ⟨h.1, h.2.1⟩
theorem Tri2.b {n : Int} {xs ys : List Int} (h : Tri2 n xs ys) : Tri1 n ys := ⟨h.1, h.2.2⟩
theorem Tri1.mem {n : Int} {xs : List Int} (h : Tri1 n xs) {d : Int} (hd : d ∈ xs) : d ∈ dgs n n.toNat := by
  have h := h.2
  unfold triS triOkS at h
  simp only [Bool.and_eq_true, List.all_eq_true, decide_eq_true_eq] at h
  obtain ⟨i, hi, e⟩ := List.getElem_of_mem hd
  have := (h.1 i (List.mem_range.2 hi)).1.1
  rw [List.getD_eq_getElem?_getD, List.getElem?_eq_getElem hi, Option.getD_some, e] at this
  exact this
end Go.Proofs.Ytldcbmmmheookaa.Ai
namespace Go.Proofs.Ytldcbmmmheookaa.Ai
open Go
def ords59 : List (Nat × List (Nat × Bool)) := []
def cd59 : Cd := (.seq (.reg [⟨⟨some 4, Op.assign (Operand.const (Value.slice none 0 0)), none⟩, []⟩]) (.seq (.reg [⟨⟨some 8, Op.move (Operand.tmp 0), none⟩, []⟩,
  ⟨⟨some 9, Op.move (Operand.tmp 1), none⟩, []⟩,
  ⟨⟨some 10, Op.call { callee := (Callee.value (Operand.func 101)), args := #[(Operand.tmp 8), (Operand.tmp 9)], argTypes := #[27, 80] }, none⟩, []⟩,
  ⟨⟨some 5, Op.assign (Operand.tmp 10), none⟩, []⟩]) (.seq (.seq (.reg [⟨⟨some 11, Op.move (Operand.tmp 5), none⟩, []⟩,
  ⟨⟨some 12, Op.binOp BinOp.eql 3 (Operand.tmp 11) (Operand.const (Value.int IntKind.i64 (-1))) 3, none⟩, []⟩]) (.cond (Operand.tmp 12) (.seq (.reg [⟨⟨some 13, Op.move (Operand.tmp 0), none⟩, []⟩,
  ⟨⟨some 4, Op.assign (Operand.tmp 13), none⟩, []⟩]) .ret) .skip)) (.seq (.seq (.reg [⟨⟨some 14, Op.move (Operand.tmp 5), none⟩, []⟩,
  ⟨⟨some 15, Op.binOp BinOp.add 3 (Operand.tmp 14) (Operand.const (Value.int IntKind.i64 1)) 3, none⟩, []⟩,
  ⟨⟨some 6, Op.assign (Operand.tmp 15), none⟩, []⟩]) (.block 0 (.loop (.seq (.seq (.reg [⟨⟨some 16, Op.move (Operand.tmp 6), none⟩, []⟩,
  ⟨⟨some 17, Op.move (Operand.tmp 0), none⟩, []⟩,
  ⟨⟨some 18, Op.call { callee := (Callee.builtin Builtin.len), args := #[(Operand.tmp 17)], argTypes := #[27] }, none⟩, []⟩,
  ⟨⟨some 19, Op.binOp BinOp.lss 3 (Operand.tmp 16) (Operand.tmp 18) 3, none⟩, []⟩]) (.cond (Operand.tmp 19) .skip (.exit 0))) (.seq (.block 1 (.seq (.reg [⟨⟨some 22, Op.move (Operand.tmp 0), none⟩, []⟩,
  ⟨⟨some 23, Op.move (Operand.tmp 6), none⟩, []⟩,
  ⟨⟨some 24, Op.indexAddr 27 (Operand.tmp 22) (Operand.tmp 23), none⟩, []⟩,
  ⟨⟨some 25, Op.load 3 (Operand.tmp 24), none⟩, []⟩,
  ⟨⟨some 7, Op.assign (Operand.tmp 25), none⟩, []⟩]) (.seq (.reg [⟨⟨some 26, Op.move (Operand.tmp 1), none⟩, []⟩,
  ⟨⟨some 27, Op.move (Operand.tmp 7), none⟩, []⟩,
  ⟨⟨some 28, Op.call { callee := (Callee.value (Operand.tmp 26)), args := #[(Operand.tmp 27)], argTypes := #[3] }, none⟩, []⟩,
  ⟨⟨some 29, Op.unOp UnOp.not 4 (Operand.tmp 28), none⟩, []⟩]) (.cond (Operand.tmp 29) (.seq (.reg [⟨⟨some 30, Op.move (Operand.tmp 0), none⟩, []⟩,
  ⟨⟨some 31, Op.move (Operand.tmp 5), none⟩, []⟩,
  ⟨⟨some 32, Op.move (Operand.tmp 7), none⟩, []⟩,
  ⟨⟨some 33, Op.indexAddr 27 (Operand.tmp 30) (Operand.tmp 31), none⟩, []⟩,
  ⟨⟨none, Op.store 3 (Operand.tmp 33) (Operand.tmp 32), none⟩, []⟩]) (.reg [⟨⟨some 34, Op.move (Operand.tmp 5), none⟩, []⟩,
  ⟨⟨some 35, Op.binOp BinOp.add 3 (Operand.tmp 34) (Operand.const (Value.int IntKind.i64 1)) 3, none⟩, []⟩,
  ⟨⟨some 5, Op.assign (Operand.tmp 35), none⟩, []⟩])) .skip)))) (.reg [⟨⟨some 20, Op.move (Operand.tmp 6), none⟩, []⟩,
  ⟨⟨some 21, Op.binOp BinOp.add 3 (Operand.tmp 20) (Operand.const (Value.int IntKind.i64 1)) 3, none⟩, []⟩,
  ⟨⟨some 6, Op.assign (Operand.tmp 21), none⟩, []⟩])))))) (.seq (.reg [⟨⟨some 36, Op.move (Operand.tmp 0), none⟩, []⟩,
  ⟨⟨some 37, Op.move (Operand.tmp 5), none⟩, []⟩,
  ⟨⟨some 38, Op.slice 27 (Operand.tmp 36) (some (Operand.tmp 37)) none none, none⟩, []⟩,
  ⟨⟨none, Op.call { callee := (Callee.builtin Builtin.clear), args := #[(Operand.tmp 38)], argTypes := #[27] }, none⟩, []⟩]) (.seq (.reg [⟨⟨some 39, Op.move (Operand.tmp 0), none⟩, []⟩,
  ⟨⟨some 40, Op.move (Operand.tmp 5), none⟩, []⟩,
  ⟨⟨some 41, Op.slice 27 (Operand.tmp 39) none (some (Operand.tmp 40)) none, none⟩, []⟩,
  ⟨⟨some 4, Op.assign (Operand.tmp 41), none⟩, []⟩]) .ret))))))
theorem sl59 : slim Try.f59.ntmps ords59 (Try.f59.body.getD .skip) = some cd59 := by kernel_rfl
theorem in59 {args : List Value} {H : AH} {R : Value → AH → Prop} (hl : args.length = 2) (h : ∀ (Q : Exit → Sl → AH → Prop), (∀ e s H, endA Try.prog [ResultVar.tmp 4] R e s H → Q e s H) → wpC Try.prog cd59 Q (enterA args) H) : ACalls Try.prog 59 args H R :=
  ACalls.intro (by kernel_rfl) Try.func59 rfl (by kernel_rfl) sl59 hl (of_decide_eq_true (by kernel_rfl)) (by kernel_rfl) h
end Go.Proofs.Ytldcbmmmheookaa.Ai
namespace Go.Proofs.Ytldcbmmmheookaa.Ai
open Go Go.RowKit
set_option linter.unusedVariables false
set_option linter.unusedSimpArgs false
/-- what stands behind DeleteFuncs first i + 1 steps -/
theorem idxP_lt (p : Int → Bool) : ∀ (xs : List Int) (k : Nat), idxP p xs k = -1 ∨ ∃ i, idxP p xs k = ((k + i : Nat) : Int) ∧ i < xs.length ∧ (xs.take i).filter (fun x => !p x) = xs.take i ∧ p (xs.getD i 0) = true
  | [], k => .inl rfl
  | x :: xs, k => by
    simp only [idxP]
    cases h : p x with
    | true => exact .inr ⟨0, by simp, by simp, by simp, by simp [h]⟩
    | false =>
      rcases idxP_lt p xs (k + 1) with e | ⟨i, e1, e2, e3, e4⟩
      · exact .inl (by simpa using e)
      · exact .inr ⟨i + 1, by simp only [Bool.false_eq_true, if_false]; rw [e1]; congr 1; omega, by simp; omega, by simp [h, e3], by simpa using e4⟩
theorem idxP_none (p : Int → Bool) : ∀ (xs : List Int) (k : Nat), idxP p xs k = -1 → xs.filter (fun x => !p x) = xs
  | [], k, _ => rfl
  | x :: xs, k, e => by
    simp only [idxP] at e
    cases h : p x with
    | true => rw [h, if_pos rfl] at e; omega
    | false =>
      rw [h, if_neg (by decide)] at e
      simp [h, idxP_none p xs (k + 1) e]
set_option maxHeartbeats 2000000 in
theorem DeleteFunc_c (o : Nat) (xs : List Int) (p : Int → Bool) (g : FuncId) (caps : List Value) (H : AH) (ho : H[o]? = some (.cells (ints xs) 3 false)) (hlen : xs.length ≤ 1099511627776)
    (hp : ∀ ys x, x ∈ xs → ACalls Try.prog g (.int .i64 x :: caps) (H.set o (.cells (ints ys) 3 false)) fun r H' => r = .bool (p x) ∧ H.set o (.cells (ints ys) 3 false) = H') :
    ACalls Try.prog 59 [.slice (some ⟨o, 0, none⟩) xs.length xs.length, .func (.func g) #[] (List.toArray caps)] H fun r H' => ∃ zs, r = .slice (some ⟨o, 0, none⟩) (xs.filter fun x => !p x).length (xs.filter fun x => !p x).length ∧ H' = H.set o (.cells (ints zs) 3 false) ∧ zs.take (xs.filter fun x => !p x).length = xs.filter fun x => !p x := by
  have hset : H.set o (.cells (ints xs) 3 false) = H := by
    apply List.ext_getElem?
    intro j
    rw [List.getElem?_set]
    by_cases hj : o = j
    · subst hj; rw [if_pos rfl, if_pos (at_lt ho), ho]
    · rw [if_neg hj]
  have rowOf : ∀ ys : List Int, ys.length = xs.length → Row 3 (H.set o (.cells (ints ys) 3 false)) (.slice (some ⟨o, 0, none⟩) xs.length xs.length) ys := by
    intro ys hy
    refine .inr ⟨o, 0, ints ys, false, by rw [hy], at_set ho, by rw [ints_len]; omega, ?_⟩
    rw [List.drop_zero, List.take_of_length_le (by rw [ints_len]; omega)]
  refine in59 rfl ?_
  intro Q hQ
  simp (maxSteps := 1000000) (disch := omega) only [cd59, S, S1, S2, S3, S4, S5, ST, eq_self, reduceIte, reduceCtorEq, Nat.reduceEqDiff, Nat.reduceAdd]
  have hr0 := rowOf xs rfl
  rw [hset] at hr0
  refine CallH.by (IndexFunc_c _ xs p g caps H hr0 hlen (fun x hx => by have := hp xs x hx; rwa [hset] at this)) ?_
  rintro _ _ ⟨rfl, rfl⟩
  simp (maxSteps := 1000000) (disch := omega) only [S, S1, S2, S3, S4, S5, ST, eq_self, reduceIte, reduceCtorEq, Nat.reduceEqDiff, Nat.reduceAdd]
  refine brD.intro (fun gg => ?_) (fun gg => ?_) <;> simp (maxSteps := 1000000) (disch := omega) only [S, S1, S2, S3, S4, S5, ST, eq_self, reduceIte, reduceCtorEq, Nat.reduceEqDiff, Nat.reduceAdd]
  · refine hQ _ _ _ ?_
    simp (maxSteps := 1000000) (disch := omega) only [S, S1, S2, S3, S4, S5, ST, eq_self, reduceIte, reduceCtorEq, Nat.reduceEqDiff, Nat.reduceAdd]
    refine ⟨xs, ?_, hset.symm, ?_⟩
    · rw [idxP_none p xs 0 gg]
    · rw [idxP_none p xs 0 gg, List.take_length]
  · rcases idxP_lt p xs 0 with e | ⟨i0, e1, e2, e3, e4⟩
    · exact absurd e gg
    rw [Nat.zero_add] at e1
    rw [e1]
    simp (maxSteps := 1000000) (disch := omega) only [wrap64, S, S1, S2, S3, S4, S5, ST, eq_self, reduceIte, reduceCtorEq, Nat.reduceEqDiff, Nat.reduceAdd]
    refine LoopH.by (fun m s H' => ∃ j i ys, m + j = xs.length ∧ s 0 = .slice (some ⟨o, 0, none⟩) xs.length xs.length ∧ s 1 = .func (.func g) #[] (List.toArray caps) ∧ s 5 = .int .i64 ((i : Nat) : Int) ∧ s 6 = .int .i64 ((j : Nat) : Int) ∧ H' = H.set o (.cells (ints ys) 3 false) ∧ ys.length = xs.length ∧ i < j ∧ ys.take i = (xs.take j).filter (fun x => !p x) ∧ ys.drop j = xs.drop j) (xs.length - i0 - 1) ?_ ?_
    · refine ⟨i0 + 1, i0, xs, by omega, rfl, rfl, by simp [S, S1, S2, S3, S4, S5, ST, eq_self, reduceIte, reduceCtorEq, Nat.reduceEqDiff, Nat.reduceAdd], by simp [S, S1, S2, S3, S4, S5, ST, eq_self, reduceIte, reduceCtorEq, Nat.reduceEqDiff, Nat.reduceAdd], hset.symm, rfl, by omega, ?_, rfl⟩
      rw [List.take_add_one, List.getElem?_eq_getElem e2, List.filter_append, e3]
      have : xs.getD i0 0 = xs[i0] := by simp [e2]
      rw [this] at e4
      simp [e4]
    · rintro m s H' ⟨j, i, ys, hm, h0, h1, h5, h6, rfl, hyl, hij, hyt, hyd⟩
      have hr := rowOf ys hyl
      have hc' : (H.set o (.cells (ints ys) 3 false))[o]? = some (.cells (ints ys) 3 false) := at_set ho
      have hi : i ≤ xs.length := by have := congrArg List.length hyt; simp at this; have := List.length_filter_le (fun x => !p x) (xs.take j); simp at this; omega
      simp (maxSteps := 1000000) (disch := omega) only [h0, h1, h5, h6, S, S1, S2, S3, S4, S5, ST, eq_self, reduceIte, reduceCtorEq, Nat.reduceEqDiff, Nat.reduceAdd]
      refine brD.intro (fun gg => ?_) (fun gg => ?_)
      · have hj : j < xs.length := by omega
        have hy : ys.getD j 0 = xs.getD j 0 := by
          have := congrArg (·[0]?) hyd
          simp only [List.getElem?_drop, Nat.add_zero] at this
          rw [List.getD_eq_getElem?_getD, List.getD_eq_getElem?_getD, this]
        have hx : xs.getD j 0 = xs[j] := by simp [hj]
        have hcell : cellA (H.set o (.cells (ints ys) 3 false)) o j = some (.int .i64 (xs.getD j 0)) := by rw [cell_ints hc' (by omega), hy]
        simp (maxSteps := 1000000) (disch := omega) only [h0, h1, h5, h6, Int.toNat_natCast, hcell, S, S1, S2, S3, S4, S5, ST, eq_self, reduceIte, reduceCtorEq, Nat.reduceEqDiff, Nat.reduceAdd]
        refine CallH.by (hp ys (xs.getD j 0) (by rw [hx]; exact List.getElem_mem hj)) ?_
        rintro _ _ ⟨rfl, rfl⟩
        simp (maxSteps := 1000000) (disch := omega) only [S, S1, S2, S3, S4, S5, ST, eq_self, reduceIte, reduceCtorEq, Nat.reduceEqDiff, Nat.reduceAdd]
        have hstep : (xs.take (j + 1)).filter (fun x => !p x) = (xs.take j).filter (fun x => !p x) ++ if p (xs.getD j 0) = true then [] else [xs.getD j 0] := by
          rw [List.take_add_one, List.getElem?_eq_getElem hj, List.filter_append, hx]
          cases hh : p xs[j] <;> simp [hh]
        refine brH.intro (fun q => ?_) (fun q => ?_)
        · simp (maxSteps := 1000000) (disch := omega) only [q, h0, h1, h5, h6, Int.toNat_natCast, hcell, wrap64, S, S1, S2, S3, S4, S5, ST, eq_self, reduceIte, reduceCtorEq, Nat.reduceEqDiff, Nat.reduceAdd]
          rw [q, if_pos rfl, List.append_nil] at hstep
          have f1 : ys.take i = (xs.take (j + 1)).filter (fun x => !p x) := by rw [hyt, hstep]
          have f2 : ys.drop (j + 1) = xs.drop (j + 1) := by rw [← List.drop_drop, hyd, List.drop_drop]
          refine ⟨m - 1, by omega, j + 1, i, ys, ?_⟩
          (repeat' apply And.intro) <;> first | rfl | trivial | assumption | omega | (simp only [Value.int.injEq, true_and]; omega) | (simp; done) | (simp; omega) | exact f1 | exact f2
        · simp (maxSteps := 1000000) (disch := omega) only [q, h0, h1, h5, h6, Int.toNat_natCast, Nat.zero_add, hcell, st_ints cs3 hc', wrap64, S, S1, S2, S3, S4, S5, ST, eq_self, reduceIte, reduceCtorEq, Nat.reduceEqDiff, Nat.reduceAdd]
          rw [q, if_neg (by decide)] at hstep
          have f1 : (ys.set i (xs.getD j 0)).take (i + 1) = (xs.take (j + 1)).filter (fun x => !p x) := by rw [take_set_succ ys i _ (by omega), hyt, hstep]
          have f2 : (ys.set i (xs.getD j 0)).drop (j + 1) = xs.drop (j + 1) := by rw [List.drop_set_of_lt (by omega), ← List.drop_drop, hyd, List.drop_drop]
          have f3 : (ys.set i (xs.getD j 0)).length = xs.length := by simp [hyl]
          have f4 : (H.set o (.cells (ints ys) 3 false)).set o (.cells (ints (ys.set i (xs.getD j 0))) 3 false) = H.set o (.cells (ints (ys.set i (xs.getD j 0))) 3 false) := List.set_set ..
          refine ⟨m - 1, by omega, j + 1, i + 1, ys.set i (xs.getD j 0), ?_⟩
          (repeat' apply And.intro) <;> first | rfl | trivial | assumption | omega | (simp only [Value.int.injEq, true_and]; omega) | (simp; done) | (simp; omega) | exact f1 | exact f2 | exact f3 | exact f4
      · have hj : xs.take j = xs := List.take_of_length_le (by omega)
        rw [hj] at hyt
        have hk : (xs.filter fun x => !p x).length = i := by rw [← hyt]; simp; omega
        have hs1 := hr.slice Try.underlying27 cs3 (lo := some (.int .i64 ((i : Nat) : Int))) (hi := none) (bound_some (by omega) _) (hi_none _) (by omega) (Nat.le_refl _)
        obtain ⟨zs, hz1, hz2, hz3⟩ := clear_ints (P := Try.prog) (k := i) (n := ys.length - i) (c := ys.length - i) Try.underlying27 cs3 ze3 hc' (by omega)
        have hs1' := hs1.1
        simp only [subV, Int.toNat_natCast, Nat.zero_add] at hs1'
        simp (maxSteps := 1000000) (disch := omega) only [h0, h1, h5, h6, hs1', hz1, S, S1, S2, S3, S4, S5, ST, eq_self, reduceIte, reduceCtorEq, Nat.reduceEqDiff, Nat.reduceAdd]
        have hr2 := rowOf zs (by omega)
        rw [List.set_set]
        have hs2 := hr2.slice Try.underlying27 cs3 (lo := none) (hi := some (.int .i64 ((i : Nat) : Int))) lo_none (bound_some (by omega) _) (by omega) (by simp; omega)
        have hs2' := hs2.1
        simp only [subV, Int.toNat_natCast, Nat.zero_add, Nat.sub_zero] at hs2'
        simp (maxSteps := 1000000) (disch := omega) only [h0, h1, h5, h6, hs2', S, S1, S2, S3, S4, S5, ST, eq_self, reduceIte, reduceCtorEq, Nat.reduceEqDiff, Nat.reduceAdd]
        refine hQ _ _ _ ?_
        simp (maxSteps := 1000000) (disch := omega) only [S, S1, S2, S3, S4, S5, ST, eq_self, reduceIte, reduceCtorEq, Nat.reduceEqDiff, Nat.reduceAdd]
        refine ⟨zs, by rw [hk], rfl, ?_⟩
        rw [hk, hz2, hyt]
end Go.Proofs.Ytldcbmmmheookaa.Ai
namespace Go.Proofs.Ytldcbmmmheookaa.Ai
open Go
def ords60 : List (Nat × List (Nat × Bool)) := []
def cd60 : Cd := (.seq (.reg [⟨⟨some 3, Op.assign (Operand.const (Value.bool false)), none⟩, []⟩]) (.seq (.reg [⟨⟨some 4, Op.load 3 (Operand.tmp 1), none⟩, []⟩,
  ⟨⟨some 5, Op.move (Operand.tmp 0), none⟩, []⟩,
  ⟨⟨some 6, Op.binOp BinOp.eql 3 (Operand.tmp 4) (Operand.tmp 5) 3, none⟩, []⟩,
  ⟨⟨some 3, Op.assign (Operand.tmp 6), none⟩, []⟩]) .ret))
theorem sl60 : slim Try.f60.ntmps ords60 (Try.f60.body.getD .skip) = some cd60 := by kernel_rfl
theorem in60 {args : List Value} {H : AH} {R : Value → AH → Prop} (hl : args.length = 2) (h : ∀ (Q : Exit → Sl → AH → Prop), (∀ e s H, endA Try.prog [ResultVar.tmp 3] R e s H → Q e s H) → wpC Try.prog cd60 Q (enterA args) H) : ACalls Try.prog 60 args H R :=
  ACalls.intro (by kernel_rfl) Try.func60 rfl (by kernel_rfl) sl60 hl (of_decide_eq_true (by kernel_rfl)) (by kernel_rfl) h
def ords20 : List (Nat × List (Nat × Bool)) := []
def cd20 : Cd := (.seq (.reg [⟨⟨some 3, Op.box 26 (Operand.tmp 0), none⟩, []⟩,
  ⟨⟨some 6, Op.assign (Operand.const (Value.slice none 0 0)), none⟩, []⟩,
  ⟨⟨some 7, Op.assign (Operand.const (Value.bool false)), none⟩, []⟩]) (.seq (.seq (.reg [⟨⟨some 19, Op.load 26 (Operand.tmp 3), none⟩, []⟩,
  ⟨⟨some 20, Op.move (Operand.tmp 1), none⟩, []⟩,
  ⟨⟨some 21, Op.call { callee := (Callee.value (Operand.func 15)), args := #[(Operand.tmp 19), (Operand.tmp 20)], argTypes := #[26, 27] }, none⟩, []⟩,
  ⟨⟨some 18, Op.move (Operand.tmp 21), none⟩, []⟩,
  ⟨⟨some 22, Op.extract (Operand.tmp 18) 0, none⟩, []⟩,
  ⟨⟨some 23, Op.extract (Operand.tmp 18) 1, none⟩, []⟩,
  ⟨⟨some 8, Op.assign (Operand.tmp 22), none⟩, []⟩,
  ⟨⟨some 9, Op.assign (Operand.tmp 23), none⟩, []⟩]) (.seq (.reg [⟨⟨some 24, Op.move (Operand.tmp 8), none⟩, []⟩,
  ⟨⟨some 25, Op.unOp UnOp.not 4 (Operand.tmp 24), none⟩, []⟩]) (.cond (Operand.tmp 25) (.seq (.reg [⟨⟨some 6, Op.assign (Operand.const (Value.slice none 0 0)), none⟩, []⟩,
  ⟨⟨some 7, Op.assign (Operand.const (Value.bool false)), none⟩, []⟩]) .ret) .skip))) (.seq (.seq (.reg [⟨⟨some 27, Op.load 26 (Operand.tmp 3), none⟩, []⟩,
  ⟨⟨some 28, Op.move (Operand.tmp 2), none⟩, []⟩,
  ⟨⟨some 29, Op.call { callee := (Callee.value (Operand.func 15)), args := #[(Operand.tmp 27), (Operand.tmp 28)], argTypes := #[26, 27] }, none⟩, []⟩,
  ⟨⟨some 26, Op.move (Operand.tmp 29), none⟩, []⟩,
  ⟨⟨some 30, Op.extract (Operand.tmp 26) 0, none⟩, []⟩,
  ⟨⟨some 31, Op.extract (Operand.tmp 26) 1, none⟩, []⟩,
  ⟨⟨some 10, Op.assign (Operand.tmp 30), none⟩, []⟩,
  ⟨⟨some 11, Op.assign (Operand.tmp 31), none⟩, []⟩]) (.seq (.reg [⟨⟨some 32, Op.move (Operand.tmp 10), none⟩, []⟩,
  ⟨⟨some 33, Op.unOp UnOp.not 4 (Operand.tmp 32), none⟩, []⟩]) (.cond (Operand.tmp 33) (.seq (.reg [⟨⟨some 6, Op.assign (Operand.const (Value.slice none 0 0)), none⟩, []⟩,
  ⟨⟨some 7, Op.assign (Operand.const (Value.bool false)), none⟩, []⟩]) .ret) .skip))) (.seq (.reg [⟨⟨some 34, Op.move (Operand.tmp 1), none⟩, []⟩,
  ⟨⟨some 35, Op.call { callee := (Callee.value (Operand.func 58)), args := #[(Operand.tmp 34)], argTypes := #[27] }, none⟩, []⟩,
  ⟨⟨some 12, Op.assign (Operand.tmp 35), none⟩, []⟩]) (.seq (.reg [⟨⟨some 36, Op.move (Operand.tmp 12), none⟩, []⟩,
  ⟨⟨some 37, Op.call { callee := (Callee.value (Operand.func 58)), args := #[(Operand.tmp 36)], argTypes := #[27] }, none⟩, []⟩,
  ⟨⟨some 38, Op.buildSlice 38 1 #[(0, (Operand.tmp 37))], none⟩, []⟩,
  ⟨⟨some 13, Op.assign (Operand.tmp 38), none⟩, []⟩]) (.seq (.seq (.reg [⟨⟨some 39, Op.move (Operand.tmp 2), none⟩, []⟩,
  ⟨⟨some 40, Op.call { callee := (Callee.builtin Builtin.len), args := #[(Operand.tmp 39)], argTypes := #[27] }, none⟩, []⟩,
  ⟨⟨some 41, Op.move (Operand.const (Value.int IntKind.i64 0)), none⟩, []⟩]) (.block 0 (.loop (.seq (.reg [⟨⟨some 42, Op.binOp BinOp.lss 3 (Operand.tmp 41) (Operand.tmp 40) 3, none⟩, []⟩]) (.seq (.cond (Operand.tmp 42) .skip (.exit 0)) (.seq (.block 1 (.seq (.reg [⟨⟨some 43, Op.indexAddr 27 (Operand.tmp 39) (Operand.tmp 41), none⟩, []⟩,
  ⟨⟨some 44, Op.load 3 (Operand.tmp 43), none⟩, []⟩,
  ⟨⟨some 15, Op.assign (Operand.tmp 44), none⟩, []⟩]) (.seq (.seq (.reg [⟨⟨some 45, Op.move (Operand.tmp 12), none⟩, []⟩,
  ⟨⟨some 46, Op.move (Operand.tmp 15), none⟩, []⟩,
  ⟨⟨some 47, Op.call { callee := (Callee.value (Operand.func 39)), args := #[(Operand.tmp 45), (Operand.tmp 46)], argTypes := #[27, 3] }, none⟩, []⟩]) (.cond (Operand.tmp 47) (.exit 1) .skip)) (.seq (.seq (.reg [⟨⟨some 48, Op.load 26 (Operand.tmp 3), none⟩, []⟩,
  ⟨⟨some 49, Op.move (Operand.tmp 12), none⟩, []⟩,
  ⟨⟨some 50, Op.move (Operand.tmp 15), none⟩, []⟩,
  ⟨⟨some 51, Op.call { callee := (Callee.value (Operand.func 40)), args := #[(Operand.tmp 48), (Operand.tmp 49), (Operand.tmp 50)], argTypes := #[26, 27, 3] }, none⟩, []⟩,
  ⟨⟨some 52, Op.call { callee := (Callee.builtin Builtin.len), args := #[(Operand.tmp 51)], argTypes := #[27] }, none⟩, []⟩,
  ⟨⟨some 53, Op.move (Operand.const (Value.int IntKind.i64 0)), none⟩, []⟩]) (.block 2 (.loop (.seq (.reg [⟨⟨some 54, Op.binOp BinOp.lss 3 (Operand.tmp 53) (Operand.tmp 52) 3, none⟩, []⟩]) (.seq (.cond (Operand.tmp 54) .skip (.exit 2)) (.seq (.block 3 (.seq (.reg [⟨⟨some 55, Op.indexAddr 27 (Operand.tmp 51) (Operand.tmp 53), none⟩, []⟩,
  ⟨⟨some 56, Op.load 3 (Operand.tmp 55), none⟩, []⟩,
  ⟨⟨some 17, Op.alloc 3, none⟩, []⟩,
  ⟨⟨none, Op.store 3 (Operand.tmp 17) (Operand.tmp 56), none⟩, []⟩]) (.seq (.reg [⟨⟨some 57, Op.move (Operand.tmp 2), none⟩, []⟩,
  ⟨⟨some 58, Op.load 3 (Operand.tmp 17), none⟩, []⟩,
  ⟨⟨some 59, Op.call { callee := (Callee.value (Operand.func 39)), args := #[(Operand.tmp 57), (Operand.tmp 58)], argTypes := #[27, 3] }, none⟩, []⟩,
  ⟨⟨some 60, Op.unOp UnOp.not 4 (Operand.tmp 59), none⟩, []⟩]) (.cond (Operand.tmp 60) (.seq (.reg [⟨⟨some 61, Op.move (Operand.tmp 12), none⟩, []⟩,
  ⟨⟨some 62, Op.makeFunc (Fn.func 60) #[] #[(Operand.tmp 17)], none⟩, []⟩,
  ⟨⟨some 63, Op.call { callee := (Callee.value (Operand.func 59)), args := #[(Operand.tmp 61), (Operand.tmp 62)], argTypes := #[27, 80] }, none⟩, []⟩,
  ⟨⟨some 64, Op.move (Operand.tmp 15), none⟩, []⟩,
  ⟨⟨some 65, Op.buildSlice 27 1 #[(0, (Operand.tmp 64))], none⟩, []⟩,
  ⟨⟨some 66, Op.call { callee := (Callee.builtin Builtin.append), args := #[(Operand.tmp 63), (Operand.tmp 65)], argTypes := #[27, 27] }, none⟩, []⟩,
  ⟨⟨some 12, Op.assign (Operand.tmp 66), none⟩, []⟩]) (.seq (.reg [⟨⟨some 67, Op.move (Operand.tmp 12), none⟩, []⟩,
  ⟨⟨some 68, Op.call { callee := (Callee.value (Operand.func 61)), args := #[(Operand.tmp 67)], argTypes := #[27] }, none⟩, []⟩]) (.exit 2))) .skip)))) (.reg [⟨⟨some 69, Op.binOp BinOp.add 3 (Operand.tmp 53) (Operand.const (Value.int IntKind.i64 1)) 3, none⟩, []⟩,
  ⟨⟨some 53, Op.move (Operand.tmp 69), none⟩, []⟩]))))))) (.reg [⟨⟨some 70, Op.move (Operand.tmp 13), none⟩, []⟩,
  ⟨⟨some 71, Op.move (Operand.tmp 12), none⟩, []⟩,
  ⟨⟨some 72, Op.call { callee := (Callee.value (Operand.func 58)), args := #[(Operand.tmp 71)], argTypes := #[27] }, none⟩, []⟩,
  ⟨⟨some 73, Op.buildSlice 38 1 #[(0, (Operand.tmp 72))], none⟩, []⟩,
  ⟨⟨some 74, Op.call { callee := (Callee.builtin Builtin.append), args := #[(Operand.tmp 70), (Operand.tmp 73)], argTypes := #[38, 38] }, none⟩, []⟩,
  ⟨⟨some 13, Op.assign (Operand.tmp 74), none⟩, []⟩]))))) (.reg [⟨⟨some 75, Op.binOp BinOp.add 3 (Operand.tmp 41) (Operand.const (Value.int IntKind.i64 1)) 3, none⟩, []⟩,
  ⟨⟨some 41, Op.move (Operand.tmp 75), none⟩, []⟩]))))))) (.seq (.reg [⟨⟨some 76, Op.move (Operand.tmp 13), none⟩, []⟩,
  ⟨⟨some 6, Op.assign (Operand.tmp 76), none⟩, []⟩,
  ⟨⟨some 7, Op.assign (Operand.const (Value.bool true)), none⟩, []⟩]) .ret)))))))
theorem sl20 : slim Try.f20.ntmps ords20 (Try.f20.body.getD .skip) = some cd20 := by kernel_rfl
theorem in20 {args : List Value} {H : AH} {R : Value → AH → Prop} (hl : args.length = 3) (h : ∀ (Q : Exit → Sl → AH → Prop), (∀ e s H, endA Try.prog [ResultVar.tmp 6, ResultVar.tmp 7] R e s H → Q e s H) → wpC Try.prog cd20 Q (enterA args) H) : ACalls Try.prog 20 args H R :=
  ACalls.intro (by kernel_rfl) Try.func20 rfl (by kernel_rfl) sl20 hl (of_decide_eq_true (by kernel_rfl)) (by kernel_rfl) h
end Go.Proofs.Ytldcbmmmheookaa.Ai
namespace Go.Proofs.Ytldcbmmmheookaa.Ai
open Go Go.RowKit
set_option linter.unusedVariables false
set_option linter.unusedSimpArgs false
theorem first_out {l b : List Int} : ∀ {k : Nat}, k < l.length → (∀ j, j < k → l.getD j 0 ∈ b) → l.getD k 0 ∉ b → (without l b).getD 0 0 = l.getD k 0 := by
  induction l with
  | nil => intro k hk; simp at hk
  | cons x l ih =>
    intro k hk h1 h2
    cases k with
    | zero =>
      have h2' : x ∉ b := h2
      unfold without
      rw [List.filter_cons, if_pos (by simpa using h2')]
      rfl
    | succ k =>
      have h0 : x ∈ b := h1 0 (by omega)
      have : without (x :: l) b = without l b := by
        unfold without
        rw [List.filter_cons, if_neg (by simpa using h0)]
      rw [this]
      have := ih (k := k) (by simpa using hk) (fun j hj => by have := h1 (j + 1) (by omega); simpa using this) (by simpa using h2)
      rw [this]; simp
theorem none_out {l b : List Int} (h : ∀ j, j < l.length → l.getD j 0 ∈ b) : (without l b).length = 0 := by
  have : without l b = [] := by
    unfold without
    rw [List.filter_eq_nil_iff]
    intro x hx
    obtain ⟨j, hj, e⟩ := List.mem_iff_getElem.1 hx
    have := h j hj
    rw [show l.getD j 0 = x by simp [hj, e]] at this
    simpa using this
  rw [this]; rfl
theorem eqClos_c (x y : Int) (o : Nat) (H : AH) (ho : cellA H o 0 = some (.int .i64 x)) : ACalls Try.prog 60 [.int .i64 y, .pointer (some ⟨o, 0, none⟩)] H fun r H' => r = .bool (decide (x = y)) ∧ H = H' := by
  refine in60 rfl ?_
  intro Q hQ
  simp (maxSteps := 1000000) (disch := omega) only [cd60, ho, S, S1, S2, S3, S4, S5, ST, eq_self, reduceIte, reduceCtorEq, Nat.reduceEqDiff, Nat.reduceAdd]
  refine hQ _ _ _ ?_
  simp (maxSteps := 1000000) (disch := omega) only [S, S1, S2, S3, S4, S5, ST, eq_self, reduceIte, reduceCtorEq, Nat.reduceEqDiff, Nat.reduceAdd]
theorem box_iT (H : AH) : allocA Try.prog 3 H = some (.pointer (some ⟨H.length, 0, none⟩), H ++ [.cells [.int .i64 0] 3 false]) := by kernel_rfl
theorem mkf_1T (f : Fn) (p : Option Addr) : makeFuncA f [] [.pointer p] = some (.func f #[] (List.toArray [.pointer p])) := rfl
theorem InU.one1 {lo : Nat} {H : AH} {c : Value} {xs : List Int} (h : InI lo H.length 3 H c xs) (hlo : lo ≤ H.length) : InU lo (H.length + 1) 27 3 (H ++ [.cells [c] 27 false]) H.length [c] [xs] := by
  refine ⟨hlo, by omega, at_new .., Nat.le_refl _, fun i hi => ?_, fun i j hij hi hj => ?_⟩
  · have : i = 0 := by simpa using hi
    subst this
    show InI lo (H.length + 1) 3 _ c xs ∧ (c = .slice none 0 0 ∨ rowO c ≠ H.length)
    rcases h with ⟨q1, q2⟩ | ⟨o, zs, q1, q2, q3, q4, q5⟩
    · exact ⟨.inl ⟨q1, q2⟩, .inl q1⟩
    · refine ⟨.inr ⟨o, zs, q1, q2, by omega, at_app q4 _, q5⟩, .inr ?_⟩
      rw [q1]
      show o ≠ H.length
      omega
  · simp only [List.length_cons, List.length_nil] at hi hj
    omega
theorem getD_snocT {us : List Value} {n i : Nat} {c : Value} (hn : n ≤ us.length) : (us.take n ++ [c]).getD i undef = if i < n then us.getD i undef else if i = n then c else undef := by
  rw [List.getD_eq_getElem?_getD, List.getElem?_append]
  have hl : (us.take n).length = n := by simp; omega
  rw [hl]
  split
  · rw [List.getElem?_take, if_pos (by assumption), List.getD_eq_getElem?_getD]
  · split
    · rename_i h; subst h; simp
    · rw [List.getElem?_eq_none (by simp; omega)]; rfl
/-- the list now, in an object of its own -/
def NowA (lo : Nat) (H : AH) (v : Value) (nw : List Int) (oo : Nat) (us : List Value) (out : List (List Int)) : Prop :=
  (v = .slice none 0 0 ∧ nw = []) ∨ ∃ o, v = .slice (some ⟨o, 0, none⟩) nw.length nw.length ∧ lo ≤ o ∧ H[o]? = some (.cells (ints nw) 3 false) ∧ Away o oo us out
theorem NowA.row {lo : Nat} {H : AH} {v : Value} {nw : List Int} {oo : Nat} {us : List Value} {out : List (List Int)} (h : NowA lo H v nw oo us out) : Row 3 H v nw := by
  rcases h with h | ⟨o, q1, q2, q3, q4⟩
  · exact .inl h
  · exact (show Own 3 [] H v nw from .inr ⟨o, q1, Nat.zero_le _, q3⟩).row
set_option maxRecDepth 20000 in
set_option maxHeartbeats 32000000 in
theorem TwI_c (n : Int) (v w u : Value) (es : List (Int × Int)) (a b : List Int) (H : AH) (hr : RowP 71 H v es) (hlen : es.length ≤ 1048576) (hes : ∀ y ∈ es, I64 y.1 ∧ I64 y.2) (hw : Row 3 H w a) (hal : a.length ≤ 1048576) (hai : ∀ y ∈ a, I64 y) (hu : Row 3 H u b) (hbl : b.length ≤ 1048576) (hbi : ∀ y ∈ b, I64 y) (hn : I64 n) :
    ACalls Try.prog 20 [.agg (List.toArray [.int .i64 n, v]), w, u] H fun r H' => ∃ g, r = .tuple (List.toArray [g, .bool (decide (TwOk n es a b))]) ∧ InL H.length H'.length 27 3 H' g (twR n es a b) ∧ H <+: H' := by
  refine in20 rfl ?_
  intro Q hQ
  simp (maxSteps := 1000000) (disch := omega) only [cd20, hr.boxG, S, S1, S2, S3, S4, S5, ST, eq_self, reduceIte, reduceCtorEq, Nat.reduceEqDiff, Nat.reduceAdd]
  generalize hA : H ++ [AObj.cells [.int .i64 n, v] 26 false] = A
  have pA : H <+: A := by rw [← hA]; exact List.prefix_append _ _
  have cA : A[H.length]? = some (.cells [.int .i64 n, v] 26 false) := by rw [← hA]; exact at_new ..
  have rA := hr.pre pA
  have wA := hw.pre pA
  have uA := hu.pre pA
  have no : ¬ TwOk n es a b → ∀ {K : AH}, A <+: K → ∃ g, (Value.tuple (List.toArray [.slice none 0 0, .bool false])) = .tuple (List.toArray [g, .bool (decide (TwOk n es a b))]) ∧ InL H.length K.length 27 3 K g (twR n es a b) ∧ H <+: K := by
    intro hno K hK
    refine ⟨_, by rw [decide_eq_false hno], ?_, pA.trans hK⟩
    have e1 : twR n es a b = [] := by unfold twR; rw [if_neg hno]
    rw [e1]
    exact .inl ⟨rfl, rfl⟩
  simp (maxSteps := 1000000) (disch := omega) only [ld_agg ag26 cs26 cA, S, S1, S2, S3, S4, S5, ST, eq_self, reduceIte, reduceCtorEq, Nat.reduceEqDiff, Nat.reduceAdd]
  refine CallH.by (IsTreI_c n v w es a A rA (by omega) wA (by omega)) ?_
  rintro _ B ⟨rfl, pB⟩
  have cB := pre_at pB cA
  by_cases e1 : (Grd n es ∧ 0 < n) ∧ TreL n.toNat es a
  rotate_left
  · simp (maxSteps := 1000000) (disch := omega) only [decide_eq_false e1, S, S1, S2, S3, S4, S5, ST, eq_self, reduceIte, reduceCtorEq, Nat.reduceEqDiff, Nat.reduceAdd]
    refine hQ _ _ _ ?_
    simp (maxSteps := 1000000) (disch := omega) only [S, S1, S2, S3, S4, S5, ST, eq_self, reduceIte, reduceCtorEq, Nat.reduceEqDiff, Nat.reduceAdd]
    exact no (fun h => e1 h.1) pB
  simp (maxSteps := 1000000) (disch := omega) only [decide_eq_true e1, ld_agg ag26 cs26 cB, S, S1, S2, S3, S4, S5, ST, eq_self, reduceIte, reduceCtorEq, Nat.reduceEqDiff, Nat.reduceAdd]
  refine CallH.by (IsTreI_c n v u es b B (rA.pre pB) (by omega) (uA.pre pB) (by omega)) ?_
  rintro _ C ⟨rfl, pC⟩
  have cC := pre_at pC cB
  by_cases e2 : (Grd n es ∧ 0 < n) ∧ TreL n.toNat es b
  rotate_left
  · simp (maxSteps := 1000000) (disch := omega) only [decide_eq_false e2, S, S1, S2, S3, S4, S5, ST, eq_self, reduceIte, reduceCtorEq, Nat.reduceEqDiff, Nat.reduceAdd]
    refine hQ _ _ _ ?_
    simp (maxSteps := 1000000) (disch := omega) only [S, S1, S2, S3, S4, S5, ST, eq_self, reduceIte, reduceCtorEq, Nat.reduceEqDiff, Nat.reduceAdd]
    exact no (fun h => e2 ⟨h.1.1, h.2⟩) (pB.trans pC)
  have hok : TwOk n es a b := ⟨e1, e2.2⟩
  clear no
  have hg := e1.1.1
  have hn0 := e1.1.2
  obtain ⟨N, rfl⟩ : ∃ N : Nat, n = N := ⟨n.toNat, by omega⟩
  have h28 : es.length ≤ 28 := grd_len hg
  have hn8 : N ≤ 8 := by have := hg.1; omega
  have hA3 : TreL N es a := by have := e1.2; rwa [Int.toNat_natCast] at this
  have hB3 : TreL N es b := by have := e2.2; rwa [Int.toNat_natCast] at this
  have hbl2 : b.length + 1 = N := hB3.1
  have hal2 : a.length + 1 = N := hA3.1
  have pAC := pB.trans pC
  simp (maxSteps := 1000000) (disch := omega) only [decide_eq_true e2, S, S1, S2, S3, S4, S5, ST, eq_self, reduceIte, reduceCtorEq, Nat.reduceEqDiff, Nat.reduceAdd]
  refine CallH.by (Clone_c w a C (wA.pre pAC) (by omega)) ?_
  rintro w1 D ⟨hD, pD⟩
  simp (maxSteps := 1000000) (disch := omega) only [S, S1, S2, S3, S4, S5, ST, eq_self, reduceIte, reduceCtorEq, Nat.reduceEqDiff, Nat.reduceAdd]
  refine CallH.by (Clone_c w1 a D hD.row (by omega)) ?_
  rintro w2 E ⟨hE, pE⟩
  have lE := pE.length_le
  have lD := pD.length_le
  have lC := pAC.length_le
  generalize hF : E ++ [AObj.cells [w2] 27 false] = F
  have pF : E <+: F := by rw [← hF]; exact List.prefix_append _ _
  have lF : F.length = E.length + 1 := by rw [← hF]; simp
  have u0 : InU A.length F.length 27 3 F E.length [w2] [a] := by
    have h0 := (InI.of hE.mine).wide (show A.length ≤ D.length by omega) (Nat.le_refl _)
    have := InU.one1 h0 (by omega)
    rw [hF] at this
    exact this.wide (Nat.le_refl _) (by omega)
  have pAF : A <+: F := pAC.trans (pD.trans (pE.trans pF))
  have n0 : NowA A.length F w1 a E.length [w2] [a] := by
    rcases hD with q | ⟨o, q1, q2, q3⟩
    · exact .inl q
    · have ho := at_lt q3
      refine .inr ⟨o, q1, by omega, pre_at (pE.trans pF) q3, by omega, fun i hi => ?_⟩
      have : i = 0 := by simpa using hi
      subst this
      show w2 = .slice none 0 0 ∨ rowO w2 ≠ o
      rcases hE with z | ⟨o2, z1, z2, z3⟩
      · exact .inl z.1
      · refine .inr ?_
        rw [z1]
        show o2 ≠ o
        omega
  have uF := uA.pre pAF
  simp (maxSteps := 1000000) (disch := omega) only [bsRowT hE.row, hF, uF.len Try.underlying27, S, S1, S2, S3, S4, S5, ST, eq_self, reduceIte, reduceCtorEq, Nat.reduceEqDiff, Nat.reduceAdd]
  refine LoopH.by (fun m s H' => ∃ (i : Nat) (nw : List Int) (out : List (List Int)) (oo : Nat) (us : List Value), m + i = b.length ∧ s 2 = u ∧ s 3 = .pointer (some ⟨H.length, 0, none⟩) ∧ s 39 = u ∧ s 40 = .int .i64 (b.length : Int) ∧ s 41 = .int .i64 ((i : Nat) : Int) ∧ s 13 = .slice (some ⟨oo, 0, none⟩) out.length out.length ∧ NowA A.length H' (s 12) nw oo us out ∧ TreL N es nw ∧ out ++ twI N es b nw (b.drop i) = a :: twI N es b a b ∧ InU A.length H'.length 27 3 H' oo us out ∧ A <+: H') b.length ?_ ?_
  · refine ⟨0, a, [a], E.length, [w2], by simp, ?_⟩
    simp (maxSteps := 1000000) (disch := omega) only [S, S1, S2, S3, S4, S5, ST, eq_self, reduceIte, reduceCtorEq, Nat.reduceEqDiff, Nat.reduceAdd]
    have f3 : [a] ++ twI N es b a (b.drop 0) = a :: twI N es b a b := by rw [List.drop_zero]; rfl
    (repeat' first | exact n0 | exact hA3 | exact f3 | exact u0 | exact pAF | apply And.intro) <;> first | (simp only [Value.int.injEq, true_and]; omega) | omega | rfl | assumption | (simp; done) | (simp; omega)
  rintro m s H' ⟨i, nw, out, oo, us, hm, s2, s3, s39, s40, s41, s13, hNow, hN, hout, hU, hp⟩
  generalize hV : s 12 = V at *
  have uH := uA.pre hp
  have rH := rA.pre hp
  have cH := pre_at hp cA
  have hnl := hN.1
  have hrow := hNow.row
  have hol : out.length ≤ b.length + 1 := by
    have h1 := congrArg List.length hout
    have h2 := tw_len (n := N) (es := es) (b := b) b a
    rw [List.length_append, List.length_cons] at h1
    omega
  simp (maxSteps := 1000000) (disch := omega) only [s2, s3, s39, s40, s41, s13, hV, S, S1, S2, S3, S4, S5, ST, eq_self, reduceIte, reduceCtorEq, Nat.reduceEqDiff, Nat.reduceAdd]
  refine brD.intro (fun g => ?_) (fun g => ?_)
  rotate_left
  · have hi : i = b.length := by omega
    subst hi
    rw [List.drop_length, twI, List.append_nil] at hout
    simp (maxSteps := 1000000) (disch := omega) only [s13, S, S1, S2, S3, S4, S5, ST, eq_self, reduceIte, reduceCtorEq, Nat.reduceEqDiff, Nat.reduceAdd]
    refine hQ _ _ _ ?_
    simp (maxSteps := 1000000) (disch := omega) only [s13, S, S1, S2, S3, S4, S5, ST, eq_self, reduceIte, reduceCtorEq, Nat.reduceEqDiff, Nat.reduceAdd]
    have e1 : twR (N : Int) es a b = out := by unfold twR; rw [if_pos hok, hout, Int.toNat_natCast]
    rw [e1]
    exact ⟨_, by rw [decide_eq_true hok], hU.inl.wide pA.length_le (Nat.le_refl _), pA.trans hp⟩
  have hi : i < b.length := by omega
  have hce := uH.cell hi
  have hxm : b.getD i 0 ∈ b := by simp [hi]
  have hdr : b.drop i = b.getD i 0 :: b.drop (i + 1) := by rw [List.drop_eq_getElem_cons hi]; simp [hi]
  rw [hdr, twI] at hout
  generalize hx : b.getD i 0 = x at *
  have hxr := hB3.2.2.1 _ hxm
  simp (maxSteps := 1000000) (disch := omega) only [s2, s3, s39, s40, s41, s13, hV, uH.ix Try.underlying27 cs3, Int.toNat_natCast, hce, S, S1, S2, S3, S4, S5, ST, eq_self, reduceIte, reduceCtorEq, Nat.reduceEqDiff, Nat.reduceAdd]
  refine CallH.by (Contains_c V nw x H' hrow (by omega)) ?_
  rintro _ _ ⟨rfl, rfl⟩
  by_cases hxn : x ∈ nw
  · rw [if_pos hxn] at hout
    simp (maxSteps := 1000000) (disch := omega) only [decide_eq_true hxn, s2, s3, s39, s40, s41, s13, hV, wrap64, S, S1, S2, S3, S4, S5, ST, eq_self, reduceIte, reduceCtorEq, Nat.reduceEqDiff, Nat.reduceAdd]
    refine ⟨m - 1, by omega, i + 1, nw, out, oo, us, ?_⟩
    (repeat' first | exact hNow | exact hN | exact hout | exact hU | exact hp | apply And.intro) <;> first | (simp only [Value.int.injEq, true_and]; omega) | omega | rfl | assumption | (simp; done) | (simp; omega)
  rw [if_neg hxn] at hout
  have ok := ex_ok hg hN hB3 hxm hxn
  have hcl : (crcL N es nw x).length ≤ nw.length + 1 := by
    unfold crcL
    have h1 := put_len (cirL N es nw x) x
    have h2 : (cirL N es nw x).length ≤ nw.length := List.length_filter_le _ _
    omega
  have haw : without (crcL N es nw x) b = without (cirL N es nw x) b := without_put (hN.2.1.sublist List.filter_sublist) hxm
  simp (maxSteps := 1000000) (disch := omega) only [decide_eq_false hxn, s2, s3, s39, s40, s41, s13, hV, ld_agg ag26 cs26 cH, S, S1, S2, S3, S4, S5, ST, eq_self, reduceIte, reduceCtorEq, Nat.reduceEqDiff, Nat.reduceAdd]
  refine CallH.by (circle_c N (by omega) v V es nw x H' rH hg hrow hN hxr hxn) ?_
  rintro q I ⟨hI, pI⟩
  have hIr := hI.row
  generalize hL : crcL N es nw x = L at *
  simp (maxSteps := 1000000) (disch := omega) only [hIr.len Try.underlying27, S, S1, S2, S3, S4, S5, ST, eq_self, reduceIte, reduceCtorEq, Nat.reduceEqDiff, Nat.reduceAdd]
  refine LoopH.by (fun m' s' G => ∃ k : Nat, m' + k = L.length ∧ s' 2 = u ∧ s' 3 = .pointer (some ⟨H.length, 0, none⟩) ∧ s' 39 = u ∧ s' 40 = .int .i64 (b.length : Int) ∧ s' 41 = .int .i64 ((i : Nat) : Int) ∧ s' 13 = .slice (some ⟨oo, 0, none⟩) out.length out.length ∧ s' 12 = V ∧ s' 15 = .int .i64 x ∧ s' 51 = q ∧ s' 52 = .int .i64 (L.length : Int) ∧ s' 53 = .int .i64 ((k : Nat) : Int) ∧ (∀ j, j < k → L.getD j 0 ∈ b) ∧ I <+: G) L.length ?_ ?_
  · refine ⟨0, by simp, ?_⟩
    simp (maxSteps := 1000000) (disch := omega) only [s2, s3, s39, s40, s41, s13, hV, S, S1, S2, S3, S4, S5, ST, eq_self, reduceIte, reduceCtorEq, Nat.reduceEqDiff, Nat.reduceAdd]
    have f1 : ∀ j, j < 0 → L.getD j 0 ∈ b := fun j hj => absurd hj (Nat.not_lt_zero j)
    have f2 := List.prefix_refl I
    (repeat' first | exact f1 | exact f2 | apply And.intro) <;> first | (simp only [Value.int.injEq, true_and]; omega) | omega | rfl | assumption | (simp; done) | (simp; omega)
  rintro m' s' G ⟨k, hm', g2, g3, g39, g40, g41, g13, g12, g15, g51, g52, g53, hbef, pG⟩
  have hqG := hIr.pre pG
  simp (maxSteps := 1000000) (disch := omega) only [g2, g3, g39, g40, g41, g13, g12, g15, g51, g52, g53, S, S1, S2, S3, S4, S5, ST, eq_self, reduceIte, reduceCtorEq, Nat.reduceEqDiff, Nat.reduceAdd]
  refine brD.intro (fun z => ?_) (fun z => ?_)
  rotate_left
  · have := none_out (b := b) (l := L) fun j hj => hbef j (by omega)
    have h2 := ok.pos
    rw [← haw] at h2
    omega
  have hk : k < L.length := by omega
  have hcy := hqG.cell hk
  generalize hy : L.getD k 0 = y at *
  simp (maxSteps := 1000000) (disch := omega) only [g2, g3, g39, g40, g41, g13, g12, g15, g51, g52, g53, hqG.ix Try.underlying27 cs3, Int.toNat_natCast, hcy, box_iT, S, S1, S2, S3, S4, S5, ST, eq_self, reduceIte, reduceCtorEq, Nat.reduceEqDiff, Nat.reduceAdd]
  have st1 := st_at (P := Try.prog) (t := 3) (i := 0) (y := .int .i64 y) cs3 (at_new G (.cells [.int .i64 0] 3 false)) (by show 0 < 1; decide) rfl rfl
  have set0 : [Value.int .i64 0].set 0 (.int .i64 y) = [.int .i64 y] := rfl
  rw [set_new, set0] at st1
  generalize hK : G ++ [AObj.cells [.int .i64 y] 3 false] = K at st1
  have pK : G <+: K := by rw [← hK]; exact List.prefix_append _ _
  have cK : K[G.length]? = some (.cells [.int .i64 y] 3 false) := by rw [← hK]; exact at_new ..
  have lK : K.length = G.length + 1 := by rw [← hK]; simp
  have pHK : H' <+: K := pI.trans (pG.trans pK)
  have uK := (uA.pre hp).pre pHK
  simp (maxSteps := 1000000) (disch := omega) only [st1, cell_of cK, g2, S, S1, S2, S3, S4, S5, ST, eq_self, reduceIte, reduceCtorEq, Nat.reduceEqDiff, Nat.reduceAdd]
  refine CallH.by (Contains_c u b y K uK (by omega)) ?_
  rintro _ _ ⟨rfl, rfl⟩
  by_cases hyb : y ∈ b
  · have f1 : ∀ j, j < k + 1 → L.getD j 0 ∈ b := fun j hj => by
      by_cases e : j = k
      · rw [e, hy]; exact hyb
      · exact hbef j (by omega)
    have f2 := pG.trans pK
    simp (maxSteps := 1000000) (disch := omega) only [decide_eq_true hyb, g2, g3, g39, g40, g41, g13, g12, g15, g51, g52, g53, wrap64, S, S1, S2, S3, S4, S5, ST, eq_self, reduceIte, reduceCtorEq, Nat.reduceEqDiff, Nat.reduceAdd]
    refine ⟨m' - 1, by omega, k + 1, ?_⟩
    (repeat' first | exact f1 | exact f2 | apply And.intro) <;> first | (simp only [Value.int.injEq, true_and]; omega) | omega | rfl | assumption | (simp; done) | (simp; omega)
  have hya : y = awL N es b nw x := by
    have := first_out (l := L) (b := b) hk hbef (by rw [hy]; exact hyb)
    rw [haw, hy] at this
    exact this.symm
  have hcir := (cir_mem hg hN.2.2.1 hxr).1 ok.cir
  rw [← hya] at hcir
  have hyn : y ∈ nw := hcir.1
  have hnp : 0 < nw.length := List.length_pos_of_mem hyn
  obtain ⟨o, hVo, hAo, hco, haway⟩ : ∃ o, V = .slice (some ⟨o, 0, none⟩) nw.length nw.length ∧ A.length ≤ o ∧ H'[o]? = some (.cells (ints nw) 3 false) ∧ Away o oo us out := by
    rcases hNow with ⟨_, q2⟩ | h
    · rw [q2] at hnp; simp at hnp
    · exact h
  have coK := pre_at pHK hco
  have loH := at_lt hco
  have lHK := pHK.length_le
  have lIG := (pI.trans pG).length_le
  have hbox : ∀ ys : List Int, (K.set o (.cells (ints ys) 3 false))[G.length]? = some (.cells [.int .i64 y] 3 false) := fun ys => by rw [List.getElem?_set_ne (show o ≠ G.length by omega)]; exact cK
  simp (maxSteps := 1000000) (disch := omega) only [decide_eq_false hyb, mkf_1T, g2, g3, g39, g40, g41, g13, g12, g15, g51, g52, g53, S, S1, S2, S3, S4, S5, ST, eq_self, reduceIte, reduceCtorEq, Nat.reduceEqDiff, Nat.reduceAdd]
  rw [hVo]
  refine CallH.by (DeleteFunc_c o nw (fun z => decide (y = z)) 60 [.pointer (some ⟨G.length, 0, none⟩)] K coK (by omega) fun ys z hz => eqClos_c y z G.length _ (cell_of (hbox ys) 0)) ?_
  rintro _ _ ⟨zs, rfl, rfl, hzs⟩
  have hflt : nw.filter (fun z => !decide (y = z)) = wo1 nw y := by
    unfold wo1
    exact List.filter_congr fun z _ => by
      by_cases e : y = z
      · subst e; simp
      · have e' : ¬ z = y := fun q => e q.symm
        simp [e, e']
  rw [hflt] at hzs ⊢
  have hwl : (wo1 nw y).length + 1 = nw.length := wo1_len (hN.2.1.imp fun q e => by omega) hyn
  have coK2 : (K.set o (.cells (ints zs) 3 false))[o]? = some (.cells (ints zs) 3 false) := at_set coK
  have hzl : (wo1 nw y).length ≤ zs.length := by
    have := congrArg List.length hzs
    rw [List.length_take] at this; omega
  have k1 := app_q (P := Try.prog) (t := 27) (k := 0) (n := (wo1 nw y).length) (c := (wo1 nw y).length) (x := x) Try.underlying27 cs3 (by rw [by3]; decide) zk3 coK2 (by omega) (by omega)
  rw [List.drop_zero, hzs] at k1
  generalize hM : K.set o (.cells (ints zs) 3 false) = M at k1 coK2
  have lM : M.length = K.length := by rw [← hM]; simp
  simp (maxSteps := 1000000) (disch := omega) only [g2, g3, g39, g40, g41, g13, g12, g15, g51, g52, g53, k1, S, S1, S2, S3, S4, S5, ST, eq_self, reduceIte, reduceCtorEq, Nat.reduceEqDiff, Nat.reduceAdd]
  generalize hR : M.set o .dead ++ [AObj.cells [.int .i64 x] 3 false, .cells (ints (wo1 nw y ++ [x])) 3 false] = R
  have lR : R.length = K.length + 2 := by rw [← hR]; simp [lM]
  have atR : ∀ {j : Nat} {z : AObj}, j ≠ o → K[j]? = some z → R[j]? = some z := by
    intro j z hj hz
    have hjl := at_lt hz
    rw [← hR, ← hM, List.getElem?_append_left (by simp; omega), List.getElem?_set_ne (fun e => hj e.symm), List.getElem?_set_ne (fun e => hj e.symm)]
    exact hz
  have ownR : Own 3 K R (.slice (some ⟨M.length + 1, 0, none⟩) (wo1 nw y ++ [x]).length (wo1 nw y ++ [x]).length) (wo1 nw y ++ [x]) := by
    refine .inr ⟨M.length + 1, rfl, by omega, ?_⟩
    rw [← hR, List.getElem?_append_right (by simp)]
    simp
  have hal1 : (wo1 nw y ++ [x]).length = (wo1 nw y).length + 1 := by simp
  rw [hal1] at ownR
  refine CallH.by (Sort_c _ _ K R ownR (by rw [hal1]; omega)) ?_
  rintro _ S0 ⟨ys, hS, hperm, hasc, hels⟩
  have hys : ys = exL N es b nw x := by
    have hnd : ys.Nodup := by
      rw [hperm.nodup_iff, List.nodup_append]
      refine ⟨(hN.2.1.imp fun q e => by omega : nw.Nodup).sublist List.filter_sublist, by simp, fun p hp q hq => ?_⟩
      rw [List.mem_singleton] at hq
      subst hq
      exact fun e => hxn (e ▸ (wo1_mem.1 hp).1)
    refine srt_ext (asc_srt hasc hnd) ok.tree.2.1 fun z => ?_
    rw [hperm.mem_iff]
    unfold exL
    rw [put_mem, ← hya]
    simp [or_comm]
  subst hys
  have hel := ok.tree.1
  have lS : S0.length = R.length := hels.1
  have atS : ∀ {j : Nat} {z : AObj}, j < K.length → j ≠ o → K[j]? = some z → S0[j]? = some z := by
    intro j z hjl hj hz
    refine hels.2 _ _ (.inr ?_) (atR hj hz)
    show j ≠ M.length + 1
    omega
  have pAS : A <+: S0 := prefix_of fun j z hz => by
    have hjl := at_lt hz
    exact atS (by have := hp.length_le; omega) (by omega) (pre_at (hp.trans pHK) hz)
  have hUS : InU A.length S0.length 27 3 S0 oo us out := by
    have h1 : InU A.length H'.length 27 3 K oo us out := hU.pre pHK
    have h2 : InU A.length H'.length 27 3 S0 oo us out := by
      obtain ⟨q1, q2, q3, q4, q5, q6⟩ := h1
      refine ⟨q1, q2, atS (by omega) haway.1 q3, q4, fun t ht => ⟨?_, (q5 t ht).2⟩, q6⟩
      refine (q5 t ht).1.move fun z hn hz => ?_
      rcases haway.2 t ht with e | e
      · exact absurd e hn
      · exact atS (at_lt hz) e hz
    exact h2.wide (Nat.le_refl _) (by omega)
  have hSr := hS.row
  simp (maxSteps := 1000000) (disch := omega) only [g2, g3, g39, g40, g41, g13, g12, g15, g51, g52, g53, S, S1, S2, S3, S4, S5, ST, eq_self, reduceIte, reduceCtorEq, Nat.reduceEqDiff, Nat.reduceAdd]
  refine CallH.by (Clone_c _ _ S0 hSr (by omega)) ?_
  rintro c T0 ⟨hT, pT⟩
  obtain ⟨K2, us2, m1, m2, m3, m4, m5⟩ := hUS.copy pAS.length_le pT hT (by omega)
  simp (maxSteps := 1000000) (disch := omega) only [g2, g3, g39, g40, g41, g13, g12, g15, bsRowT hT.row, m1, wrap64, S, S1, S2, S3, S4, S5, ST, eq_self, reduceIte, reduceCtorEq, Nat.reduceEqDiff, Nat.reduceAdd]
  have hoo := hU.2.1
  have lT := pT.length_le
  obtain ⟨o2, e1, e2', e3⟩ := own_sl hS (by omega)
  have fN : NowA A.length K2 (.slice (some ⟨M.length + 1, 0, none⟩) ((wo1 nw y).length + 1) ((wo1 nw y).length + 1)) (exL N es b nw x) (T0.length + 1) us2 (out ++ [exL N es b nw x]) := by
    have el : (exL N es b nw x).length = (wo1 nw y).length + 1 := by omega
    have eo : o2 = M.length + 1 := by
      simp only [Value.slice.injEq, Option.some.injEq, Addr.mk.injEq] at e1
      exact e1.1.1.symm
    subst eo
    refine .inr ⟨M.length + 1, by rw [el], by omega, m4 _ _ (by omega) (pre_at pT e3), by omega, fun t ht => ?_⟩
    have hul := hUS.2.2.2.1
    rw [List.length_append, List.length_singleton] at ht
    rw [m5, getD_snocT hul]
    by_cases e : t < out.length
    · rw [if_pos e]
      have hI2 := ((hU.2.2.2.2.1 t e).1 : InI A.length H'.length 3 H' _ _)
      rcases hI2 with ⟨z, _⟩ | ⟨o3, zs3, z1, z2, z3, _⟩
      · exact .inl z
      · refine .inr ?_
        rw [z1]
        show o3 ≠ M.length + 1
        omega
    · rw [if_neg e, if_pos (by omega)]
      rcases hT with ⟨z, _⟩ | ⟨o3, z1, z2, _⟩
      · exact .inl z
      · refine .inr ?_
        rw [z1]
        show o3 ≠ M.length + 1
        omega
  have fp : A <+: K2 := prefix_of fun j z hz => m4 j z (by have := at_lt hz; have := hU.1; omega) (pre_at (pAS.trans pT) hz)
  have fo : out ++ [exL N es b nw x] ++ twI N es b (exL N es b nw x) (b.drop (i + 1)) = a :: twI N es b a b := by
    rw [List.append_assoc, List.singleton_append]; exact hout
  have ft := ok.tree
  refine ⟨m - 1, by omega, i + 1, exL N es b nw x, out ++ [exL N es b nw x], T0.length + 1, us2, ?_⟩
  (repeat' first | exact fN | exact ft | exact fo | exact m2 | exact fp | apply And.intro) <;> first | (simp only [Value.int.injEq, true_and]; omega) | omega | rfl | assumption | (simp; done) | (simp; omega)
end Go.Proofs.Ytldcbmmmheookaa.Ai
namespace Go.Proofs.Ytldcbmmmheookaa.Ai
open Go
def ords21 : List (Nat × List (Nat × Bool)) := [(6, [(0, false), (1, false), (2, false), (3, false), (4, false), (5, false), (6, false), (7, false), (8, true), (9, false)])]
def cd21 : Cd := (.seq (.reg [⟨⟨some 4, Op.assign (Operand.const (Value.bool false)), none⟩, []⟩]) (.seq (.seq (.reg [⟨⟨some 6, Op.move (Operand.tmp 0), none⟩, []⟩,
  ⟨⟨some 7, Op.call { callee := (Callee.builtin Builtin.len), args := #[(Operand.tmp 6)], argTypes := #[38] }, none⟩, []⟩,
  ⟨⟨some 8, Op.move (Operand.tmp 1), none⟩, []⟩,
  ⟨⟨some 9, Op.call { callee := (Callee.builtin Builtin.len), args := #[(Operand.tmp 8)], argTypes := #[38] }, none⟩, []⟩,
  ⟨⟨some 10, Op.binOp BinOp.neq 3 (Operand.tmp 7) (Operand.tmp 9) 3, none⟩, []⟩]) (.cond (Operand.tmp 10) (.seq (.reg [⟨⟨some 4, Op.assign (Operand.const (Value.bool false)), none⟩, []⟩]) .ret) .skip)) (.seq (.seq (.reg [⟨⟨some 5, Op.assign (Operand.const (Value.int IntKind.i64 0)), none⟩, []⟩]) (.block 0 (.loop (.seq (.seq (.reg [⟨⟨some 11, Op.move (Operand.tmp 5), none⟩, []⟩,
  ⟨⟨some 12, Op.move (Operand.tmp 0), none⟩, []⟩,
  ⟨⟨some 13, Op.call { callee := (Callee.builtin Builtin.len), args := #[(Operand.tmp 12)], argTypes := #[38] }, none⟩, []⟩,
  ⟨⟨some 14, Op.binOp BinOp.lss 3 (Operand.tmp 11) (Operand.tmp 13) 3, none⟩, []⟩]) (.cond (Operand.tmp 14) .skip (.exit 0))) (.seq (.block 1 (.seq (.reg [⟨⟨some 17, Op.move (Operand.tmp 0), none⟩, []⟩,
  ⟨⟨some 18, Op.move (Operand.tmp 5), none⟩, []⟩,
  ⟨⟨some 19, Op.indexAddr 38 (Operand.tmp 17) (Operand.tmp 18), none⟩, []⟩,
  ⟨⟨some 20, Op.load 27 (Operand.tmp 19), none⟩, []⟩,
  ⟨⟨some 21, Op.move (Operand.tmp 1), none⟩, []⟩,
  ⟨⟨some 22, Op.move (Operand.tmp 5), none⟩, []⟩,
  ⟨⟨some 23, Op.indexAddr 38 (Operand.tmp 21) (Operand.tmp 22), none⟩, []⟩,
  ⟨⟨some 24, Op.load 27 (Operand.tmp 23), none⟩, []⟩,
  ⟨⟨some 25, Op.call { callee := (Callee.value (Operand.func 23)), args := #[(Operand.tmp 20), (Operand.tmp 24)], argTypes := #[27, 27] }, none⟩, []⟩,
  ⟨⟨some 26, Op.unOp UnOp.not 4 (Operand.tmp 25), none⟩, []⟩]) (.cond (Operand.tmp 26) (.seq (.reg [⟨⟨some 4, Op.assign (Operand.const (Value.bool false)), none⟩, []⟩]) .ret) .skip))) (.reg [⟨⟨some 15, Op.move (Operand.tmp 5), none⟩, []⟩,
  ⟨⟨some 16, Op.binOp BinOp.add 3 (Operand.tmp 15) (Operand.const (Value.int IntKind.i64 1)) 3, none⟩, []⟩,
  ⟨⟨some 5, Op.assign (Operand.tmp 16), none⟩, []⟩])))))) (.seq (.reg [⟨⟨some 4, Op.assign (Operand.const (Value.bool true)), none⟩, []⟩]) .ret))))
theorem sl21 : slim Try.f21.ntmps ords21 (Try.f21.body.getD .skip) = some cd21 := by kernel_rfl
theorem in21 {args : List Value} {H : AH} {R : Value → AH → Prop} (hl : args.length = 2) (h : ∀ (Q : Exit → Sl → AH → Prop), (∀ e s H, endA Try.prog [ResultVar.tmp 4] R e s H → Q e s H) → wpC Try.prog cd21 Q (enterA args) H) : ACalls Try.prog 21 args H R :=
  ACalls.intro (by kernel_rfl) Try.func21 rfl (by kernel_rfl) sl21 hl (of_decide_eq_true (by kernel_rfl)) (by kernel_rfl) h
def ords27 : List (Nat × List (Nat × Bool)) := []
def cd27 : Cd := (.seq (.reg [⟨⟨some 4, Op.assign (Operand.const (Value.int IntKind.i64 0)), none⟩, []⟩]) (.seq (.seq (.reg [⟨⟨some 5, Op.assign (Operand.const (Value.int IntKind.i64 0)), none⟩, []⟩]) (.block 0 (.loop (.seq (.seq (.reg [⟨⟨some 6, Op.move (Operand.tmp 5), none⟩, []⟩,
  ⟨⟨some 7, Op.move (Operand.tmp 0), none⟩, []⟩,
  ⟨⟨some 8, Op.call { callee := (Callee.builtin Builtin.len), args := #[(Operand.tmp 7)], argTypes := #[38] }, none⟩, []⟩,
  ⟨⟨some 9, Op.binOp BinOp.lss 3 (Operand.tmp 6) (Operand.tmp 8) 3, none⟩, []⟩]) (.cond (Operand.tmp 9) .skip (.exit 0))) (.seq (.block 1 (.seq (.reg [⟨⟨some 12, Op.move (Operand.tmp 0), none⟩, []⟩,
  ⟨⟨some 13, Op.move (Operand.tmp 5), none⟩, []⟩,
  ⟨⟨some 14, Op.indexAddr 38 (Operand.tmp 12) (Operand.tmp 13), none⟩, []⟩,
  ⟨⟨some 15, Op.load 27 (Operand.tmp 14), none⟩, []⟩,
  ⟨⟨some 16, Op.move (Operand.tmp 1), none⟩, []⟩,
  ⟨⟨some 17, Op.call { callee := (Callee.value (Operand.func 64)), args := #[(Operand.tmp 15), (Operand.tmp 16)], argTypes := #[27, 3] }, none⟩, []⟩,
  ⟨⟨some 1, Op.assign (Operand.tmp 17), none⟩, []⟩]) (.seq (.reg [⟨⟨some 18, Op.move (Operand.tmp 1), none⟩, []⟩,
  ⟨⟨some 19, Op.binOp BinOp.lss 3 (Operand.tmp 18) (Operand.const (Value.int IntKind.i64 0)) 3, none⟩, []⟩]) (.cond (Operand.tmp 19) (.seq (.reg [⟨⟨some 4, Op.assign (Operand.const (Value.int IntKind.i64 (-1))), none⟩, []⟩]) .ret) .skip)))) (.reg [⟨⟨some 10, Op.move (Operand.tmp 5), none⟩, []⟩,
  ⟨⟨some 11, Op.binOp BinOp.add 3 (Operand.tmp 10) (Operand.const (Value.int IntKind.i64 1)) 3, none⟩, []⟩,
  ⟨⟨some 5, Op.assign (Operand.tmp 11), none⟩, []⟩])))))) (.seq (.reg [⟨⟨some 20, Op.move (Operand.tmp 1), none⟩, []⟩,
  ⟨⟨some 4, Op.assign (Operand.tmp 20), none⟩, []⟩]) .ret)))
theorem sl27 : slim Try.f27.ntmps ords27 (Try.f27.body.getD .skip) = some cd27 := by kernel_rfl
theorem in27 {args : List Value} {H : AH} {R : Value → AH → Prop} (hl : args.length = 2) (h : ∀ (Q : Exit → Sl → AH → Prop), (∀ e s H, endA Try.prog [ResultVar.tmp 4] R e s H → Q e s H) → wpC Try.prog cd27 Q (enterA args) H) : ACalls Try.prog 27 args H R :=
  ACalls.intro (by kernel_rfl) Try.func27 rfl (by kernel_rfl) sl27 hl (of_decide_eq_true (by kernel_rfl)) (by kernel_rfl) h
def ords26 : List (Nat × List (Nat × Bool)) := []
def cd26 : Cd := (.seq (.reg [⟨⟨some 4, Op.assign (Operand.const (Value.int IntKind.i64 0)), none⟩, []⟩]) (.seq (.seq (.reg [⟨⟨some 5, Op.assign (Operand.const (Value.int IntKind.i64 0)), none⟩, []⟩]) (.block 0 (.loop (.seq (.seq (.reg [⟨⟨some 6, Op.move (Operand.tmp 5), none⟩, []⟩,
  ⟨⟨some 7, Op.move (Operand.tmp 0), none⟩, []⟩,
  ⟨⟨some 8, Op.call { callee := (Callee.builtin Builtin.len), args := #[(Operand.tmp 7)], argTypes := #[38] }, none⟩, []⟩,
  ⟨⟨some 9, Op.binOp BinOp.lss 3 (Operand.tmp 6) (Operand.tmp 8) 3, none⟩, []⟩]) (.cond (Operand.tmp 9) .skip (.exit 0))) (.seq (.block 1 (.reg [⟨⟨some 12, Op.move (Operand.tmp 0), none⟩, []⟩,
  ⟨⟨some 13, Op.move (Operand.tmp 5), none⟩, []⟩,
  ⟨⟨some 14, Op.indexAddr 38 (Operand.tmp 12) (Operand.tmp 13), none⟩, []⟩,
  ⟨⟨some 15, Op.load 27 (Operand.tmp 14), none⟩, []⟩,
  ⟨⟨some 16, Op.move (Operand.tmp 1), none⟩, []⟩,
  ⟨⟨some 17, Op.call { callee := (Callee.value (Operand.func 25)), args := #[(Operand.tmp 15), (Operand.tmp 16)], argTypes := #[27, 3] }, none⟩, []⟩,
  ⟨⟨some 1, Op.assign (Operand.tmp 17), none⟩, []⟩])) (.reg [⟨⟨some 10, Op.move (Operand.tmp 5), none⟩, []⟩,
  ⟨⟨some 11, Op.binOp BinOp.add 3 (Operand.tmp 10) (Operand.const (Value.int IntKind.i64 1)) 3, none⟩, []⟩,
  ⟨⟨some 5, Op.assign (Operand.tmp 11), none⟩, []⟩])))))) (.seq (.reg [⟨⟨some 18, Op.move (Operand.tmp 1), none⟩, []⟩,
  ⟨⟨some 4, Op.assign (Operand.tmp 18), none⟩, []⟩]) .ret)))
theorem sl26 : slim Try.f26.ntmps ords26 (Try.f26.body.getD .skip) = some cd26 := by kernel_rfl
theorem in26 {args : List Value} {H : AH} {R : Value → AH → Prop} (hl : args.length = 2) (h : ∀ (Q : Exit → Sl → AH → Prop), (∀ e s H, endA Try.prog [ResultVar.tmp 4] R e s H → Q e s H) → wpC Try.prog cd26 Q (enterA args) H) : ACalls Try.prog 26 args H R :=
  ACalls.intro (by kernel_rfl) Try.func26 rfl (by kernel_rfl) sl26 hl (of_decide_eq_true (by kernel_rfl)) (by kernel_rfl) h
end Go.Proofs.Ytldcbmmmheookaa.Ai
namespace Go.Proofs.Ytldcbmmmheookaa.Ai
open Go Go.RowKit
set_option linter.unusedVariables false
set_option linter.unusedSimpArgs false
set_option maxHeartbeats 1000000 in
theorem eqIntSS_c (v w : Value) (ls ms : List (List Int)) (H : AH) {b b' : Nat} (hr : RowLB b 27 3 H v ls) (hr2 : RowLB b' 27 3 H w ms) (hlen : ls.length ≤ 1099511627776) (hsz : sizeL ls ≤ 1099511627776) :
    ACalls Try.prog 21 [v, w] H fun r H' => r = .bool (decide (ls = ms)) ∧ H = H' := by
  obtain ⟨us, hv, _, hul, hu⟩ := hr
  obtain ⟨ws, hw, _, hwl, hwr⟩ := hr2
  have hvl := hv.len Try.underlying38
  have hwln := hw.len Try.underlying38
  rw [hul] at hvl
  rw [hwl] at hwln
  refine in21 rfl ?_
  intro Q hQ
  simp (maxSteps := 1000000) (disch := omega) only [cd21, hvl, hwln, S, S1, S2, S3, S4, S5, ST, eq_self, reduceIte, reduceCtorEq, Nat.reduceEqDiff, Nat.reduceAdd]
  refine brD.intro (fun g => ?_) (fun g => ?_) <;> simp (maxSteps := 1000000) (disch := omega) only [hvl, S, S1, S2, S3, S4, S5, ST, eq_self, reduceIte, reduceCtorEq, Nat.reduceEqDiff, Nat.reduceAdd]
  · refine hQ _ _ _ ?_
    simp (maxSteps := 1000000) (disch := omega) only [S, S1, S2, S3, S4, S5, ST, eq_self, reduceIte, reduceCtorEq, Nat.reduceEqDiff, Nat.reduceAdd]
    have : ls ≠ ms := fun e => g (by rw [e])
    simp [this]
  · have hl : ls.length = ms.length := by omega
    refine LoopH.by (fun m s H' => ∃ i, m + i = ls.length ∧ s 0 = v ∧ s 1 = w ∧ s 5 = .int .i64 ((i : Nat) : Int) ∧ H = H' ∧ ls.take i = ms.take i) ls.length ?_ ?_
    · exact ⟨0, by simp, rfl, rfl, rfl, rfl, by simp⟩
    · rintro m s H' ⟨i, hm, h0, h1, h5, rfl, hn⟩
      simp (maxSteps := 1000000) (disch := omega) only [h0, h1, h5, hvl, S, S1, S2, S3, S4, S5, ST, eq_self, reduceIte, reduceCtorEq, Nat.reduceEqDiff, Nat.reduceAdd]
      refine brD.intro (fun g => ?_) (fun g => ?_) <;> simp (maxSteps := 1000000) (disch := omega) only [h0, h1, h5, hv.ix Try.underlying38 cs27, hv.cell, hw.ix Try.underlying38 cs27, hw.cell, Int.toNat_natCast, S, S1, S2, S3, S4, S5, ST, eq_self, reduceIte, reduceCtorEq, Nat.reduceEqDiff, Nat.reduceAdd]
      · have hi : i < ls.length := by omega
        have hg : ls.getD i [] = ls[i] := by simp [hi]
        have hg2 : ms.getD i [] = ms[i] := by simp [hl ▸ hi]
        have h1l := sizeL_take ls i hi
        have h2l := sizeL_le ls (i + 1)
        refine CallH.by (eqIntS_c _ _ _ _ H (hu i hi).1 (hwr i (by omega)).1 (by omega)) ?_
        rintro _ _ ⟨rfl, rfl⟩
        simp (maxSteps := 1000000) (disch := omega) only [S, S1, S2, S3, S4, S5, ST, eq_self, reduceIte, reduceCtorEq, Nat.reduceEqDiff, Nat.reduceAdd]
        refine brD.intro (fun e => ?_) (fun e => ?_) <;> simp (maxSteps := 1000000) (disch := omega) only [h0, h1, h5, wrap64, S, S1, S2, S3, S4, S5, ST, eq_self, reduceIte, reduceCtorEq, Nat.reduceEqDiff, Nat.reduceAdd]
        · have fx : ls.take (i + 1) = ms.take (i + 1) := by
            rw [List.take_add_one, List.take_add_one, hn, List.getElem?_eq_getElem hi, List.getElem?_eq_getElem (hl ▸ hi)]
            rw [hg, hg2] at e
            rw [e]
          refine ⟨m - 1, by omega, i + 1, ?_⟩
          (repeat' first | exact fx | apply And.intro) <;> first | (simp only [Value.int.injEq, true_and]; omega) | omega | rfl | assumption | (simp; done) | (simp; omega)
        · refine hQ _ _ _ ?_
          simp (maxSteps := 1000000) (disch := omega) only [S, S1, S2, S3, S4, S5, ST, eq_self, reduceIte, reduceCtorEq, Nat.reduceEqDiff, Nat.reduceAdd]
          have : ls ≠ ms := by
            intro e'
            subst e'
            exact e rfl
          simp [this]
      · refine hQ _ _ _ ?_
        simp (maxSteps := 1000000) (disch := omega) only [S, S1, S2, S3, S4, S5, ST, eq_self, reduceIte, reduceCtorEq, Nat.reduceEqDiff, Nat.reduceAdd]
        rw [List.take_of_length_le (by omega), List.take_of_length_le (by omega)] at hn
        simp [hn]
theorem heldIntSS_c (v : Value) (ls : List (List Int)) (k : Int) (H : AH) {b : Nat} (hr : RowLB b 27 3 H v (runL k ls)) (hlen : ls.length ≤ 1099511627776) (hsz : sizeL ls ≤ 1099511627776) (hk : 0 ≤ k ∧ k ≤ 1099511627776) :
    ACalls Try.prog 27 [v, .int .i64 k] H fun r H' => r = .int .i64 (k + sizeL ls) ∧ H = H' := by
  obtain ⟨us, hv, _, hul, hu⟩ := hr
  rw [runL_len] at hul hu
  have hvl := hv.len Try.underlying38
  rw [hul] at hvl
  refine in27 rfl ?_
  intro Q hQ
  simp (maxSteps := 1000000) (disch := omega) only [cd27, S, S1, S2, S3, S4, S5, ST, eq_self, reduceIte, reduceCtorEq, Nat.reduceEqDiff, Nat.reduceAdd]
  refine LoopH.by (fun m s H' => ∃ i, m + i = ls.length ∧ s 0 = v ∧ s 1 = .int .i64 (k + (sizeL (ls.take i) : Nat)) ∧ s 5 = .int .i64 ((i : Nat) : Int) ∧ H = H') ls.length ?_ ?_
  · exact ⟨0, by simp, rfl, by simp [S, S1, S2, S3, S4, S5, ST, eq_self, reduceIte, reduceCtorEq, Nat.reduceEqDiff, Nat.reduceAdd, sizeL], rfl, rfl⟩
  · rintro m s H' ⟨i, hm, h0, h1, h5, rfl⟩
    simp (maxSteps := 1000000) (disch := omega) only [h0, h1, h5, hvl, S, S1, S2, S3, S4, S5, ST, eq_self, reduceIte, reduceCtorEq, Nat.reduceEqDiff, Nat.reduceAdd]
    refine brD.intro (fun g => ?_) (fun g => ?_) <;> simp (maxSteps := 1000000) (disch := omega) only [h0, h1, h5, hv.ix Try.underlying38 cs27, hv.cell, Int.toNat_natCast, S, S1, S2, S3, S4, S5, ST, eq_self, reduceIte, reduceCtorEq, Nat.reduceEqDiff, Nat.reduceAdd]
    · have hi : i < ls.length := by omega
      have h1l := sizeL_take ls i hi
      have h2l := sizeL_le ls (i + 1)
      have hrow := (hu i hi).1
      rw [runL_at k ls i hi] at hrow
      refine CallH.by (heldIntS_c _ _ (k + (sizeL (ls.take i) : Nat)) H hrow (by rw [runI_len]; omega) (by omega) (by rw [runI_len])) ?_
      rintro _ _ ⟨rfl, rfl⟩
      simp (maxSteps := 1000000) (disch := omega) only [runI_len, S, S1, S2, S3, S4, S5, ST, eq_self, reduceIte, reduceCtorEq, Nat.reduceEqDiff, Nat.reduceAdd]
      refine brD.intro (fun h => absurd h (by omega)) (fun _ => ?_)
      simp (maxSteps := 1000000) (disch := omega) only [h0, h1, h5, wrap64, S, S1, S2, S3, S4, S5, ST, eq_self, reduceIte, reduceCtorEq, Nat.reduceEqDiff, Nat.reduceAdd]
      refine ⟨m - 1, by omega, i + 1, by omega, ?_⟩
      rw [h1l]
      (repeat' first | apply And.intro) <;> first | (simp only [Value.int.injEq, true_and]; omega) | omega | rfl | assumption | (simp; done) | (simp; omega)
    · refine hQ _ _ _ ?_
      simp (maxSteps := 1000000) (disch := omega) only [h1, S, S1, S2, S3, S4, S5, ST, eq_self, reduceIte, reduceCtorEq, Nat.reduceEqDiff, Nat.reduceAdd]
      have : ls.take i = ls := List.take_of_length_le (by omega)
      rw [this]
/-- the lists as far as i are marked -/
def mixL (k : Int) (ls : List (List Int)) (i : Nat) : List (List Int) := (runL k ls).take i ++ ls.drop i
theorem mixL_len (k : Int) (ls : List (List Int)) (i : Nat) : (mixL k ls i).length = ls.length := by
  unfold mixL
  simp [runL_len]; omega
theorem mixL_at (k : Int) (ls : List (List Int)) (i j : Nat) (hj : j < ls.length) : (mixL k ls i).getD j [] = if j < i then runI (k + sizeL (ls.take j)) (ls.getD j []).length else ls.getD j [] := by
  unfold mixL
  have hl : ((runL k ls).take i).length = min i ls.length := by simp [runL_len]
  by_cases h : j < i
  · rw [if_pos h, List.getD_eq_getElem?_getD, List.getElem?_append_left (by rw [hl]; omega), List.getElem?_take, if_pos h, ← List.getD_eq_getElem?_getD, runL_at k ls j hj]
  · rw [if_neg h, List.getD_eq_getElem?_getD, List.getElem?_append_right (by rw [hl]; omega), hl, List.getElem?_drop, ← List.getD_eq_getElem?_getD]
    congr 1; omega
set_option maxHeartbeats 1000000 in
theorem markIntSS_B (v : Value) (ls : List (List Int)) (k : Int) (lo hi : Nat) (H : AH) (h : InL lo hi 27 3 H v ls) (hlen : ls.length ≤ 1099511627776) (hsz : sizeL ls ≤ 1099511627776) (hk : 0 ≤ k ∧ k ≤ 1099511627776) :
    ACalls Try.prog 26 [v, .int .i64 k] H fun r H' => r = .int .i64 (k + sizeL ls) ∧ InL lo hi 27 3 H' v (runL k ls) ∧ ElseR lo hi H H' := by
  refine in26 rfl ?_
  intro Q hQ
  rcases h with ⟨rfl, rfl⟩ | ⟨o, us, rfl, hin⟩
  · simp (maxSteps := 1000000) (disch := omega) only [cd26, S, S1, S2, S3, S4, S5, ST, eq_self, reduceIte, reduceCtorEq, Nat.reduceEqDiff, Nat.reduceAdd]
    refine LoopH.by (fun m s H' => s 0 = .slice none 0 0 ∧ s 1 = .int .i64 k ∧ s 5 = .int .i64 0 ∧ H = H') 0 ?_ ?_
    · exact ⟨rfl, rfl, rfl, rfl⟩
    · rintro m s H' ⟨h0, h1, h5, rfl⟩
      simp (maxSteps := 1000000) (disch := omega) only [h0, h1, h5, S, S1, S2, S3, S4, S5, ST, eq_self, reduceIte, reduceCtorEq, Nat.reduceEqDiff, Nat.reduceAdd]
      refine brD.intro (fun g => absurd g (by decide)) (fun g => ?_)
      simp (maxSteps := 1000000) (disch := omega) only [h1, S, S1, S2, S3, S4, S5, ST, eq_self, reduceIte, reduceCtorEq, Nat.reduceEqDiff, Nat.reduceAdd]
      refine hQ _ _ _ ?_
      simp (maxSteps := 1000000) (disch := omega) only [h1, S, S1, S2, S3, S4, S5, ST, eq_self, reduceIte, reduceCtorEq, Nat.reduceEqDiff, Nat.reduceAdd]
      exact ⟨by simp [sizeL], .inl ⟨rfl, rfl⟩, ElseR.refl _ _ _⟩
  · simp (maxSteps := 1000000) (disch := omega) only [cd26, S, S1, S2, S3, S4, S5, ST, eq_self, reduceIte, reduceCtorEq, Nat.reduceEqDiff, Nat.reduceAdd]
    refine LoopH.by (fun m s H' => ∃ i, m + i = ls.length ∧ s 0 = .slice (some ⟨o, 0, none⟩) ls.length ls.length ∧ s 1 = .int .i64 (k + (sizeL (ls.take i) : Nat)) ∧ s 5 = .int .i64 ((i : Nat) : Int) ∧ InU lo hi 27 3 H' o us (mixL k ls i) ∧ ElseR lo hi H H') ls.length ?_ ?_
    · refine ⟨0, by simp, rfl, by simp [S, S1, S2, S3, S4, S5, ST, eq_self, reduceIte, reduceCtorEq, Nat.reduceEqDiff, Nat.reduceAdd, sizeL], rfl, ?_, ElseR.refl _ _ _⟩
      have : mixL k ls 0 = ls := by simp [mixL]
      rw [this]; exact hin
    · rintro m s H' ⟨i, hm, h0, h1, h5, hin', hel⟩
      have hrow := hin'.row
      rw [mixL_len] at hrow
      obtain ⟨ws, hv, _, hul, hu⟩ := hrow
      rw [mixL_len] at hul
      simp (maxSteps := 1000000) (disch := omega) only [h0, h1, h5, S, S1, S2, S3, S4, S5, ST, eq_self, reduceIte, reduceCtorEq, Nat.reduceEqDiff, Nat.reduceAdd]
      refine brD.intro (fun g => ?_) (fun g => ?_)
      · have hi' : i < ls.length := by omega
        have h1l := sizeL_take ls i hi'
        have h2l := sizeL_le ls (i + 1)
        obtain ⟨q1, q2, q3, q4, q5, q6⟩ := hin'
        rw [mixL_len] at q4 q5 q6
        have hcell : cellA H' o i = some (us.getD i undef) := by
          rw [cell_of q3, List.getD_eq_getElem?_getD, List.getElem?_eq_getElem (by omega)]; rfl
        obtain ⟨r1, r2⟩ := q5 i hi'
        rw [mixL_at k ls i i hi', if_neg (Nat.lt_irrefl _)] at r1
        simp (maxSteps := 1000000) (disch := omega) only [h0, h1, h5, hcell, Int.toNat_natCast, Nat.zero_add, S, S1, S2, S3, S4, S5, ST, eq_self, reduceIte, reduceCtorEq, Nat.reduceEqDiff, Nat.reduceAdd]
        have mk := markIntS_B (us.getD i undef) (ls.getD i []) (k + (sizeL (ls.take i) : Nat)) lo hi H' r1 (by omega) (by omega)
        have mk2 := markIntS_c (us.getD i undef) (ls.getD i []) (k + (sizeL (ls.take i) : Nat)) (List.replicate lo AObj.dead) H' (by
          rcases r1 with h | ⟨o', zs, h1, h2, h3, h4, h5⟩
          · exact .inl h
          · exact .inr ⟨o', zs, h1, by simpa using h2, h4, h5⟩) (by omega) (by omega)
        refine CallH.by mk2 ?_
        rintro _ H2 ⟨rfl, hmine, hels⟩
        simp (maxSteps := 1000000) (disch := omega) only [h0, h1, h5, wrap64, S, S1, S2, S3, S4, S5, ST, eq_self, reduceIte, reduceCtorEq, Nat.reduceEqDiff, Nat.reduceAdd]
        have keepo : H2[o]? = some (.cells us 27 false) := by
          refine hels.2 o _ ?_ q3
          rcases r2 with g | g
          · exact .inl g
          · exact .inr (fun e => g e.symm)
        have fel : ElseR lo hi H H2 := by
          refine hel.trans ⟨hels.1, fun j x hj hx => hels.2 j x ?_ hx⟩
          rcases r1.at_ with g | g
          · exact .inl g
          · exact .inr (by omega)
        have r1' : InI lo hi 3 H2 (us.getD i undef) (runI (k + (sizeL (ls.take i) : Nat)) (ls.getD i []).length) := by
          rcases r1 with ⟨g1, g2⟩ | ⟨o', zs, g1, g2, g3, g4, g5⟩
          · rw [g2]; exact .inl ⟨g1, rfl⟩
          · rcases hmine with ⟨f1, f2⟩ | ⟨o2, zs2, f1, f2, f3, f4⟩
            · rw [g1] at f1; cases f1
            · have e : o2 = o' := by
                rw [g1] at f1
                simp only [Value.slice.injEq, Option.some.injEq, Addr.mk.injEq] at f1
                exact f1.1.1.symm
              subst e
              exact .inr ⟨o2, zs2, f1, g2, g3, f3, f4⟩
        have fin : InU lo hi 27 3 H2 o us (mixL k ls (i + 1)) := by
          refine ⟨q1, q2, keepo, by rw [mixL_len]; exact q4, fun j hj => ?_, fun a b hab ha hb => q6 a b hab (by rw [mixL_len] at ha; exact ha) (by rw [mixL_len] at hb; exact hb)⟩
          rw [mixL_len] at hj
          obtain ⟨w1, w2⟩ := q5 j hj
          refine ⟨?_, w2⟩
          rw [mixL_at k ls i j hj] at w1
          rw [mixL_at k ls (i + 1) j hj]
          by_cases e : j = i
          · subst e; rw [if_pos (by omega)]; exact r1'
          · have : (if j < i then runI (k + sizeL (ls.take j)) (ls.getD j []).length else ls.getD j []) = (if j < i + 1 then runI (k + sizeL (ls.take j)) (ls.getD j []).length else ls.getD j []) := by
              by_cases c : j < i
              · rw [if_pos c, if_pos (by omega)]
              · rw [if_neg c, if_neg (by omega)]
            rw [← this]
            refine w1.move fun y hn hy => hels.2 _ _ ?_ hy
            rcases q6 j i e hj hi' with g | g | g
            · exact .inl g
            · exact absurd g hn
            · exact .inr g
        refine ⟨m - 1, by omega, i + 1, by omega, ?_⟩
        rw [h1l]
        (repeat' first | exact fin | exact fel | apply And.intro) <;> first | (simp only [Value.int.injEq, true_and]; omega) | omega | rfl | assumption | (simp; done) | (simp; omega)
      · simp (maxSteps := 1000000) (disch := omega) only [h1, S, S1, S2, S3, S4, S5, ST, eq_self, reduceIte, reduceCtorEq, Nat.reduceEqDiff, Nat.reduceAdd]
        refine hQ _ _ _ ?_
        simp (maxSteps := 1000000) (disch := omega) only [h1, S, S1, S2, S3, S4, S5, ST, eq_self, reduceIte, reduceCtorEq, Nat.reduceEqDiff, Nat.reduceAdd]
        have e1 : ls.take i = ls := List.take_of_length_le (by omega)
        have e2 : mixL k ls i = runL k ls := by
          unfold mixL
          rw [List.take_of_length_le (by rw [runL_len]; omega), List.drop_of_length_le (by omega), List.append_nil]
        rw [e2] at hin'
        rw [e1]
        exact ⟨rfl, by have := hin'.inl; rw [runL_len] at this; exact .inr ⟨o, us, by rw [runL_len], hin'⟩, hel⟩
end Go.Proofs.Ytldcbmmmheookaa.Ai
