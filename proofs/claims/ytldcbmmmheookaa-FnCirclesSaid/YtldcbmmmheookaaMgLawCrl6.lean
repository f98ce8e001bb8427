/- Texts of this claim, joined: GrA, Grw, Drd, Drq, Crl, ArB. -/
import Derived.Test.YtldcbmmmheookaaProg
import Derived.KernelRfl
import Derived.Test.YtldcbmmmheookaaMgLawCrl5
namespace Go.Proofs.Ytldcbmmmheookaa.Ai
open Go
set_option linter.unusedVariables false
/-- the trees that begin with some edges and go on with the last k ones -/
def grA (es : List (Int × Int)) (n : Nat) : Nat → List Int → List (List Int)
  | 0, T => if T.length + 1 = n then [T] else []
  | k + 1, T => if T.length + 1 = n then [T] else
      (if jnB es n T (enA es ((es.length - (k + 1) : Nat) : Int)) (enB es ((es.length - (k + 1) : Nat) : Int)) = true then [] else grA es n k (T ++ [((es.length - (k + 1) : Nat) : Int)])) ++ grA es n k T
theorem grA_full {es : List (Int × Int)} {n : Nat} {T : List Int} (h : T.length + 1 = n) : ∀ k, grA es n k T = [T]
  | 0 => by rw [grA, if_pos h]
  | k + 1 => by rw [grA, if_pos h]
/-- no edge joins what those before it join -/
def Fst (es : List (Int × Int)) (T : List Int) : Prop := ∀ k, k < T.length → ¬ Jn es (T.take k) (enA es (T.getD k 0)) (enB es (T.getD k 0))
theorem Fst.nil (es : List (Int × Int)) : Fst es [] := fun k hk => absurd hk (Nat.not_lt_zero k)
theorem Fst.snoc {es : List (Int × Int)} {T : List Int} {e : Int} (h : Fst es T) (he : ¬ Jn es T (enA es e) (enB es e)) : Fst es (T ++ [e]) := by
  intro k hk
  rw [List.length_append, List.length_singleton] at hk
  by_cases g : k < T.length
  · have e1 : (T ++ [e]).getD k 0 = T.getD k 0 := by
      rw [List.getD_eq_getElem?_getD, List.getElem?_append_left g, ← List.getD_eq_getElem?_getD]
    rw [e1, List.take_append_of_le_length (by omega)]
    exact h k g
  · have : k = T.length := by omega
    subst this
    have e1 : (T ++ [e]).getD T.length 0 = e := by
      rw [List.getD_eq_getElem?_getD, List.getElem?_append_right (Nat.le_refl _)]; simp
    rw [e1, List.take_append_of_le_length (Nat.le_refl _), List.take_length]
    exact he
/-- a beginning of a tree -/
structure Beg (n : Nat) (es : List (Int × Int)) (k : Nat) (T : List Int) : Prop where
  fst : Fst es T
  asc : T.Pairwise (· < ·)
  low : ∀ e ∈ T, 0 ≤ e ∧ e < ((es.length - k : Nat) : Int)
  len : T.length + 1 ≤ n
theorem Beg.ed {n : Nat} {es : List (Int × Int)} {k : Nat} {T : List Int} (h : Beg n es k T) : EdIn es T := fun e he => by have := h.low e he; omega
theorem Beg.nil {n : Nat} (hn : 1 ≤ n) (es : List (Int × Int)) : Beg n es es.length [] := ⟨Fst.nil es, .nil, fun e he => by simp at he, hn⟩
theorem Beg.skip {n : Nat} {es : List (Int × Int)} {k : Nat} {T : List Int} (h : Beg n es (k + 1) T) : Beg n es k T := ⟨h.fst, h.asc, fun e he => by have := h.low e he; omega, h.len⟩
theorem Beg.snoc {n : Nat} {es : List (Int × Int)} (hg : Grd (n : Int) es) {k : Nat} {T : List Int} (h : Beg n es (k + 1) T) (hk : k + 1 ≤ es.length) (hl : T.length + 1 ≠ n) (hj : ¬ jnB es n T (enA es ((es.length - (k + 1) : Nat) : Int)) (enB es ((es.length - (k + 1) : Nat) : Int)) = true) : Beg n es k (T ++ [((es.length - (k + 1) : Nat) : Int)]) := by
  have he : (0 : Int) ≤ ((es.length - (k + 1) : Nat) : Int) ∧ ((es.length - (k + 1) : Nat) : Int) < es.length := by omega
  have hen := en_eq hg he
  refine ⟨h.fst.snoc fun q => hj ((jnB_iff hg h.ed (by omega) (by omega)).2 q), ?_, fun e hm => ?_, by have := h.len; simp; omega⟩
  · rw [List.pairwise_append]
    exact ⟨h.asc, by simp, fun a ha b hb => by rw [List.mem_singleton.1 hb]; exact (h.low a ha).2⟩
  · rcases List.mem_append.1 hm with q | q
    · have := h.low e q; omega
    · rw [List.mem_singleton.1 q]; omega
theorem Beg.tree {n : Nat} {es : List (Int × Int)} (hg : Grd (n : Int) es) {k : Nat} {T : List Int} (h : Beg n es k T) (hl : T.length + 1 = n) : TreL n es T :=
  ⟨hl, h.asc, h.ed, (tree_iff (h.asc.imp fun q e => by omega) hl (h.ed.ends hg)).1 h.fst⟩
theorem grA_tree {n : Nat} {es : List (Int × Int)} (hg : Grd (n : Int) es) : ∀ (k : Nat) (T : List Int), k ≤ es.length → Beg n es k T → ∀ U ∈ grA es n k T, TreL n es U ∧ ∃ r, U = T ++ r
  | 0, T, hk, h, U, hU => by
    rw [grA] at hU
    split at hU
    · rename_i e
      rw [List.mem_singleton] at hU
      subst hU
      exact ⟨h.tree hg e, [], by simp⟩
    · simp at hU
  | k + 1, T, hk, h, U, hU => by
    rw [grA] at hU
    split at hU
    · rename_i e
      rw [List.mem_singleton] at hU
      subst hU
      exact ⟨h.tree hg e, [], by simp⟩
    · rename_i e
      rcases List.mem_append.1 hU with hU | hU
      · split at hU
        · simp at hU
        · rename_i hj
          obtain ⟨h1, r, h2⟩ := grA_tree hg k _ (by omega) (h.snoc hg hk e hj) U hU
          exact ⟨h1, _, by rw [h2, List.append_assoc]⟩
      · exact grA_tree hg k T (by omega) h.skip U hU
/-- each tree is there -/
theorem grA_all {n : Nat} {es : List (Int × Int)} (hg : Grd (n : Int) es) {U : List Int} (hU : TreL n es U) : ∀ (k : Nat) (T r : List Int), k ≤ es.length → Beg n es k T → U = T ++ r → (∀ e ∈ r, ((es.length - k : Nat) : Int) ≤ e) → U ∈ grA es n k T
  | 0, T, r, hk, h, hr, hge => by
    have hrn : r = [] := by
      cases r with
      | nil => rfl
      | cons f r =>
        have h1 := hge f (by simp)
        have h2 := hU.2.2.1 f (by rw [hr]; simp)
        omega
    subst hrn
    rw [List.append_nil] at hr
    subst hr
    rw [grA, if_pos hU.1]; simp
  | k + 1, T, r, hk, h, hr, hge => by
    rw [grA]
    by_cases e : T.length + 1 = n
    · rw [if_pos e]
      have hrn : r = [] := by
        have := hU.1
        rw [hr, List.length_append] at this
        exact List.eq_nil_of_length_eq_zero (by omega)
      rw [hr, hrn]; simp
    · rw [if_neg e, List.mem_append]
      have hfst := (tree_iff (hU.2.1.imp fun q e => by omega) hU.1 (hU.2.2.1.ends hg)).2 hU.2.2.2
      cases r with
      | nil => rw [hr, List.append_nil] at hU; exact absurd hU.1 e
      | cons f r =>
        have hf := hge f (by simp)
        have hasc := hU.2.1
        rw [hr, List.pairwise_append] at hasc
        have hasc2 := List.pairwise_cons.1 hasc.2.1
        by_cases g : f = ((es.length - (k + 1) : Nat) : Int)
        · left
          subst g
          have hen := en_eq hg (hU.2.2.1 _ (by rw [hr]; simp) : (0 : Int) ≤ ((es.length - (k + 1) : Nat) : Int) ∧ ((es.length - (k + 1) : Nat) : Int) < es.length)
          have hj : ¬ jnB es n T (enA es ((es.length - (k + 1) : Nat) : Int)) (enB es ((es.length - (k + 1) : Nat) : Int)) = true := by
            intro q
            have q := (jnB_iff hg h.ed (by omega) (by omega)).1 q
            have h1 := hfst T.length (by rw [hr]; simp)
            have e1 : U.getD T.length 0 = ((es.length - (k + 1) : Nat) : Int) := by
              rw [hr, List.getD_eq_getElem?_getD, List.getElem?_append_right (Nat.le_refl _)]; simp
            have e2 : U.take T.length = T := by rw [hr, List.take_append_of_le_length (Nat.le_refl _), List.take_length]
            rw [e1, e2] at h1
            exact h1 q
          rw [if_neg hj]
          refine grA_all hg hU k _ r (by omega) (h.snoc hg hk e hj) (by rw [hr, List.append_assoc]; rfl) fun x hx => ?_
          have := hasc2.1 x hx
          omega
        · right
          refine grA_all hg hU k T (f :: r) (by omega) h.skip hr fun x hx => ?_
          rcases List.mem_cons.1 hx with rfl | hx
          · omega
          · have := hasc2.1 x hx; omega
/-- all trees -/
def treA (n : Nat) (es : List (Int × Int)) : List (List Int) := grA es n es.length []
theorem treA_iff {n : Nat} (hn : 1 ≤ n) {es : List (Int × Int)} (hg : Grd (n : Int) es) (U : List Int) : U ∈ treA n es ↔ TreL n es U :=
  ⟨fun h => (grA_tree hg _ [] (Nat.le_refl _) (Beg.nil hn es) U h).1, fun h => grA_all hg h es.length [] U (Nat.le_refl _) (Beg.nil hn es) (by simp) fun e he => by have := h.2.2.1 e he; omega⟩
end Go.Proofs.Ytldcbmmmheookaa.Ai
namespace Go.Proofs.Ytldcbmmmheookaa.Ai
open Go
def ords111 : List (Nat × List (Nat × Bool)) := [(2, [(0, false), (1, false), (2, false), (3, false), (4, false), (5, false), (6, false), (7, false), (8, false), (9, true)]), (3, [(0, false), (1, false), (2, false), (3, false), (5, false), (6, false), (8, false), (9, false), (4, true), (7, true), (10, false), (11, false), (12, false), (13, false)])]
def cd111 : Cd := (.seq (.reg [⟨⟨some 2, Op.box 26 (Operand.tmp 0), none⟩, []⟩,
  ⟨⟨some 4, Op.assign (Operand.const (Value.bool false)), none⟩, []⟩]) (.seq (.reg [⟨⟨some 7, Op.move (Operand.tmp 1), none⟩, []⟩,
  ⟨⟨some 8, Op.call { callee := (Callee.builtin Builtin.len), args := #[(Operand.tmp 7)], argTypes := #[27] }, none⟩, []⟩,
  ⟨⟨some 9, Op.binOp BinOp.sub 3 (Operand.tmp 8) (Operand.const (Value.int IntKind.i64 1)) 3, none⟩, []⟩,
  ⟨⟨some 5, Op.assign (Operand.tmp 9), none⟩, []⟩]) (.seq (.reg [⟨⟨some 10, Op.fieldAddr 26 (Operand.tmp 2) 1, none⟩, []⟩,
  ⟨⟨some 11, Op.load 24 (Operand.tmp 10), none⟩, []⟩,
  ⟨⟨some 12, Op.move (Operand.tmp 1), none⟩, []⟩,
  ⟨⟨some 13, Op.move (Operand.tmp 5), none⟩, []⟩,
  ⟨⟨some 14, Op.indexAddr 27 (Operand.tmp 12) (Operand.tmp 13), none⟩, []⟩,
  ⟨⟨some 15, Op.load 3 (Operand.tmp 14), none⟩, []⟩,
  ⟨⟨some 16, Op.indexAddr 24 (Operand.tmp 11) (Operand.tmp 15), none⟩, []⟩,
  ⟨⟨some 17, Op.load 71 (Operand.tmp 16), none⟩, []⟩,
  ⟨⟨some 6, Op.alloc 71, none⟩, []⟩,
  ⟨⟨none, Op.store 71 (Operand.tmp 6) (Operand.tmp 17), none⟩, []⟩]) (.seq (.reg [⟨⟨some 18, Op.load 26 (Operand.tmp 2), none⟩, []⟩,
  ⟨⟨some 19, Op.move (Operand.tmp 1), none⟩, []⟩,
  ⟨⟨some 20, Op.move (Operand.tmp 5), none⟩, []⟩,
  ⟨⟨some 21, Op.slice 27 (Operand.tmp 19) none (some (Operand.tmp 20)) none, none⟩, []⟩,
  ⟨⟨some 23, Op.indexAddr 71 (Operand.tmp 6) (Operand.const (Value.int IntKind.i64 0)), none⟩, []⟩,
  ⟨⟨some 24, Op.load 3 (Operand.tmp 23), none⟩, []⟩,
  ⟨⟨some 26, Op.indexAddr 71 (Operand.tmp 6) (Operand.const (Value.int IntKind.i64 1)), none⟩, []⟩,
  ⟨⟨some 27, Op.load 3 (Operand.tmp 26), none⟩, []⟩,
  ⟨⟨some 22, Op.call { callee := (Callee.value (Operand.func 91)), args := #[(Operand.tmp 18), (Operand.tmp 21)], argTypes := #[26, 27] }, none⟩, [⟨some 27, Op.load 3 (Operand.tmp 26), none⟩, ⟨some 24, Op.load 3 (Operand.tmp 23), none⟩]⟩,
  ⟨⟨some 25, Op.call { callee := (Callee.value (Operand.func 90)), args := #[(Operand.tmp 22), (Operand.tmp 24)], argTypes := #[26, 3] }, none⟩, [⟨some 27, Op.load 3 (Operand.tmp 26), none⟩]⟩,
  ⟨⟨some 28, Op.indexAddr 27 (Operand.tmp 25) (Operand.tmp 27), none⟩, []⟩,
  ⟨⟨some 29, Op.load 3 (Operand.tmp 28), none⟩, []⟩,
  ⟨⟨some 30, Op.binOp BinOp.geq 3 (Operand.tmp 29) (Operand.const (Value.int IntKind.i64 0)) 3, none⟩, []⟩,
  ⟨⟨some 4, Op.assign (Operand.tmp 30), none⟩, []⟩]) .ret))))
theorem sl111 : slim Try.f111.ntmps ords111 (Try.f111.body.getD .skip) = some cd111 := by kernel_rfl
theorem in111 {args : List Value} {H : AH} {R : Value → AH → Prop} (hl : args.length = 2) (h : ∀ (Q : Exit → Sl → AH → Prop), (∀ e s H, endA Try.prog [ResultVar.tmp 4] R e s H → Q e s H) → wpC Try.prog cd111 Q (enterA args) H) : ACalls Try.prog 111 args H R :=
  ACalls.intro (by kernel_rfl) Try.func111 rfl (by kernel_rfl) sl111 hl (of_decide_eq_true (by kernel_rfl)) (by kernel_rfl) h
def ords105 : List (Nat × List (Nat × Bool)) := []
def cd105 : Cd := (.seq (.reg [⟨⟨some 4, Op.box 26 (Operand.tmp 0), none⟩, []⟩,
  ⟨⟨some 8, Op.assign (Operand.const (Value.slice none 0 0)), none⟩, []⟩]) (.seq (.seq (.reg [⟨⟨some 11, Op.move (Operand.tmp 1), none⟩, []⟩,
  ⟨⟨some 12, Op.call { callee := (Callee.builtin Builtin.len), args := #[(Operand.tmp 11)], argTypes := #[27] }, none⟩, []⟩,
  ⟨⟨some 13, Op.fieldAddr 26 (Operand.tmp 4) 0, none⟩, []⟩,
  ⟨⟨some 14, Op.load 3 (Operand.tmp 13), none⟩, []⟩,
  ⟨⟨some 15, Op.binOp BinOp.sub 3 (Operand.tmp 14) (Operand.const (Value.int IntKind.i64 1)) 3, none⟩, []⟩,
  ⟨⟨some 16, Op.binOp BinOp.eql 3 (Operand.tmp 12) (Operand.tmp 15) 3, none⟩, []⟩]) (.cond (Operand.tmp 16) (.seq (.reg [⟨⟨some 17, Op.move (Operand.tmp 3), none⟩, []⟩,
  ⟨⟨some 18, Op.move (Operand.tmp 1), none⟩, []⟩,
  ⟨⟨some 19, Op.call { callee := (Callee.value (Operand.func 53)), args := #[(Operand.tmp 18)], argTypes := #[27] }, none⟩, []⟩,
  ⟨⟨some 20, Op.buildSlice 38 1 #[(0, (Operand.tmp 19))], none⟩, []⟩,
  ⟨⟨some 21, Op.call { callee := (Callee.builtin Builtin.append), args := #[(Operand.tmp 17), (Operand.tmp 20)], argTypes := #[38, 38] }, none⟩, []⟩,
  ⟨⟨some 8, Op.assign (Operand.tmp 21), none⟩, []⟩]) .ret) .skip)) (.seq (.seq (.reg [⟨⟨some 22, Op.move (Operand.tmp 2), none⟩, []⟩,
  ⟨⟨some 9, Op.assign (Operand.tmp 22), none⟩, []⟩]) (.block 0 (.loop (.seq (.seq (.reg [⟨⟨some 23, Op.move (Operand.tmp 9), none⟩, []⟩,
  ⟨⟨some 24, Op.fieldAddr 26 (Operand.tmp 4) 1, none⟩, []⟩,
  ⟨⟨some 25, Op.load 24 (Operand.tmp 24), none⟩, []⟩,
  ⟨⟨some 26, Op.call { callee := (Callee.builtin Builtin.len), args := #[(Operand.tmp 25)], argTypes := #[24] }, none⟩, []⟩,
  ⟨⟨some 27, Op.binOp BinOp.lss 3 (Operand.tmp 23) (Operand.tmp 26) 3, none⟩, []⟩,
  ⟨⟨some 28, Op.move (Operand.tmp 27), none⟩, []⟩,
  ⟨⟨some 29, Op.move (Operand.tmp 3), some (28, true)⟩, []⟩,
  ⟨⟨some 30, Op.call { callee := (Callee.builtin Builtin.len), args := #[(Operand.tmp 29)], argTypes := #[38] }, some (28, true)⟩, []⟩,
  ⟨⟨some 31, Op.binOp BinOp.leq 3 (Operand.tmp 30) (Operand.const (Value.int IntKind.i64 300)) 3, some (28, true)⟩, []⟩,
  ⟨⟨some 32, Op.pick (Operand.tmp 28) (Operand.tmp 31) (Operand.const (Value.bool false)), none⟩, []⟩]) (.cond (Operand.tmp 32) .skip (.exit 0))) (.seq (.block 1 (.seq (.reg [⟨⟨some 35, Op.move (Operand.tmp 1), none⟩, []⟩,
  ⟨⟨some 36, Op.call { callee := (Callee.value (Operand.func 53)), args := #[(Operand.tmp 35)], argTypes := #[27] }, none⟩, []⟩,
  ⟨⟨some 37, Op.move (Operand.tmp 9), none⟩, []⟩,
  ⟨⟨some 38, Op.buildSlice 27 1 #[(0, (Operand.tmp 37))], none⟩, []⟩,
  ⟨⟨some 39, Op.call { callee := (Callee.builtin Builtin.append), args := #[(Operand.tmp 36), (Operand.tmp 38)], argTypes := #[27, 27] }, none⟩, []⟩,
  ⟨⟨some 10, Op.assign (Operand.tmp 39), none⟩, []⟩]) (.seq (.reg [⟨⟨some 40, Op.load 26 (Operand.tmp 4), none⟩, []⟩,
  ⟨⟨some 41, Op.move (Operand.tmp 10), none⟩, []⟩,
  ⟨⟨some 42, Op.call { callee := (Callee.value (Operand.func 111)), args := #[(Operand.tmp 40), (Operand.tmp 41)], argTypes := #[26, 27] }, none⟩, []⟩,
  ⟨⟨some 43, Op.unOp UnOp.not 4 (Operand.tmp 42), none⟩, []⟩]) (.cond (Operand.tmp 43) (.reg [⟨⟨some 44, Op.load 26 (Operand.tmp 4), none⟩, []⟩,
  ⟨⟨some 45, Op.move (Operand.tmp 10), none⟩, []⟩,
  ⟨⟨some 46, Op.move (Operand.tmp 9), none⟩, []⟩,
  ⟨⟨some 47, Op.binOp BinOp.add 3 (Operand.tmp 46) (Operand.const (Value.int IntKind.i64 1)) 3, none⟩, []⟩,
  ⟨⟨some 48, Op.move (Operand.tmp 3), none⟩, []⟩,
  ⟨⟨some 49, Op.call { callee := (Callee.value (Operand.func 105)), args := #[(Operand.tmp 44), (Operand.tmp 45), (Operand.tmp 47), (Operand.tmp 48)], argTypes := #[26, 27, 3, 38] }, none⟩, []⟩,
  ⟨⟨some 3, Op.assign (Operand.tmp 49), none⟩, []⟩]) .skip)))) (.reg [⟨⟨some 33, Op.move (Operand.tmp 9), none⟩, []⟩,
  ⟨⟨some 34, Op.binOp BinOp.add 3 (Operand.tmp 33) (Operand.const (Value.int IntKind.i64 1)) 3, none⟩, []⟩,
  ⟨⟨some 9, Op.assign (Operand.tmp 34), none⟩, []⟩])))))) (.seq (.reg [⟨⟨some 50, Op.move (Operand.tmp 3), none⟩, []⟩,
  ⟨⟨some 8, Op.assign (Operand.tmp 50), none⟩, []⟩]) .ret))))
theorem sl105 : slim Try.f105.ntmps ords105 (Try.f105.body.getD .skip) = some cd105 := by kernel_rfl
theorem in105 {args : List Value} {H : AH} {R : Value → AH → Prop} (hl : args.length = 4) (h : ∀ (Q : Exit → Sl → AH → Prop), (∀ e s H, endA Try.prog [ResultVar.tmp 8] R e s H → Q e s H) → wpC Try.prog cd105 Q (enterA args) H) : ACalls Try.prog 105 args H R :=
  ACalls.intro (by kernel_rfl) Try.func105 rfl (by kernel_rfl) sl105 hl (of_decide_eq_true (by kernel_rfl)) (by kernel_rfl) h
end Go.Proofs.Ytldcbmmmheookaa.Ai
namespace Go.Proofs.Ytldcbmmmheookaa.Ai
open Go Go.RowKit
set_option linter.unusedVariables false
set_option linter.unusedSimpArgs false
theorem take_app (N : Nat) (a b c : List (List Int)) : ((a ++ b).take N ++ c).take N = (a ++ (b ++ c)).take N := by
  rw [← List.append_assoc]
  generalize a ++ b = d
  rw [List.take_append, List.take_append, List.take_take, Nat.min_self, List.length_take]
  by_cases h : N ≤ d.length
  · rw [Nat.min_eq_left h, Nat.sub_self, Nat.sub_eq_zero_of_le h]
  · rw [Nat.min_eq_right (by omega)]
set_option maxRecDepth 20000 in
set_option maxHeartbeats 4000000 in
theorem l7Closes_c (n : Nat) (v w : Value) (es : List (Int × Int)) (T : List Int) (e : Int) (H : AH) (hr : RowP 71 H v es) (hg : Grd (n : Int) es) (hw : Row 3 H w (T ++ [e])) (hT : EdIn es T) (he : 0 ≤ e ∧ e < es.length) (hlen : T.length ≤ 100) :
    ACalls Try.prog 111 [.agg (List.toArray [.int .i64 (n : Int), v]), w] H fun r H' => r = .bool (jnB es n T (enA es e) (enB es e)) ∧ H <+: H' := by
  have h28 : es.length ≤ 28 := grd_len hg
  have hn8 : n ≤ 8 := by have := hg.1; omega
  have hee := en_eq hg he
  have he2 : e.toNat < es.length := by omega
  have hl1 : (T ++ [e]).length = T.length + 1 := by simp
  have hw1 : IntKind.i64.wrap (((T ++ [e]).length : Int) - 1) = (T.length : Int) := by rw [wrap64 (by omega) (by omega)]; omega
  have hlast : (T ++ [e]).getD T.length 0 = e := by rw [List.getD_eq_getElem?_getD, List.getElem?_append_right (Nat.le_refl _)]; simp
  refine in111 rfl ?_
  intro Q hQ
  simp (maxSteps := 1000000) (disch := omega) only [cd111, hr.boxG, S, S1, S2, S3, S4, S5, ST, eq_self, reduceIte, reduceCtorEq, Nat.reduceEqDiff, Nat.reduceAdd]
  generalize hA : H ++ [AObj.cells [.int .i64 n, v] 26 false] = A
  have pA : H <+: A := by rw [← hA]; exact List.prefix_append _ _
  have cA : A[H.length]? = some (.cells [.int .i64 n, v] 26 false) := by rw [← hA]; exact at_new ..
  have rA := hr.pre pA
  have wA := hw.pre pA
  have cw := wA.cell (show T.length < (T ++ [e]).length by omega)
  rw [hlast] at cw
  simp (maxSteps := 1000000) (disch := omega) only [wA.len Try.underlying27, hw1, cell_of cA, wA.ix Try.underlying27 cs3, Int.toNat_natCast, cw, rA.ix Try.underlying24 cs71, rA.ld ag71 cs71 he2, S, S1, S2, S3, S4, S5, ST, eq_self, reduceIte, reduceCtorEq, Nat.reduceEqDiff, Nat.reduceAdd]
  rw [hee.1]
  have st := store_a2 A [.int .i64 0, .int .i64 0] rfl
  simp (maxSteps := 1000000) (disch := omega) only [alloc_a2, st, S, S1, S2, S3, S4, S5, ST, eq_self, reduceIte, reduceCtorEq, Nat.reduceEqDiff, Nat.reduceAdd]
  generalize hB : A ++ [AObj.cells [.int .i64 (enA es e : Int), .int .i64 (enB es e : Int)] 71 false] = B
  have pB : A <+: B := by rw [← hB]; exact List.prefix_append _ _
  have cB : B[A.length]? = some (.cells [.int .i64 (enA es e : Int), .int .i64 (enB es e : Int)] 71 false) := by rw [← hB]; exact at_new ..
  have gB := pre_at pB cA
  have wB := wA.pre pB
  have rB := rA.pre pB
  obtain ⟨a1, a2, a3⟩ := wB.slice (P := Try.prog) (t := 27) Try.underlying27 cs3 lo_none (bound_some (k := .i64) (i := (T.length : Int)) (by omega) (T ++ [e]).length) (Nat.zero_le _) (by rw [Int.toNat_natCast]; omega)
  rw [Int.toNat_natCast] at a1 a2 a3
  rw [List.drop_zero, Nat.sub_zero, List.take_append_of_le_length (Nat.le_refl _), List.take_length] at a2
  simp (maxSteps := 1000000) (disch := omega) only [ld_agg ag26 cs26 gB, a1, cell_of cB, S, S1, S2, S3, S4, S5, ST, eq_self, reduceIte, reduceCtorEq, Nat.reduceEqDiff, Nat.reduceAdd]
  refine CallH.by (l7Part_c n v _ es T B rB a2 hT (by omega)) ?_
  rintro _ C ⟨b, rfl, hb, pC⟩
  have cC := pre_at pC cB
  simp (maxSteps := 1000000) (disch := omega) only [cell_of cC, S, S1, S2, S3, S4, S5, ST, eq_self, reduceIte, reduceCtorEq, Nat.reduceEqDiff, Nat.reduceAdd]
  refine CallH.by (l3Far_c n b (prtG es T) (enA es e) C hb.row (by rw [prt_len]; omega) (by omega) (by omega)) ?_
  rintro u D ⟨hD, pD⟩
  rw [Int.toNat_natCast] at hD
  have bl := (bfs_rng (roadsL n (prtG es T)) (roadsL_ok _ _) (enA es e) (by rw [roadsL_len]; omega)).1
  rw [roadsL_len] at bl
  have cD := pre_at pD cC
  have k0 := hD.row.cell (show enB es e < (bfs (roadsL n (prtG es T)) (enA es e)).length by rw [bl]; omega)
  have hix := hD.row.ix (P := Try.prog) (t := 27) Try.underlying27 cs3 .i64 (i := (enB es e : Int)) (by omega) (by rw [bl]; omega)
  simp (maxSteps := 1000000) (disch := omega) only [cell_of cD, hix, Int.toNat_natCast, k0, S, S1, S2, S3, S4, S5, ST, eq_self, reduceIte, reduceCtorEq, Nat.reduceEqDiff, Nat.reduceAdd]
  refine hQ _ _ _ ?_
  simp (maxSteps := 1000000) (disch := omega) only [S, S1, S2, S3, S4, S5, ST, eq_self, reduceIte, reduceCtorEq, Nat.reduceEqDiff, Nat.reduceAdd]
  exact ⟨rfl, pA.trans (pB.trans (pC.trans pD))⟩
set_option maxRecDepth 20000 in
set_option maxHeartbeats 8000000 in
theorem l7Grow_c (n : Nat) (hn : 1 ≤ n) (v : Value) (es : List (Int × Int)) (hg : Grd (n : Int) es) (lo : Nat) : ∀ (k : Nat) (w : Value) (T : List Int) (o : Nat) (us : List Value) (ls : List (List Int)) (H : AH), k ≤ es.length → Beg n es k T → RowP 71 H v es → Row 3 H w T →
    Apart w (.slice (some ⟨o, 0, none⟩) 0 0) → Apart v (.slice (some ⟨o, 0, none⟩) 0 0) → InU lo H.length 27 3 H o us ls → ls.length ≤ 300 →
    ACalls Try.prog 105 [.agg (List.toArray [.int .i64 (n : Int), v]), w, .int .i64 ((es.length - k : Nat) : Int), .slice (some ⟨o, 0, none⟩) ls.length ls.length] H fun r H' => ∃ o' us', r = .slice (some ⟨o', 0, none⟩) ((ls ++ grA es n k T).take 301).length ((ls ++ grA es n k T).take 301).length ∧ InU lo H'.length 27 3 H' o' us' ((ls ++ grA es n k T).take 301) ∧
      (∀ (j : Nat) (y : AObj), j ≠ o → H[j]? = some y → H'[j]? = some y) ∧ H.length ≤ H'.length ∧ (o' = o ∨ H.length ≤ o') := by
  have h28 : es.length ≤ 28 := grd_len hg
  have hn8 : n ≤ 8 := by have := hg.1; omega
  intro k
  induction k using Nat.strongRecOn with
  | ind k ih =>
  intro w T o us ls H hk hT hr hw haw hav hin hls
  have hlo := hin.1
  have hlo2 := hin.2.1
  have hTl := hT.len
  have hw1 : IntKind.i64.wrap ((n : Int) - 1) = (n : Int) - 1 := wrap64 (by omega) (by omega)
  refine in105 rfl ?_
  intro Q hQ
  simp (maxSteps := 1000000) (disch := omega) only [cd105, hr.boxG, S, S1, S2, S3, S4, S5, ST, eq_self, reduceIte, reduceCtorEq, Nat.reduceEqDiff, Nat.reduceAdd]
  generalize hA : H ++ [AObj.cells [.int .i64 ↑n, v] 26 false] = A
  have pA : H <+: A := by rw [← hA]; exact List.prefix_append _ _
  have cA : A[H.length]? = some (.cells [.int .i64 ↑n, v] 26 false) := by rw [← hA]; exact at_new ..
  have rA := hr.pre pA
  have lA : A.length = H.length + 1 := by rw [← hA]; simp
  simp (maxSteps := 1000000) (disch := omega) only [cell_of cA, (hw.pre pA).len Try.underlying27, hw1, S, S1, S2, S3, S4, S5, ST, eq_self, reduceIte, reduceCtorEq, Nat.reduceEqDiff, Nat.reduceAdd]
  refine brD.intro (fun g => ?_) (fun g => ?_)
  · have hfull : T.length + 1 = n := by omega
    simp (maxSteps := 1000000) (disch := omega) only [S, S1, S2, S3, S4, S5, ST, eq_self, reduceIte, reduceCtorEq, Nat.reduceEqDiff, Nat.reduceAdd]
    refine CallH.by (l1Own_c w T A (hw.pre pA) (by omega)) ?_
    rintro c C ⟨hc, pC⟩
    have hinw := InI.of hc.mine
    have hinC := (hin.pre (pA.trans pC)).wide (Nat.le_refl _) pA.length_le
    obtain ⟨H3, k1, k2, k3, k4⟩ := hinC.app1 (P := Try.prog) (t2 := 38) Try.underlying38 cs27 (by rw [by27]; decide) zk27 hinw (by have := pA.length_le; omega) pC.length_le (Nat.le_refl _) (by omega)
    simp (maxSteps := 1000000) (disch := omega) only [bsRow hc.row C, k1, S, S1, S2, S3, S4, S5, ST, eq_self, reduceIte, reduceCtorEq, Nat.reduceEqDiff, Nat.reduceAdd]
    refine hQ _ _ _ ?_
    simp (maxSteps := 1000000) (disch := omega) only [S, S1, S2, S3, S4, S5, ST, eq_self, reduceIte, reduceCtorEq, Nat.reduceEqDiff, Nat.reduceAdd]
    have e : (ls ++ grA es n k T).take 301 = ls ++ [T] := by rw [grA_full hfull, List.take_of_length_le (by simp; omega)]
    have hl1 := pA.length_le
    have hl2 := pC.length_le
    rw [e]
    refine ⟨C.length + 1, us.take ls.length ++ [c], by simp, by rw [k3]; exact k2, fun j y hj hy => k4 j y hj (pre_at (pA.trans pC) hy), by omega, by omega⟩
  have hnf : T.length + 1 ≠ n := fun q => g (by omega)
  simp (maxSteps := 1000000) (disch := omega) only [S, S1, S2, S3, S4, S5, ST, eq_self, reduceIte, reduceCtorEq, Nat.reduceEqDiff, Nat.reduceAdd]
  refine LoopH.by (fun m s H' => ∃ (o' : Nat) (us' : List Value) (ls' : List (List Int)), m ≤ k ∧ s 1 = w ∧ s 3 = .slice (some ⟨o', 0, none⟩) ls'.length ls'.length ∧ s 4 = .pointer (some ⟨H.length, 0, none⟩) ∧ s 9 = .int .i64 ((es.length - m : Nat) : Int) ∧
      (ls' ++ grA es n m T).take 301 = (ls ++ grA es n k T).take 301 ∧ ls'.length ≤ 301 ∧ Beg n es m T ∧ InU lo H'.length 27 3 H' o' us' ls' ∧ (o' = o ∨ A.length ≤ o') ∧ (∀ (j : Nat) (y : AObj), j ≠ o → A[j]? = some y → H'[j]? = some y) ∧ A.length ≤ H'.length) k ?_ ?_
  · exact ⟨o, us, ls, Nat.le_refl _, rfl, rfl, rfl, rfl, rfl, by omega, hT, (hin.pre pA).wide (Nat.le_refl _) pA.length_le, .inl rfl, fun j y _ hy => hy, Nat.le_refl _⟩
  rintro m s H' ⟨o', us', ls', hm, h1, h3, h4, h9, hE, hl', hB, hin', ho', hk', hAl⟩
  have hkA : Kept (.slice (some ⟨o, 0, none⟩) 0 0) A H' := fun j y hj hy => by
    rcases hj with hj | hj
    · cases hj
    · exact hk' j y hj hy
  have hw' : Row 3 H' w T := (hw.pre pA).kept haw hkA
  have hr' : RowP 71 H' v es := (hr.pre pA).kept hav hkA
  have cH' : H'[H.length]? = some (.cells [.int .i64 (n : Int), v] 26 false) := hk' _ _ (by omega) cA
  have done : (ls' ++ grA es n m T).take 301 = ls' → ∃ o2 us', Value.slice (some ⟨o', 0, none⟩) ls'.length ls'.length = .slice (some ⟨o2, 0, none⟩) ((ls ++ grA es n k T).take 301).length ((ls ++ grA es n k T).take 301).length ∧ InU lo H'.length 27 3 H' o2 us' ((ls ++ grA es n k T).take 301) ∧
      (∀ (j : Nat) (y : AObj), j ≠ o → H[j]? = some y → H'[j]? = some y) ∧ H.length ≤ H'.length ∧ (o2 = o ∨ H.length ≤ o2) := by
    intro e
    rw [e] at hE
    rw [← hE]
    exact ⟨o', us', rfl, hin', fun j y hj hy => hk' j y hj (pre_at pA hy), by omega, by omega⟩
  simp (maxSteps := 1000000) (disch := omega) only [h1, h3, h4, h9, cell_of cH', hr'.len Try.underlying24, S, S1, S2, S3, S4, S5, ST, eq_self, reduceIte, reduceCtorEq, Nat.reduceEqDiff, Nat.reduceAdd]
  refine brD.intro (fun g1 => ?_) (fun g1 => ?_)
  rotate_left
  · have hm0 : m = 0 := by omega
    subst hm0
    simp (maxSteps := 1000000) (disch := omega) only [g1, h3, S, S1, S2, S3, S4, S5, ST, eq_self, reduceIte, reduceCtorEq, Nat.reduceEqDiff, Nat.reduceAdd]
    refine hQ _ _ _ ?_
    simp (maxSteps := 1000000) (disch := omega) only [h3, S, S1, S2, S3, S4, S5, ST, eq_self, reduceIte, reduceCtorEq, Nat.reduceEqDiff, Nat.reduceAdd]
    refine done ?_
    rw [grA, if_neg hnf, List.append_nil, List.take_of_length_le hl']
  simp (maxSteps := 1000000) (disch := omega) only [g1, h1, h3, h4, h9, S, S1, S2, S3, S4, S5, ST, eq_self, reduceIte, reduceCtorEq, Nat.reduceEqDiff, Nat.reduceAdd]
  refine brD.intro (fun g2 => ?_) (fun g2 => ?_)
  rotate_left
  · simp (maxSteps := 1000000) (disch := omega) only [g1, g2, h3, S, S1, S2, S3, S4, S5, ST, eq_self, reduceIte, reduceCtorEq, Nat.reduceEqDiff, Nat.reduceAdd]
    refine hQ _ _ _ ?_
    simp (maxSteps := 1000000) (disch := omega) only [h3, S, S1, S2, S3, S4, S5, ST, eq_self, reduceIte, reduceCtorEq, Nat.reduceEqDiff, Nat.reduceAdd]
    refine done ?_
    have : ls'.length = 301 := by omega
    rw [← this, List.take_append_of_le_length (Nat.le_refl _), List.take_length]
  obtain ⟨d, rfl⟩ : ∃ d, m = d + 1 := ⟨m - 1, by omega⟩
  have hee : (0 : Int) ≤ ((es.length - (d + 1) : Nat) : Int) ∧ ((es.length - (d + 1) : Nat) : Int) < es.length := by omega
  have hed : ((es.length - (d + 1) : Nat) : Int) + 1 = ((es.length - d : Nat) : Int) := by omega
  rw [grA, if_neg hnf] at hE
  have hsnoc := fun hj => hB.snoc hg (by omega) hnf hj
  generalize hX : ((es.length - (d + 1) : Nat) : Int) = x at *
  have hw2 : IntKind.i64.wrap (x + 1) = ((es.length - d : Nat) : Int) := by rw [wrap64 (by omega) (by omega)]; exact hed
  simp (maxSteps := 1000000) (disch := omega) only [g1, g2, h1, h3, h4, h9, S, S1, S2, S3, S4, S5, ST, eq_self, reduceIte, reduceCtorEq, Nat.reduceEqDiff, Nat.reduceAdd]
  refine CallH.by (l1Own_c w T H' hw' (by omega)) ?_
  rintro c C ⟨hc, pC⟩
  obtain ⟨c2, D, a1, a2, a3, a4, a5, a6⟩ := own1_27 hc pC (by omega) x
  have cD := pre_at a3 cH'
  have rD := hr'.pre a3
  have hpD := a3.length_le
  simp (maxSteps := 1000000) (disch := omega) only [a1, h1, h3, h4, h9, ld_agg ag26 cs26 cD, S, S1, S2, S3, S4, S5, ST, eq_self, reduceIte, reduceCtorEq, Nat.reduceEqDiff, Nat.reduceAdd]
  refine CallH.by (l7Closes_c n v c2 es T x D rD hg a2.row hB.ed hee (by omega)) ?_
  rintro _ E ⟨rfl, pE⟩
  have pHE := a3.trans pE
  have lHE := pHE.length_le
  have lDE := pE.length_le
  have keepE : ∀ (j : Nat) (y : AObj), j ≠ o → A[j]? = some y → E[j]? = some y := fun j y hj hy => pre_at pHE (hk' j y hj hy)
  have inE : InU lo E.length 27 3 E o' us' ls' := (hin'.pre pHE).wide (Nat.le_refl _) lHE
  have hoo := hin'.2.1
  by_cases hj : jnB es n T (enA es x) (enB es x) = true
  · rw [if_pos hj, List.nil_append] at hE
    rw [hj]
    simp (maxSteps := 1000000) (disch := omega) only [h1, h3, h4, h9, hw2, S, S1, S2, S3, S4, S5, ST, eq_self, reduceIte, reduceCtorEq, Nat.reduceEqDiff, Nat.reduceAdd]
    have f1 := hB.skip
    refine ⟨d, by omega, o', us', ls', ?_⟩
    (repeat' first | exact hE | exact f1 | exact inE | exact ho' | exact keepE | apply And.intro) <;> first | (simp only [Value.int.injEq, true_and]; omega) | omega | rfl | assumption | (simp; done) | (simp; omega)
  · rw [if_neg hj] at hE
    have hj' : jnB es n T (enA es x) (enB es x) = false := by simpa using hj
    rw [hj']
    have cE := pre_at pE cD
    have a2E := a2.row.pre pE
    have ap1 : Apart c2 (.slice (some ⟨o', 0, none⟩) 0 0) := by
      rcases a2 with ⟨q, _⟩ | ⟨oc, q1, q2, q3⟩
      · exact .inr (.inl q)
      · refine .inr (.inr ?_)
        rw [q1]
        show oc ≠ o'
        omega
    have ap2 : Apart v (.slice (some ⟨o', 0, none⟩) 0 0) := by
      rcases ho' with q | q
      · rw [q]; exact hav
      · rcases (hr.pre pA).nil with z | z
        · exact .inr (.inl z.1)
        · refine .inr (.inr ?_)
          show rowO v ≠ o'
          omega
    have ap3 : Apart w (.slice (some ⟨o', 0, none⟩) 0 0) := by
      rcases ho' with q | q
      · rw [q]; exact haw
      · rcases (hw.pre pA).nil with z | z
        · exact .inr (.inl z.1)
        · refine .inr (.inr ?_)
          show rowO w ≠ o'
          omega
    simp (maxSteps := 1000000) (disch := omega) only [h1, h3, h4, h9, ld_agg ag26 cs26 cE, hw2, S, S1, S2, S3, S4, S5, ST, eq_self, reduceIte, reduceCtorEq, Nat.reduceEqDiff, Nat.reduceAdd]
    refine CallH.by (ih d (by omega) c2 (T ++ [x]) o' us' ls' E (by omega) (hsnoc hj) (rD.pre pE) a2E ap1 ap2 inE (by omega)) ?_
    rintro _ F ⟨o2, us2, rfl, f1, f2, f3, f4⟩
    simp (maxSteps := 1000000) (disch := omega) only [h1, h3, h4, h9, hw2, S, S1, S2, S3, S4, S5, ST, eq_self, reduceIte, reduceCtorEq, Nat.reduceEqDiff, Nat.reduceAdd]
    have e1 : ((ls' ++ grA es n d (T ++ [x])).take 301 ++ grA es n d T).take 301 = (ls ++ grA es n k T).take 301 := by rw [take_app]; exact hE
    have e2 : ((ls' ++ grA es n d (T ++ [x])).take 301).length ≤ 301 := by rw [List.length_take]; omega
    have e3 := hB.skip
    have e4 : o2 = o ∨ A.length ≤ o2 := by
      rcases f4 with q | q
      · rw [q]; exact ho'
      · exact .inr (by omega)
    have e5 : ∀ (j : Nat) (y : AObj), j ≠ o → A[j]? = some y → F[j]? = some y := fun j y hj hy => by
      refine f2 j y (fun e => ?_) (keepE j y hj hy)
      rcases ho' with q | q
      · exact hj (by omega)
      · have := at_lt hy; omega
    refine ⟨d, by omega, o2, us2, (ls' ++ grA es n d (T ++ [x])).take 301, ?_⟩
    (repeat' first | exact e1 | exact e2 | exact e3 | exact f1 | exact e4 | exact e5 | apply And.intro) <;> first | (simp only [Value.int.injEq, true_and]; omega) | omega | rfl | assumption | (simp; done) | (simp; omega)
end Go.Proofs.Ytldcbmmmheookaa.Ai
namespace Go.Proofs.Ytldcbmmmheookaa.Ai
open Go
def ords35 : List (Nat × List (Nat × Bool)) := [(7, [(0, false), (1, false), (2, false), (3, false), (5, false), (4, true), (6, false), (7, true), (8, false), (9, true)]), (12, [(0, false), (1, false), (2, false), (3, false), (5, false), (4, true), (6, false), (7, true), (8, false), (9, true)])]
def cd35 : Cd := (.seq (.reg [⟨⟨some 2, Op.alloc 26, none⟩, []⟩]) (.seq (.seq (.reg [⟨⟨some 7, Op.move (Operand.tmp 0), none⟩, []⟩,
  ⟨⟨some 8, Op.call { callee := (Callee.value (Operand.func 80)), args := #[(Operand.tmp 7), (Operand.const (Value.int IntKind.i64 4))], argTypes := #[58, 3] }, none⟩, []⟩]) (.cond (Operand.tmp 8) (.seq (.reg [⟨⟨some 9, Op.move (Operand.tmp 0), none⟩, []⟩,
  ⟨⟨some 10, Op.call { callee := (Callee.value (Operand.func 81)), args := #[(Operand.tmp 9)], argTypes := #[58] }, none⟩, []⟩,
  ⟨⟨none, Op.store 26 (Operand.tmp 2) (Operand.tmp 10), none⟩, []⟩]) .ret) .skip)) (.seq (.reg [⟨⟨some 11, Op.move (Operand.tmp 0), none⟩, []⟩,
  ⟨⟨some 12, Op.buildSlice 27 8 #[(0, (Operand.const (Value.int IntKind.i64 4))), (1, (Operand.const (Value.int IntKind.i64 5))), (2, (Operand.const (Value.int IntKind.i64 5))), (3, (Operand.const (Value.int IntKind.i64 6))), (4, (Operand.const (Value.int IntKind.i64 3))), (5, (Operand.const (Value.int IntKind.i64 7))), (6, (Operand.const (Value.int IntKind.i64 2))), (7, (Operand.const (Value.int IntKind.i64 1)))], none⟩, []⟩,
  ⟨⟨some 13, Op.call { callee := (Callee.value (Operand.func 82)), args := #[(Operand.tmp 11), (Operand.tmp 12)], argTypes := #[58, 27] }, none⟩, []⟩,
  ⟨⟨some 14, Op.buildSlice 24 0 #[], none⟩, []⟩,
  ⟨⟨some 15, Op.build 26 #[(0, (Operand.tmp 13)), (1, (Operand.tmp 14))], none⟩, []⟩,
  ⟨⟨some 3, Op.alloc 26, none⟩, []⟩,
  ⟨⟨none, Op.store 26 (Operand.tmp 3) (Operand.tmp 15), none⟩, []⟩]) (.seq (.seq (.reg [⟨⟨some 4, Op.assign (Operand.const (Value.int IntKind.i64 1)), none⟩, []⟩]) (.block 0 (.loop (.seq (.seq (.reg [⟨⟨some 16, Op.move (Operand.tmp 4), none⟩, []⟩,
  ⟨⟨some 17, Op.fieldAddr 26 (Operand.tmp 3) 0, none⟩, []⟩,
  ⟨⟨some 18, Op.load 3 (Operand.tmp 17), none⟩, []⟩,
  ⟨⟨some 19, Op.binOp BinOp.lss 3 (Operand.tmp 16) (Operand.tmp 18) 3, none⟩, []⟩]) (.cond (Operand.tmp 19) .skip (.exit 0))) (.seq (.block 1 (.reg [⟨⟨some 22, Op.fieldAddr 26 (Operand.tmp 3) 1, none⟩, []⟩,
  ⟨⟨some 23, Op.load 24 (Operand.tmp 22), none⟩, []⟩,
  ⟨⟨some 24, Op.move (Operand.tmp 0), none⟩, []⟩,
  ⟨⟨some 25, Op.move (Operand.tmp 4), none⟩, []⟩,
  ⟨⟨some 27, Op.move (Operand.tmp 4), none⟩, []⟩,
  ⟨⟨some 26, Op.call { callee := (Callee.value (Operand.func 84)), args := #[(Operand.tmp 24), (Operand.tmp 25)], argTypes := #[58, 3] }, none⟩, [⟨some 23, Op.load 24 (Operand.tmp 22), none⟩]⟩,
  ⟨⟨some 28, Op.build 71 #[(0, (Operand.tmp 26)), (1, (Operand.tmp 27))], none⟩, []⟩,
  ⟨⟨some 29, Op.call { callee := (Callee.value (Operand.func 83)), args := #[(Operand.tmp 23), (Operand.tmp 28)], argTypes := #[24, 71] }, none⟩, []⟩,
  ⟨⟨some 30, Op.fieldAddr 26 (Operand.tmp 3) 1, none⟩, []⟩,
  ⟨⟨none, Op.store 24 (Operand.tmp 30) (Operand.tmp 29), none⟩, []⟩])) (.reg [⟨⟨some 20, Op.move (Operand.tmp 4), none⟩, []⟩,
  ⟨⟨some 21, Op.binOp BinOp.add 3 (Operand.tmp 20) (Operand.const (Value.int IntKind.i64 1)) 3, none⟩, []⟩,
  ⟨⟨some 4, Op.assign (Operand.tmp 21), none⟩, []⟩])))))) (.seq (.seq (.reg [⟨⟨some 31, Op.move (Operand.tmp 0), none⟩, []⟩,
  ⟨⟨some 32, Op.call { callee := (Callee.value (Operand.func 84)), args := #[(Operand.tmp 31), (Operand.const (Value.int IntKind.i64 5))], argTypes := #[58, 3] }, none⟩, []⟩,
  ⟨⟨some 5, Op.assign (Operand.tmp 32), none⟩, []⟩]) (.block 2 (.loop (.seq (.seq (.reg [⟨⟨some 33, Op.move (Operand.tmp 5), none⟩, []⟩,
  ⟨⟨some 34, Op.binOp BinOp.gtr 3 (Operand.tmp 33) (Operand.const (Value.int IntKind.i64 0)) 3, none⟩, []⟩,
  ⟨⟨some 35, Op.move (Operand.tmp 34), none⟩, []⟩,
  ⟨⟨some 36, Op.fieldAddr 26 (Operand.tmp 3) 0, some (35, true)⟩, []⟩,
  ⟨⟨some 37, Op.load 3 (Operand.tmp 36), some (35, true)⟩, []⟩,
  ⟨⟨some 38, Op.binOp BinOp.gtr 3 (Operand.tmp 37) (Operand.const (Value.int IntKind.i64 2)) 3, some (35, true)⟩, []⟩,
  ⟨⟨some 39, Op.pick (Operand.tmp 35) (Operand.tmp 38) (Operand.const (Value.bool false)), none⟩, []⟩]) (.cond (Operand.tmp 39) .skip (.exit 2))) (.seq (.block 3 (.seq (.reg [⟨⟨some 42, Op.move (Operand.tmp 0), none⟩, []⟩,
  ⟨⟨some 43, Op.fieldAddr 26 (Operand.tmp 3) 0, none⟩, []⟩,
  ⟨⟨some 44, Op.load 3 (Operand.tmp 43), none⟩, []⟩,
  ⟨⟨some 45, Op.binOp BinOp.sub 3 (Operand.tmp 44) (Operand.const (Value.int IntKind.i64 1)) 3, none⟩, []⟩,
  ⟨⟨some 46, Op.call { callee := (Callee.value (Operand.func 84)), args := #[(Operand.tmp 42), (Operand.tmp 45)], argTypes := #[58, 3] }, none⟩, []⟩,
  ⟨⟨some 47, Op.binOp BinOp.add 3 (Operand.const (Value.int IntKind.i64 1)) (Operand.tmp 46) 3, none⟩, []⟩,
  ⟨⟨some 6, Op.assign (Operand.tmp 47), none⟩, []⟩]) (.reg [⟨⟨some 48, Op.fieldAddr 26 (Operand.tmp 3) 1, none⟩, []⟩,
  ⟨⟨some 49, Op.load 24 (Operand.tmp 48), none⟩, []⟩,
  ⟨⟨some 50, Op.move (Operand.tmp 0), none⟩, []⟩,
  ⟨⟨some 51, Op.move (Operand.tmp 6), none⟩, []⟩,
  ⟨⟨some 53, Op.move (Operand.tmp 6), none⟩, []⟩,
  ⟨⟨some 52, Op.call { callee := (Callee.value (Operand.func 84)), args := #[(Operand.tmp 50), (Operand.tmp 51)], argTypes := #[58, 3] }, none⟩, [⟨some 49, Op.load 24 (Operand.tmp 48), none⟩]⟩,
  ⟨⟨some 54, Op.build 71 #[(0, (Operand.tmp 52)), (1, (Operand.tmp 53))], none⟩, []⟩,
  ⟨⟨some 55, Op.call { callee := (Callee.value (Operand.func 83)), args := #[(Operand.tmp 49), (Operand.tmp 54)], argTypes := #[24, 71] }, none⟩, []⟩,
  ⟨⟨some 56, Op.fieldAddr 26 (Operand.tmp 3) 1, none⟩, []⟩,
  ⟨⟨none, Op.store 24 (Operand.tmp 56) (Operand.tmp 55), none⟩, []⟩]))) (.reg [⟨⟨some 40, Op.move (Operand.tmp 5), none⟩, []⟩,
  ⟨⟨some 41, Op.binOp BinOp.sub 3 (Operand.tmp 40) (Operand.const (Value.int IntKind.i64 1)) 3, none⟩, []⟩,
  ⟨⟨some 5, Op.assign (Operand.tmp 41), none⟩, []⟩])))))) (.seq (.reg [⟨⟨some 57, Op.load 26 (Operand.tmp 3), none⟩, []⟩,
  ⟨⟨none, Op.store 26 (Operand.tmp 2) (Operand.tmp 57), none⟩, []⟩]) .ret))))))
theorem sl35 : slim Try.f35.ntmps ords35 (Try.f35.body.getD .skip) = some cd35 := by kernel_rfl
set_option maxRecDepth 20000 in
theorem in35 {args : List Value} {H : AH} {R : Value → AH → Prop} (hl : args.length = 1) (h : ∀ (Q : Exit → Sl → AH → Prop), (∀ e s H, endA Try.prog [ResultVar.cell 2 26] R e s H → Q e s H) → wpC Try.prog cd35 Q (enterA args) H) : ACalls Try.prog 35 args H R :=
  ACalls.intro (by kernel_rfl) Try.func35 rfl (by kernel_rfl) sl35 hl (of_decide_eq_true (by kernel_rfl)) (by kernel_rfl) h
end Go.Proofs.Ytldcbmmmheookaa.Ai
namespace Go.Proofs.Ytldcbmmmheookaa.Ai
open Go Go.RowKit
set_option linter.unusedVariables false
set_option linter.unusedSimpArgs false
/-- a graph is handed back from a variable -/
theorem retG {H K : AH} {o : Nat} {v : Value} {us : List Value} {N M : Nat} (h : Cur H o v us N) {n : Int} {w : Value} {ps : List (Int × Int)} (q1 : K[H.length]? = some (.cells [.int .i64 0, .slice none 0 0] 26 false)) (q3 : MineP 71 H K w ps) (q5 : rowO w ≠ H.length ∨ w = .slice none 0 0) (q9 : Cur K o v us M) (q10 : Keeps o H K) :
    (K.set H.length (.cells [.int .i64 n, w] 26 false))[H.length]? = some (.cells [.int .i64 n, w] 26 false) ∧ MineP 71 H (K.set H.length (.cells [.int .i64 n, w] 26 false)) w ps ∧ Cur (K.set H.length (.cells [.int .i64 n, w] 26 false)) o v us M ∧ Keeps o H (K.set H.length (.cells [.int .i64 n, w] 26 false)) := by
  have ho : o < H.length := by
    obtain ⟨_, _, g, _⟩ := h.cur
    exact at_lt g
  have at_ : ∀ {j : Nat} {y : AObj}, j ≠ H.length → K[j]? = some y → (K.set H.length (.cells [.int .i64 n, w] 26 false))[j]? = some y := fun hj hy => by rw [List.getElem?_set_ne (fun e => hj e.symm)]; exact hy
  obtain ⟨a, sd, c1, c2, c3⟩ := q9.cur
  refine ⟨at_set q1, ?_, ⟨⟨a, sd, at_ (by omega) c1, c2, c3⟩, q9.row.mono fun y hy => at_ ?_ hy, q9.byt, q9.ap, q9.le⟩, ⟨by have := q10.1; simp; omega, fun j y hj hy => at_ (by have := at_lt hy; omega) (q10.2 j y hj hy)⟩⟩
  · rcases q5 with e | e
    · exact q3.keep fun y hy => at_ e hy
    · rcases q3 with z | ⟨_, _, z, _⟩
      · exact .inl z
      · rw [z] at e; cases e
  · rcases h.row with q | ⟨o', k', vs', ro', e1, g2, _⟩
    · rw [q.1]
      show (0 : Nat) ≠ H.length
      omega
    · rw [e1]
      have := at_lt g2
      show o' ≠ H.length
      omega
set_option maxRecDepth 20000 in
set_option maxHeartbeats 8000000 in
theorem linked7_c {H : AH} {o : Nat} {v : Value} {us : List Value} {N : Nat} (h : Cur H o v us N) (hN : N ≤ 90000000) :
    ACalls Try.prog 35 [.pointer (some ⟨o, 0, none⟩)] H fun r H' => ∃ (n : Int) (w : Value) (ps : List (Int × Int)), r = .agg (List.toArray [.int .i64 n, w]) ∧ MineP 71 H H' w ps ∧ I64 n ∧ ps.length ≤ 200 ∧ Sml ps ∧ Cur H' o v us (N + 1010) ∧ Keeps o H H' := by
  have ho : o < H.length := by
    obtain ⟨_, _, g, _⟩ := h.cur
    exact at_lt g
  refine in35 rfl ?_
  intro Q hQ
  rw [cd35]
  generalize hA : H ++ [AObj.cells [.int .i64 0, .slice none 0 0] 26 false] = A
  have pA : H <+: A := by rw [← hA]; exact List.prefix_append _ _
  have cA : A[H.length]? = some (.cells [.int .i64 0, .slice none 0 0] 26 false) := by rw [← hA]; exact at_new ..
  have lA : A.length = H.length + 1 := by rw [← hA]; simp
  have al := alloc_G H
  rw [hA] at al
  refine cutC (fun s K => A = K ∧ s 0 = .pointer (some ⟨o, 0, none⟩) ∧ s 2 = .pointer (some ⟨H.length, 0, none⟩)) (fun c hc => ?_) ?_
  · simp (maxSteps := 1000000) (disch := omega) only [al, S, S1, S2, S3, S4, S5, ST, eq_self, reduceIte, reduceCtorEq, Nat.reduceEqDiff, Nat.reduceAdd]
    exact hc _ _ ⟨rfl, rfl, rfl⟩
  rintro s _ ⟨rfl, s0, s2⟩
  refine cutC (fun s K => s 0 = .pointer (some ⟨o, 0, none⟩) ∧ s 2 = .pointer (some ⟨H.length, 0, none⟩) ∧ Cur K o v us (N + 1) ∧ Keeps o A K) (fun c hc => ?_) ?_
  · simp (maxSteps := 1000000) (disch := omega) only [s0, s2, S, S1, S2, S3, S4, S5, ST, eq_self, reduceIte, reduceCtorEq, Nat.reduceEqDiff, Nat.reduceAdd]
    refine CallH.by (one_c (h.pre pA) (by omega) 4 (by omega)) ?_
    rintro _ B ⟨⟨b, rfl⟩, hCB, oB⟩
    simp (maxSteps := 1000000) (disch := omega) only [S, S1, S2, S3, S4, S5, ST, eq_self, reduceIte, reduceCtorEq, Nat.reduceEqDiff, Nat.reduceAdd]
    cases b with
    | false =>
      refine brH.intro (fun q => by cases q) (fun _ => ?_)
      simp (maxSteps := 1000000) (disch := omega) only [S, S1, S2, S3, S4, S5, ST, eq_self, reduceIte, reduceCtorEq, Nat.reduceEqDiff, Nat.reduceAdd]
      exact hc _ _ ⟨s0, s2, hCB, oB.keeps⟩
    | true =>
      refine brH.intro (fun _ => ?_) (fun q => by cases q)
      simp (maxSteps := 1000000) (disch := omega) only [s0, s2, S, S1, S2, S3, S4, S5, ST, eq_self, reduceIte, reduceCtorEq, Nat.reduceEqDiff, Nat.reduceAdd]
      refine CallH.by (graph_c hCB (by omega)) ?_
      rintro _ K ⟨n, w, ps, rfl, hm, hn, hl, hs, hC, hK⟩
      have lB := oB.1
      have c1 := hK.2 _ _ (by omega) (oB.2 _ _ (by omega) cA)
      have hm' : MineP 71 H K w ps := by
        rcases hm with z | ⟨q, zs, z1, z2, z3, z4⟩
        · exact .inl z
        · exact .inr ⟨q, zs, z1, by omega, z3, z4⟩
      have q5 : rowO w ≠ H.length ∨ w = .slice none 0 0 := by
        rcases hm with z | ⟨q, zs, z1, z2, _⟩
        · exact .inr z.1
        · left; rw [z1]; show q ≠ H.length; omega
      have hst := st_G hm.row c1 rfl n
      obtain ⟨d4, t1, t2, t3⟩ := retG h (n := n) c1 hm' q5 hC ((Keeps.of_pre pA).trans (oB.keeps.trans hK))
      simp (maxSteps := 1000000) (disch := omega) only [s2, hst, S, S1, S2, S3, S4, S5, ST, eq_self, reduceIte, reduceCtorEq, Nat.reduceEqDiff, Nat.reduceAdd]
      refine hQ _ _ _ (end_cell _ _ _ _ _ _ (.agg (List.toArray [.int .i64 n, w])) ?_ rfl ⟨n, w, ps, rfl, t1, hn, hl, hs, t2.more (by omega), t3⟩)
      simp (maxSteps := 1000000) (disch := omega) only [s2, ld_agg ag26 cs26 d4, S, S1, S2, S3, S4, S5, ST, eq_self, reduceIte, reduceCtorEq, Nat.reduceEqDiff, Nat.reduceAdd]
  clear s0 s2 s
  rintro s B ⟨s0, s2, hCB, kB⟩
  have lB := kB.1
  have cB := kB.2 _ _ (by omega) cA
  have kHB : Keeps o H B := (Keeps.of_pre pA).trans kB
  have blK2 : ∀ H0 : AH, buildSliceA Try.prog 27 8 [(0, .int .i64 4), (1, .int .i64 5), (2, .int .i64 5), (3, .int .i64 6), (4, .int .i64 3), (5, .int .i64 7), (6, .int .i64 2), (7, .int .i64 1)] H0 = some (.slice (some ⟨H0.length, 0, none⟩) 8 8, H0 ++ [.cells [.int .i64 4, .int .i64 5, .int .i64 5, .int .i64 6, .int .i64 3, .int .i64 7, .int .i64 2, .int .i64 1] 3 false]) := fun H0 => by kernel_rfl
  have blG : ∀ (n : Int) (p : Option Addr) (k c : Nat), buildA Try.prog 26 [(0, .int .i64 n), (1, .slice p k c)] = some (.agg (List.toArray [.int .i64 n, .slice p k c])) := fun _ _ _ _ => by kernel_rfl
  refine cutC (fun s K => s 0 = .pointer (some ⟨o, 0, none⟩) ∧ s 2 = .pointer (some ⟨H.length, 0, none⟩) ∧ ∃ (gp n : Nat) (w : Value), s 3 = .pointer (some ⟨gp, 0, none⟩) ∧ (1 ≤ n ∧ n ≤ 7) ∧ H.length < gp ∧ GSt H o gp v us (N + 2) 0 K ∧ K[gp]? = some (.cells [.int .i64 (n : Int), w] 26 false)) (fun c hc => ?_) ?_
  · generalize hD : B ++ [AObj.cells [.int .i64 4, .int .i64 5, .int .i64 5, .int .i64 6, .int .i64 3, .int .i64 7, .int .i64 2, .int .i64 1] 3 false] = D
    have pD : B <+: D := by rw [← hD]; exact List.prefix_append _ _
    have aD : D[B.length]? = some (.cells [.int .i64 4, .int .i64 5, .int .i64 5, .int .i64 6, .int .i64 3, .int .i64 7, .int .i64 2, .int .i64 1] 3 false) := by rw [← hD]; exact at_new ..
    have wD : Row 3 D (.slice (some ⟨B.length, 0, none⟩) 8 8) [4, 5, 5, 6, 3, 7, 2, 1] := .inr ⟨B.length, 0, _, false, rfl, aD, by simp, rfl⟩
    have lD : D.length = B.length + 1 := by rw [← hD]; simp
    simp (maxSteps := 1000000) (disch := omega) only [s0, s2, blK2, hD, S, S1, S2, S3, S4, S5, ST, eq_self, reduceIte, reduceCtorEq, Nat.reduceEqDiff, Nat.reduceAdd]
    refine CallH.by (among_c (hCB.pre pD) (by omega) wD (by show B.length ≠ o; omega) (by simp)) ?_
    rintro _ E ⟨⟨d, rfl, hd⟩, hCE, oE⟩
    obtain ⟨n, rfl, hn⟩ : ∃ n : Nat, d = n ∧ 1 ≤ n ∧ n ≤ 7 := ⟨d.toNat, by simp at hd; omega, by simp at hd; omega⟩
    have lE := oE.1
    generalize hF : E ++ [AObj.cells [] 71 false] = F
    have pF : E <+: F := by rw [← hF]; exact List.prefix_append _ _
    have lF : F.length = E.length + 1 := by rw [← hF]; simp
    have mF : MineP 71 H F (.slice (some ⟨E.length, 0, none⟩) 0 0) [] := by rw [← hF]; exact MineP.nil0 (P := Try.prog) H E (by omega)
    have st1 := st_G mF.row (at_new F (.cells [.int .i64 0, .slice none 0 0] 26 false)) rfl (n : Int)
    rw [set_new] at st1
    simp (maxSteps := 1000000) (disch := omega) only [s0, s2, hF, blG, alloc_G, st1, S, S1, S2, S3, S4, S5, ST, eq_self, reduceIte, reduceCtorEq, Nat.reduceEqDiff, Nat.reduceAdd]
    have pG : F <+: F ++ [AObj.cells [.int .i64 (n : Int), .slice (some ⟨E.length, 0, none⟩) 0 0] 26 false] := List.prefix_append _ _
    have kBE : Keeps o B E := (Keeps.of_pre pD).trans oE.keeps
    refine hc _ _ ⟨s0, s2, F.length, n, .slice (some ⟨E.length, 0, none⟩) 0 0, rfl, hn, by omega, ⟨(n : Int), .slice (some ⟨E.length, 0, none⟩) 0 0, [], ?_, at_new .., mF.pre pG, ?_, .inl ?_, ⟨by omega, by omega⟩, Nat.le_refl _, fun y hy => by simp at hy, (hCE.pre pF).pre pG, kHB.trans (kBE.trans (.of_pre (pF.trans pG)))⟩, at_new ..⟩
    · exact pre_at pG (pre_at pF (kBE.2 _ _ (by omega) cB))
    · show E.length ≠ F.length; omega
    · show E.length ≠ H.length; omega
  clear s0 s2 cB kHB lB hCB kB s B
  rintro s K ⟨s0, s2, gp, n, w1, s3, hn, hgp, hG, cg⟩
  -- an edge from a node to one below it
  have put : ∀ {N1 L1 : Nat} {K1 : AH} {w1 : Value} (x : Nat), GSt H o gp v us N1 L1 K1 → K1[gp]? = some (.cells [.int .i64 (n : Int), w1] 26 false) → L1 ≤ 500 → N1 ≤ 95000000 → x ≤ 8 → ACalls Try.prog 84 [.pointer (some ⟨o, 0, none⟩), .int .i64 (x : Int)] K1 fun r K2 => ∃ k : Nat, r = .int .i64 (k : Int) ∧ k ≤ 8 ∧ K2[gp]? = some (.cells [.int .i64 (n : Int), w1] 26 false) ∧ ACalls Try.prog 83 [w1, .agg (List.toArray [.int .i64 (k : Int), .int .i64 (x : Int)])] K2 fun r K3 => ∃ K4, storeA Try.prog 24 (.pointer (some ⟨gp, 1, none⟩)) r K3 = some K4 ∧ isTup r = false ∧ GSt H o gp v us (N1 + 1) (L1 + 1) K4 ∧ ∃ w2, K4[gp]? = some (.cells [.int .i64 (n : Int), w2] 26 false) := by
    intro N1 L1 K1 w1 x hG hc hL hN1 hx
    refine (pick_c hG.cr (by omega) (x : Int) (by omega)).mono fun r K2 hr => ?_
    obtain ⟨⟨k, rfl, hk⟩, hC2, oK⟩ := hr
    have c2 := oK.2 gp _ (by omega) hc
    obtain ⟨n', w', e1, e2, hput⟩ := (hG.cur ho (by omega) oK hC2).putc h ho hgp (k : Int) (x : Int) hL (by omega)
    have e0 := c2.symm.trans e2
    simp only [Option.some.injEq, AObj.cells.injEq, List.cons.injEq, Value.int.injEq, true_and, and_true] at e0
    obtain ⟨e3, e4⟩ := e0
    subst e3
    subst e4
    refine ⟨k, rfl, by omega, c2, hput.mono fun r K3 hr => ?_⟩
    obtain ⟨K4, t1, t2, t3, t4⟩ := hr
    exact ⟨K4, t1, t2, t3, _, t4⟩
  refine cutC (fun s K => s 0 = .pointer (some ⟨o, 0, none⟩) ∧ s 2 = .pointer (some ⟨H.length, 0, none⟩) ∧ s 3 = .pointer (some ⟨gp, 0, none⟩) ∧ GSt H o gp v us (N + 20) 20 K ∧ ∃ w, K[gp]? = some (.cells [.int .i64 (n : Int), w] 26 false)) (fun c hc => ?_) ?_
  · simp (maxSteps := 1000000) (disch := omega) only [s0, s2, s3, S, S1, S2, S3, S4, S5, ST, eq_self, reduceIte, reduceCtorEq, Nat.reduceEqDiff, Nat.reduceAdd]
    refine LoopH.by (fun m s K => ∃ (x : Nat) (w : Value), m + x = n ∧ 1 ≤ x ∧ s 0 = .pointer (some ⟨o, 0, none⟩) ∧ s 2 = .pointer (some ⟨H.length, 0, none⟩) ∧ s 3 = .pointer (some ⟨gp, 0, none⟩) ∧ s 4 = .int .i64 (x : Int) ∧ GSt H o gp v us (N + 2 + x) x K ∧ K[gp]? = some (.cells [.int .i64 (n : Int), w] 26 false)) (n - 1) ?_ ?_
    · have f1 := hG.more (show N + 2 ≤ N + 2 + 1 by omega) (show 0 ≤ 1 by omega)
      refine ⟨1, w1, by omega, ?_⟩
      simp (maxSteps := 1000000) (disch := omega) only [s0, s2, s3, S, S1, S2, S3, S4, S5, ST, eq_self, reduceIte, reduceCtorEq, Nat.reduceEqDiff, Nat.reduceAdd]
      (repeat' first | exact f1 | exact cg | apply And.intro) <;> first | (simp only [Value.int.injEq, true_and]; omega) | omega | rfl | assumption | (simp; done) | (simp; omega)
    clear s0 s2 s3 hG cg w1 s K
    rintro m s K ⟨x, w1, hm, hx, s0, s2, s3, s4, hG, cg⟩
    simp (maxSteps := 1000000) (disch := omega) only [s0, s2, s3, s4, cell_of cg, S, S1, S2, S3, S4, S5, ST, eq_self, reduceIte, reduceCtorEq, Nat.reduceEqDiff, Nat.reduceAdd]
    refine brD.intro (fun g => ?_) (fun g => ?_)
    · simp (maxSteps := 1000000) (disch := omega) only [s0, s2, s3, s4, cell_of cg, S, S1, S2, S3, S4, S5, ST, eq_self, reduceIte, reduceCtorEq, Nat.reduceEqDiff, Nat.reduceAdd]
      refine CallH.by (put x hG cg (by omega) (by omega) (by omega)) ?_
      rintro _ L ⟨k, rfl, hk, cL, hput⟩
      simp (maxSteps := 1000000) (disch := omega) only [s0, s2, s3, s4, cell_of cL, build_a2, S, S1, S2, S3, S4, S5, ST, eq_self, reduceIte, reduceCtorEq, Nat.reduceEqDiff, Nat.reduceAdd]
      refine CallH.by hput ?_
      rintro r P ⟨K4, t1, t2, t3, w2, t4⟩
      simp (maxSteps := 1000000) (disch := omega) only [s0, s2, s3, s4, t1, wrap64, S, S1, S2, S3, S4, S5, ST, eq_self, reduceIte, reduceCtorEq, Nat.reduceEqDiff, Nat.reduceAdd]
      have f1 := t3.more (show N + 2 + x + 1 ≤ N + 2 + (x + 1) by omega) (Nat.le_refl (x + 1))
      refine ⟨m - 1, by omega, x + 1, w2, ?_⟩
      (repeat' first | exact f1 | exact t4 | apply And.intro) <;> first | (simp only [Value.int.injEq, true_and]; omega) | omega | rfl | assumption | (simp; done) | (simp; omega)
    · simp (maxSteps := 1000000) (disch := omega) only [s0, s2, s3, S, S1, S2, S3, S4, S5, ST, eq_self, reduceIte, reduceCtorEq, Nat.reduceEqDiff, Nat.reduceAdd]
      exact hc _ _ ⟨s0, s2, s3, hG.more (by omega) (by omega), w1, cg⟩
  clear s0 s2 s3 hG cg w1 s K
  rintro s K ⟨s0, s2, s3, hG, w1, cg⟩
  refine cutC (fun s K => s 2 = .pointer (some ⟨H.length, 0, none⟩) ∧ s 3 = .pointer (some ⟨gp, 0, none⟩) ∧ GSt H o gp v us (N + 60) 60 K) (fun c hc => ?_) ?_
  · simp (maxSteps := 1000000) (disch := omega) only [s0, s2, s3, S, S1, S2, S3, S4, S5, ST, eq_self, reduceIte, reduceCtorEq, Nat.reduceEqDiff, Nat.reduceAdd]
    refine CallH.by (pick_c hG.cr (by omega) 5 (by omega)) ?_
    rintro _ L ⟨⟨k0, rfl, hk0⟩, hCL, oL⟩
    have hGL := hG.cur ho (by omega) oL hCL
    have cL := oL.2 gp _ (by omega) cg
    simp (maxSteps := 1000000) (disch := omega) only [s0, s2, s3, S, S1, S2, S3, S4, S5, ST, eq_self, reduceIte, reduceCtorEq, Nat.reduceEqDiff, Nat.reduceAdd]
    refine LoopH.by (fun m s K => ∃ (j : Nat) (w : Value), m + j = k0 ∧ s 0 = .pointer (some ⟨o, 0, none⟩) ∧ s 2 = .pointer (some ⟨H.length, 0, none⟩) ∧ s 3 = .pointer (some ⟨gp, 0, none⟩) ∧ s 5 = .int .i64 (m : Int) ∧ GSt H o gp v us (N + 20 + 1 + j * 2) (20 + j) K ∧ K[gp]? = some (.cells [.int .i64 (n : Int), w] 26 false)) k0 ?_ ?_
    · refine ⟨0, w1, by omega, ?_⟩
      simp (maxSteps := 1000000) (disch := omega) only [s0, s2, s3, S, S1, S2, S3, S4, S5, ST, eq_self, reduceIte, reduceCtorEq, Nat.reduceEqDiff, Nat.reduceAdd]
      (repeat' first | exact hGL | exact cL | apply And.intro) <;> first | (simp only [Value.int.injEq, true_and]; omega) | omega | rfl | assumption | (simp; done) | (simp; omega)
    clear s0 s2 s3 hG cg hGL cL hCL oL w1 s K L
    rintro m s K ⟨j, w1, hm, s0, s2, s3, s5, hG, cg⟩
    simp (maxSteps := 1000000) (disch := omega) only [s0, s2, s3, s5, S, S1, S2, S3, S4, S5, ST, eq_self, reduceIte, reduceCtorEq, Nat.reduceEqDiff, Nat.reduceAdd]
    by_cases g : (0 : Int) < (m : Int)
    rotate_left
    · simp (maxSteps := 1000000) (disch := omega) only [decide_eq_false g, S, S1, S2, S3, S4, S5, ST, eq_self, reduceIte, reduceCtorEq, Nat.reduceEqDiff, Nat.reduceAdd]
      exact hc _ _ ⟨s2, s3, hG.more (by omega) (by omega)⟩
    simp (maxSteps := 1000000) (disch := omega) only [decide_eq_true g, s3, cell_of cg, S, S1, S2, S3, S4, S5, ST, eq_self, reduceIte, reduceCtorEq, Nat.reduceEqDiff, Nat.reduceAdd]
    by_cases g2 : (2 : Int) < (n : Int)
    rotate_left
    · simp (maxSteps := 1000000) (disch := omega) only [decide_eq_false g2, S, S1, S2, S3, S4, S5, ST, eq_self, reduceIte, reduceCtorEq, Nat.reduceEqDiff, Nat.reduceAdd]
      exact hc _ _ ⟨s2, s3, hG.more (by omega) (by omega)⟩
    have hw1 : IntKind.i64.wrap ((n : Int) - 1) = ((n - 1 : Nat) : Int) := by rw [wrap64 (by omega) (by omega)]; omega
    simp (maxSteps := 1000000) (disch := omega) only [decide_eq_true g2, s0, s2, s3, s5, cell_of cg, hw1, S, S1, S2, S3, S4, S5, ST, eq_self, reduceIte, reduceCtorEq, Nat.reduceEqDiff, Nat.reduceAdd]
    refine CallH.by (pick_c hG.cr (by omega) ((n - 1 : Nat) : Int) (by omega)) ?_
    rintro _ L ⟨⟨k, rfl, hk⟩, hCL, oL⟩
    have hGL := hG.cur ho (by omega) oL hCL
    have cL := oL.2 gp _ (by omega) cg
    have hw2 : IntKind.i64.wrap (1 + (k : Int)) = ((1 + k : Nat) : Int) := by rw [wrap64 (by omega) (by omega)]; omega
    simp (maxSteps := 1000000) (disch := omega) only [s0, s2, s3, s5, hw2, cell_of cL, S, S1, S2, S3, S4, S5, ST, eq_self, reduceIte, reduceCtorEq, Nat.reduceEqDiff, Nat.reduceAdd]
    refine CallH.by (put (1 + k) hGL cL (by omega) (by omega) (by omega)) ?_
    rintro _ P ⟨k2, rfl, hk2, cP, hput⟩
    simp (maxSteps := 1000000) (disch := omega) only [s0, s2, s3, s5, cell_of cP, build_a2, S, S1, S2, S3, S4, S5, ST, eq_self, reduceIte, reduceCtorEq, Nat.reduceEqDiff, Nat.reduceAdd]
    refine CallH.by hput ?_
    rintro r R ⟨K4, t1, t2, t3, w2, t4⟩
    have hw3 : IntKind.i64.wrap ((m : Int) - 1) = ((m - 1 : Nat) : Int) := by rw [wrap64 (by omega) (by omega)]; omega
    simp (maxSteps := 1000000) (disch := omega) only [s0, s2, s3, s5, t1, hw3, S, S1, S2, S3, S4, S5, ST, eq_self, reduceIte, reduceCtorEq, Nat.reduceEqDiff, Nat.reduceAdd]
    have f1 := t3.more (show N + 20 + 1 + j * 2 + 1 + 1 ≤ N + 20 + 1 + (j + 1) * 2 by omega) (show 20 + j + 1 ≤ 20 + (j + 1) by omega)
    refine ⟨m - 1, by omega, j + 1, w2, ?_⟩
    (repeat' first | exact f1 | exact t4 | apply And.intro) <;> first | (simp only [Value.int.injEq, true_and]; omega) | omega | rfl | assumption | (simp; done) | (simp; omega)
  clear s0 s2 s3 hG cg w1 put s K
  rintro s K ⟨s2, s3, n1, w, ps, q1, q2, q3, q4, q5, q6, q7, q8, q9, q10⟩
  have hst := st_G q3.row q1 rfl n1
  obtain ⟨d4, t1, t2, t3⟩ := retG h (n := n1) q1 q3 q5 q9 q10
  simp (maxSteps := 1000000) (disch := omega) only [s2, s3, ld_agg ag26 cs26 q2, hst, S, S1, S2, S3, S4, S5, ST, eq_self, reduceIte, reduceCtorEq, Nat.reduceEqDiff, Nat.reduceAdd]
  refine hQ _ _ _ (end_cell _ _ _ _ _ _ (.agg (List.toArray [.int .i64 n1, w])) ?_ rfl ⟨n1, w, ps, rfl, t1, q6, by omega, q8, t2.more (by omega), t3⟩)
  simp (maxSteps := 1000000) (disch := omega) only [s2, ld_agg ag26 cs26 d4, S, S1, S2, S3, S4, S5, ST, eq_self, reduceIte, reduceCtorEq, Nat.reduceEqDiff, Nat.reduceAdd]
end Go.Proofs.Ytldcbmmmheookaa.Ai
namespace Go.Proofs.Ytldcbmmmheookaa.Ai
open Go
def ords65 : List (Nat × List (Nat × Bool)) := []
def cd65 : Cd := (.seq (.reg [⟨⟨some 1, Op.box 26 (Operand.tmp 0), none⟩, []⟩,
  ⟨⟨some 2, Op.assign (Operand.const (Value.slice none 0 0)), none⟩, []⟩]) (.seq (.reg [⟨⟨some 4, Op.load 26 (Operand.tmp 1), none⟩, []⟩,
  ⟨⟨some 5, Op.buildSlice 27 0 #[], none⟩, []⟩,
  ⟨⟨some 6, Op.buildSlice 38 0 #[], none⟩, []⟩,
  ⟨⟨some 7, Op.call { callee := (Callee.value (Operand.func 105)), args := #[(Operand.tmp 4), (Operand.tmp 5), (Operand.const (Value.int IntKind.i64 0)), (Operand.tmp 6)], argTypes := #[26, 27, 3, 38] }, none⟩, []⟩,
  ⟨⟨some 3, Op.assign (Operand.tmp 7), none⟩, []⟩]) (.seq (.seq (.reg [⟨⟨some 8, Op.move (Operand.tmp 3), none⟩, []⟩,
  ⟨⟨some 9, Op.call { callee := (Callee.builtin Builtin.len), args := #[(Operand.tmp 8)], argTypes := #[38] }, none⟩, []⟩,
  ⟨⟨some 10, Op.binOp BinOp.gtr 3 (Operand.tmp 9) (Operand.const (Value.int IntKind.i64 300)) 3, none⟩, []⟩]) (.cond (Operand.tmp 10) (.seq (.reg [⟨⟨some 11, Op.buildSlice 38 0 #[], none⟩, []⟩,
  ⟨⟨some 2, Op.assign (Operand.tmp 11), none⟩, []⟩]) .ret) .skip)) (.seq (.reg [⟨⟨some 12, Op.move (Operand.tmp 3), none⟩, []⟩,
  ⟨⟨some 2, Op.assign (Operand.tmp 12), none⟩, []⟩]) .ret))))
theorem sl65 : slim Try.f65.ntmps ords65 (Try.f65.body.getD .skip) = some cd65 := by kernel_rfl
theorem in65 {args : List Value} {H : AH} {R : Value → AH → Prop} (hl : args.length = 1) (h : ∀ (Q : Exit → Sl → AH → Prop), (∀ e s H, endA Try.prog [ResultVar.tmp 2] R e s H → Q e s H) → wpC Try.prog cd65 Q (enterA args) H) : ACalls Try.prog 65 args H R :=
  ACalls.intro (by kernel_rfl) Try.func65 rfl (by kernel_rfl) sl65 hl (of_decide_eq_true (by kernel_rfl)) (by kernel_rfl) h
def ords36 : List (Nat × List (Nat × Bool)) := []
def cd36 : Cd := (.seq (.reg [⟨⟨some 3, Op.box 26 (Operand.tmp 1), none⟩, []⟩,
  ⟨⟨some 4, Op.assign (Operand.const (Value.slice none 0 0)), none⟩, []⟩]) (.seq (.seq (.reg [⟨⟨some 6, Op.load 26 (Operand.tmp 3), none⟩, []⟩,
  ⟨⟨some 7, Op.call { callee := (Callee.value (Operand.func 51)), args := #[(Operand.tmp 6)], argTypes := #[26] }, none⟩, []⟩,
  ⟨⟨some 8, Op.unOp UnOp.not 4 (Operand.tmp 7), none⟩, []⟩]) (.cond (Operand.tmp 8) (.seq (.reg [⟨⟨some 9, Op.buildSlice 27 1 #[(0, (Operand.const (Value.int IntKind.i64 0)))], none⟩, []⟩,
  ⟨⟨some 4, Op.assign (Operand.tmp 9), none⟩, []⟩]) .ret) .skip)) (.seq (.reg [⟨⟨some 10, Op.load 26 (Operand.tmp 3), none⟩, []⟩,
  ⟨⟨some 11, Op.call { callee := (Callee.value (Operand.func 65)), args := #[(Operand.tmp 10)], argTypes := #[26] }, none⟩, []⟩,
  ⟨⟨some 5, Op.assign (Operand.tmp 11), none⟩, []⟩]) (.seq (.seq (.reg [⟨⟨some 12, Op.move (Operand.tmp 5), none⟩, []⟩,
  ⟨⟨some 13, Op.call { callee := (Callee.builtin Builtin.len), args := #[(Operand.tmp 12)], argTypes := #[38] }, none⟩, []⟩,
  ⟨⟨some 14, Op.binOp BinOp.eql 3 (Operand.tmp 13) (Operand.const (Value.int IntKind.i64 0)) 3, none⟩, []⟩,
  ⟨⟨some 15, Op.move (Operand.tmp 14), none⟩, []⟩,
  ⟨⟨some 16, Op.move (Operand.tmp 0), some (15, false)⟩, []⟩,
  ⟨⟨some 17, Op.call { callee := (Callee.value (Operand.func 80)), args := #[(Operand.tmp 16), (Operand.const (Value.int IntKind.i64 12))], argTypes := #[58, 3] }, some (15, false)⟩, []⟩,
  ⟨⟨some 18, Op.pick (Operand.tmp 15) (Operand.const (Value.bool true)) (Operand.tmp 17), none⟩, []⟩]) (.cond (Operand.tmp 18) (.seq (.reg [⟨⟨some 19, Op.move (Operand.tmp 0), none⟩, []⟩,
  ⟨⟨some 20, Op.load 26 (Operand.tmp 3), none⟩, []⟩,
  ⟨⟨some 21, Op.call { callee := (Callee.value (Operand.func 85)), args := #[(Operand.tmp 19), (Operand.tmp 20)], argTypes := #[58, 26] }, none⟩, []⟩,
  ⟨⟨some 4, Op.assign (Operand.tmp 21), none⟩, []⟩]) .ret) .skip)) (.seq (.reg [⟨⟨some 22, Op.move (Operand.tmp 5), none⟩, []⟩,
  ⟨⟨some 23, Op.move (Operand.tmp 0), none⟩, []⟩,
  ⟨⟨some 24, Op.move (Operand.tmp 5), none⟩, []⟩,
  ⟨⟨some 25, Op.call { callee := (Callee.builtin Builtin.len), args := #[(Operand.tmp 24)], argTypes := #[38] }, none⟩, []⟩,
  ⟨⟨some 26, Op.call { callee := (Callee.value (Operand.func 84)), args := #[(Operand.tmp 23), (Operand.tmp 25)], argTypes := #[58, 3] }, none⟩, []⟩,
  ⟨⟨some 27, Op.indexAddr 38 (Operand.tmp 22) (Operand.tmp 26), none⟩, []⟩,
  ⟨⟨some 28, Op.load 27 (Operand.tmp 27), none⟩, []⟩,
  ⟨⟨some 4, Op.assign (Operand.tmp 28), none⟩, []⟩]) .ret)))))
theorem sl36 : slim Try.f36.ntmps ords36 (Try.f36.body.getD .skip) = some cd36 := by kernel_rfl
theorem in36 {args : List Value} {H : AH} {R : Value → AH → Prop} (hl : args.length = 2) (h : ∀ (Q : Exit → Sl → AH → Prop), (∀ e s H, endA Try.prog [ResultVar.tmp 4] R e s H → Q e s H) → wpC Try.prog cd36 Q (enterA args) H) : ACalls Try.prog 36 args H R :=
  ACalls.intro (by kernel_rfl) Try.func36 rfl (by kernel_rfl) sl36 hl (of_decide_eq_true (by kernel_rfl)) (by kernel_rfl) h
def ords37 : List (Nat × List (Nat × Bool)) := []
def cd37 : Cd := (.seq (.reg [⟨⟨some 3, Op.box 26 (Operand.tmp 1), none⟩, []⟩,
  ⟨⟨some 4, Op.assign (Operand.const (Value.int IntKind.i64 0)), none⟩, []⟩]) (.seq (.seq (.reg [⟨⟨some 5, Op.fieldAddr 26 (Operand.tmp 3) 1, none⟩, []⟩,
  ⟨⟨some 6, Op.load 24 (Operand.tmp 5), none⟩, []⟩,
  ⟨⟨some 7, Op.call { callee := (Callee.builtin Builtin.len), args := #[(Operand.tmp 6)], argTypes := #[24] }, none⟩, []⟩,
  ⟨⟨some 8, Op.binOp BinOp.eql 3 (Operand.tmp 7) (Operand.const (Value.int IntKind.i64 0)) 3, none⟩, []⟩,
  ⟨⟨some 9, Op.move (Operand.tmp 8), none⟩, []⟩,
  ⟨⟨some 10, Op.move (Operand.tmp 0), some (9, false)⟩, []⟩,
  ⟨⟨some 11, Op.call { callee := (Callee.value (Operand.func 80)), args := #[(Operand.tmp 10), (Operand.const (Value.int IntKind.i64 16))], argTypes := #[58, 3] }, some (9, false)⟩, []⟩,
  ⟨⟨some 12, Op.pick (Operand.tmp 9) (Operand.const (Value.bool true)) (Operand.tmp 11), none⟩, []⟩]) (.cond (Operand.tmp 12) (.seq (.reg [⟨⟨some 13, Op.move (Operand.tmp 0), none⟩, []⟩,
  ⟨⟨some 14, Op.buildSlice 27 3 #[(0, (Operand.const (Value.int IntKind.i64 (-1)))), (1, (Operand.const (Value.int IntKind.i64 0))), (2, (Operand.const (Value.int IntKind.i64 40)))], none⟩, []⟩,
  ⟨⟨some 15, Op.call { callee := (Callee.value (Operand.func 82)), args := #[(Operand.tmp 13), (Operand.tmp 14)], argTypes := #[58, 27] }, none⟩, []⟩,
  ⟨⟨some 4, Op.assign (Operand.tmp 15), none⟩, []⟩]) .ret) .skip)) (.seq (.reg [⟨⟨some 16, Op.move (Operand.tmp 0), none⟩, []⟩,
  ⟨⟨some 17, Op.fieldAddr 26 (Operand.tmp 3) 1, none⟩, []⟩,
  ⟨⟨some 18, Op.load 24 (Operand.tmp 17), none⟩, []⟩,
  ⟨⟨some 19, Op.call { callee := (Callee.builtin Builtin.len), args := #[(Operand.tmp 18)], argTypes := #[24] }, none⟩, []⟩,
  ⟨⟨some 20, Op.call { callee := (Callee.value (Operand.func 86)), args := #[(Operand.tmp 19), (Operand.const (Value.int IntKind.i64 28))], argTypes := #[3, 3] }, none⟩, []⟩,
  ⟨⟨some 21, Op.call { callee := (Callee.value (Operand.func 84)), args := #[(Operand.tmp 16), (Operand.tmp 20)], argTypes := #[58, 3] }, none⟩, []⟩,
  ⟨⟨some 4, Op.assign (Operand.tmp 21), none⟩, []⟩]) .ret)))
theorem sl37 : slim Try.f37.ntmps ords37 (Try.f37.body.getD .skip) = some cd37 := by kernel_rfl
theorem in37 {args : List Value} {H : AH} {R : Value → AH → Prop} (hl : args.length = 2) (h : ∀ (Q : Exit → Sl → AH → Prop), (∀ e s H, endA Try.prog [ResultVar.tmp 4] R e s H → Q e s H) → wpC Try.prog cd37 Q (enterA args) H) : ACalls Try.prog 37 args H R :=
  ACalls.intro (by kernel_rfl) Try.func37 rfl (by kernel_rfl) sl37 hl (of_decide_eq_true (by kernel_rfl)) (by kernel_rfl) h
def ords8 : List (Nat × List (Nat × Bool)) := [(3, [(0, false), (1, false), (2, false), (4, false), (5, false), (3, true), (6, true), (7, true), (8, false), (9, false)])]
def cd8 : Cd := (.seq (.reg [⟨⟨some 2, Op.alloc 26, none⟩, []⟩,
  ⟨⟨some 3, Op.assign (Operand.const (Value.slice none 0 0)), none⟩, []⟩,
  ⟨⟨some 4, Op.assign (Operand.const (Value.int IntKind.i64 0)), none⟩, []⟩]) (.seq (.reg [⟨⟨some 7, Op.move (Operand.tmp 0), none⟩, []⟩,
  ⟨⟨some 8, Op.build 61 #[(0, (Operand.tmp 7))], none⟩, []⟩,
  ⟨⟨some 9, Op.box 61 (Operand.tmp 8), none⟩, []⟩,
  ⟨⟨some 5, Op.assign (Operand.tmp 9), none⟩, []⟩]) (.seq (.reg [⟨⟨some 10, Op.move (Operand.tmp 5), none⟩, []⟩,
  ⟨⟨some 11, Op.call { callee := (Callee.value (Operand.func 35)), args := #[(Operand.tmp 10)], argTypes := #[58] }, none⟩, []⟩,
  ⟨⟨some 6, Op.alloc 26, none⟩, []⟩,
  ⟨⟨none, Op.store 26 (Operand.tmp 6) (Operand.tmp 11), none⟩, []⟩]) (.seq (.reg [⟨⟨some 12, Op.load 26 (Operand.tmp 6), none⟩, []⟩,
  ⟨⟨some 13, Op.move (Operand.tmp 5), none⟩, []⟩,
  ⟨⟨some 14, Op.load 26 (Operand.tmp 6), none⟩, []⟩,
  ⟨⟨some 16, Op.move (Operand.tmp 5), none⟩, []⟩,
  ⟨⟨some 17, Op.load 26 (Operand.tmp 6), none⟩, []⟩,
  ⟨⟨some 15, Op.call { callee := (Callee.value (Operand.func 36)), args := #[(Operand.tmp 13), (Operand.tmp 14)], argTypes := #[58, 26] }, none⟩, [⟨some 17, Op.load 26 (Operand.tmp 6), none⟩, ⟨some 12, Op.load 26 (Operand.tmp 6), none⟩]⟩,
  ⟨⟨some 18, Op.call { callee := (Callee.value (Operand.func 37)), args := #[(Operand.tmp 16), (Operand.tmp 17)], argTypes := #[58, 26] }, none⟩, [⟨some 12, Op.load 26 (Operand.tmp 6), none⟩]⟩,
  ⟨⟨none, Op.store 26 (Operand.tmp 2) (Operand.tmp 12), none⟩, []⟩,
  ⟨⟨some 3, Op.assign (Operand.tmp 15), none⟩, []⟩,
  ⟨⟨some 4, Op.assign (Operand.tmp 18), none⟩, []⟩]) .ret))))
theorem sl8 : slim Try.f8.ntmps ords8 (Try.f8.body.getD .skip) = some cd8 := by kernel_rfl
set_option maxRecDepth 20000 in
theorem in8 {args : List Value} {H : AH} {R : Value → AH → Prop} (hl : args.length = 1) (h : ∀ (Q : Exit → Sl → AH → Prop), (∀ e s H, endA Try.prog [ResultVar.cell 2 26, ResultVar.tmp 3, ResultVar.tmp 4] R e s H → Q e s H) → wpC Try.prog cd8 Q (enterA args) H) : ACalls Try.prog 8 args H R :=
  ACalls.intro (by kernel_rfl) Try.func8 rfl (by kernel_rfl) sl8 hl (of_decide_eq_true (by kernel_rfl)) (by kernel_rfl) h
end Go.Proofs.Ytldcbmmmheookaa.Ai
namespace Go.Proofs.Ytldcbmmmheookaa.Ai
open Go Go.RowKit
set_option linter.unusedVariables false
set_option linter.unusedSimpArgs false
/-- all trees, none if there are too many -/
def trsR (n : Nat) (es : List (Int × Int)) : List (List Int) := if 300 < (treA n es).length then [] else treA n es
set_option maxRecDepth 20000 in
set_option maxHeartbeats 4000000 in
theorem l7Trees_c (n : Nat) (hn : 1 ≤ n) (v : Value) (es : List (Int × Int)) (H : AH) (hr : RowP 71 H v es) (hg : Grd (n : Int) es) :
    ACalls Try.prog 65 [.agg (List.toArray [.int .i64 (n : Int), v])] H fun r H' => ∃ o us, r = .slice (some ⟨o, 0, none⟩) (trsR n es).length (trsR n es).length ∧ InU H.length H'.length 27 3 H' o us (trsR n es) ∧ H <+: H' := by
  have h28 : es.length ≤ 28 := grd_len hg
  refine in65 rfl ?_
  intro Q hQ
  simp (maxSteps := 1000000) (disch := omega) only [cd65, hr.boxG, S, S1, S2, S3, S4, S5, ST, eq_self, reduceIte, reduceCtorEq, Nat.reduceEqDiff, Nat.reduceAdd]
  generalize hA : H ++ [AObj.cells [.int .i64 ↑n, v] 26 false] = A
  have pA : H <+: A := by rw [← hA]; exact List.prefix_append _ _
  have cA : A[H.length]? = some (.cells [.int .i64 ↑n, v] 26 false) := by rw [← hA]; exact at_new ..
  have rA := hr.pre pA
  have lA : A.length = H.length + 1 := by rw [← hA]; simp
  generalize hB : A ++ [AObj.cells [] 3 false] = B
  have pB : A <+: B := by rw [← hB]; exact List.prefix_append _ _
  have lB : B.length = A.length + 1 := by rw [← hB]; simp
  have cB := pre_at pB cA
  have wB : Row 3 B (.slice (some ⟨A.length, 0, none⟩) 0 0) [] := .inr ⟨A.length, 0, [], false, rfl, by rw [← hB]; exact at_new .., by simp, rfl⟩
  generalize hC : B ++ [AObj.cells [] 27 false] = C
  have pC : B <+: C := by rw [← hC]; exact List.prefix_append _ _
  have lC : C.length = B.length + 1 := by rw [← hC]; simp
  have u0 : InU H.length C.length 27 3 C B.length [] [] := by
    have := InU.new H.length 27 3 B (by omega)
    rw [hC] at this
    exact this.wide (Nat.le_refl _) (by omega)
  have cC := pre_at pC cB
  have rC := rA.pre (pB.trans pC)
  have z0 : ((es.length - es.length : Nat) : Int) = 0 := by rw [Nat.sub_self]; rfl
  have hcall := l7Grow_c n hn v es hg H.length es.length (.slice (some ⟨A.length, 0, none⟩) 0 0) [] B.length [] [] C (Nat.le_refl _) (Beg.nil hn es) rC (wB.pre pC) (.inr (.inr (by show A.length ≠ B.length; omega))) (by
    rcases rA.nil with q | q
    · exact .inr (.inl q.1)
    · refine .inr (.inr ?_)
      show rowO v ≠ B.length
      omega) u0 (by simp)
  rw [z0] at hcall
  simp (maxSteps := 1000000) (disch := omega) only [ld_agg ag26 cs26 cA, hB, hC, ld_agg ag26 cs26 cB, ld_agg ag26 cs26 cC, S, S1, S2, S3, S4, S5, ST, eq_self, reduceIte, reduceCtorEq, Nat.reduceEqDiff, Nat.reduceAdd]
  refine CallH.by hcall ?_
  rintro _ D ⟨o, us, rfl, d1, d2, d3, d4⟩
  rw [List.nil_append] at d1 ⊢
  have hp : H <+: D := prefix_of fun j y hy => d2 j y (by have := at_lt hy; omega) (pre_at (pA.trans (pB.trans pC)) hy)
  have hlen : ((grA es n es.length []).take 301).length = min 301 (treA n es).length := List.length_take
  have hlen2 : (((grA es n es.length []).take 301).length : Int) > 300 ↔ 300 < (treA n es).length := by omega
  simp (maxSteps := 1000000) (disch := omega) only [S, S1, S2, S3, S4, S5, ST, eq_self, reduceIte, reduceCtorEq, Nat.reduceEqDiff, Nat.reduceAdd]
  refine brD.intro (fun g => ?_) (fun g => ?_)
  · have hR : trsR n es = [] := by unfold trsR; rw [if_pos (by omega)]
    have := InU.new H.length 27 3 D hp.length_le
    simp (maxSteps := 1000000) (disch := omega) only [S, S1, S2, S3, S4, S5, ST, eq_self, reduceIte, reduceCtorEq, Nat.reduceEqDiff, Nat.reduceAdd]
    refine hQ _ _ _ ?_
    simp (maxSteps := 1000000) (disch := omega) only [S, S1, S2, S3, S4, S5, ST, eq_self, reduceIte, reduceCtorEq, Nat.reduceEqDiff, Nat.reduceAdd]
    rw [hR]
    exact ⟨D.length, [], rfl, this.wide (Nat.le_refl _) (by simp), pre_app hp _⟩
  · have hR : trsR n es = (grA es n es.length []).take 301 := by
      unfold trsR
      rw [if_neg (by omega), List.take_of_length_le (show (grA es n es.length []).length ≤ 301 by have : treA n es = grA es n es.length [] := rfl; rw [← this]; omega)]
      rfl
    rw [← hR] at d1
    simp (maxSteps := 1000000) (disch := omega) only [S, S1, S2, S3, S4, S5, ST, eq_self, reduceIte, reduceCtorEq, Nat.reduceEqDiff, Nat.reduceAdd]
    refine hQ _ _ _ ?_
    simp (maxSteps := 1000000) (disch := omega) only [S, S1, S2, S3, S4, S5, ST, eq_self, reduceIte, reduceCtorEq, Nat.reduceEqDiff, Nat.reduceAdd]
    rw [hR]
    rw [hR] at d1
    exact ⟨o, us, rfl, d1, hp⟩
theorem trsR_tree {n : Nat} (hn : 1 ≤ n) {es : List (Int × Int)} (hg : Grd (n : Int) es) : ∀ U ∈ trsR n es, TreL n es U := fun U hU => by
  unfold trsR at hU
  split at hU
  · simp at hU
  · exact (treA_iff hn hg U).1 hU
theorem trsR_len (n : Nat) (es : List (Int × Int)) : (trsR n es).length ≤ 300 := by
  unfold trsR
  split
  · simp
  · omega
set_option maxRecDepth 20000 in
set_option maxHeartbeats 4000000 in
theorem tree7_c {H : AH} {o : Nat} {v w : Value} {us : List Value} {N : Nat} {es : List (Int × Int)} (h : Cur H o v us N) (hN : N ≤ 99000000) (n : Int) (hw : RowP 71 H w es) (hwo : w = .slice none 0 0 ∨ rowO w ≠ o) (hl : es.length ≤ 1000) :
    ACalls Try.prog 36 [.pointer (some ⟨o, 0, none⟩), .agg (List.toArray [.int .i64 n, w])] H fun r H' => ∃ xs : List Int, Row 3 H' r xs ∧ (r = .slice none 0 0 ∨ H.length ≤ rowO r) ∧ xs.length ≤ 9 ∧ (∀ y ∈ xs, -1 ≤ y ∧ y ≤ 28) ∧ Cur H' o v us (N + 10) ∧ Keeps o H H' := by
  have ho : o < H.length := by
    obtain ⟨_, _, g, _⟩ := h.cur
    exact at_lt g
  refine in36 rfl ?_
  intro Q hQ
  simp (maxSteps := 1000000) (disch := omega) only [cd36, hw.boxG, S, S1, S2, S3, S4, S5, ST, eq_self, reduceIte, reduceCtorEq, Nat.reduceEqDiff, Nat.reduceAdd]
  generalize hA : H ++ [AObj.cells [.int .i64 n, w] 26 false] = A
  have pA : H <+: A := by rw [← hA]; exact List.prefix_append _ _
  have cA : A[H.length]? = some (.cells [.int .i64 n, w] 26 false) := by rw [← hA]; exact at_new ..
  have rA := hw.pre pA
  have lA : A.length = H.length + 1 := by rw [← hA]; simp
  simp (maxSteps := 1000000) (disch := omega) only [ld_agg ag26 cs26 cA, S, S1, S2, S3, S4, S5, ST, eq_self, reduceIte, reduceCtorEq, Nat.reduceEqDiff, Nat.reduceAdd]
  refine CallH.by (l7Some_c n w es A rA (by omega)) ?_
  rintro _ B ⟨rfl, pB⟩
  have cB := pre_at pB cA
  have pHB := pA.trans pB
  by_cases e1 : Grd n es ∧ 0 < n
  rotate_left
  · simp (maxSteps := 1000000) (disch := omega) only [decide_eq_false e1, S, S1, S2, S3, S4, S5, ST, eq_self, reduceIte, reduceCtorEq, Nat.reduceEqDiff, Nat.reduceAdd]
    refine hQ _ _ _ ?_
    simp (maxSteps := 1000000) (disch := omega) only [S, S1, S2, S3, S4, S5, ST, eq_self, reduceIte, reduceCtorEq, Nat.reduceEqDiff, Nat.reduceAdd]
    have pX : B <+: B ++ [AObj.cells [.int .i64 0] 3 false] := List.prefix_append _ _
    refine ⟨[0], .inr ⟨B.length, 0, [.int .i64 0], false, rfl, at_new .., by simp, rfl⟩, .inr pHB.length_le, by simp, fun y hy => by simp at hy; omega, ((h.pre pHB).pre pX).more (by omega), .of_pre (pHB.trans pX)⟩
  have hg := e1.1
  have h28 : es.length ≤ 28 := grd_len hg
  obtain ⟨n, rfl⟩ : ∃ m : Nat, n = m := ⟨n.toNat, by omega⟩
  have hn8 : n ≤ 8 := by have := hg.1; omega
  simp (maxSteps := 1000000) (disch := omega) only [decide_eq_true e1, ld_agg ag26 cs26 cB, S, S1, S2, S3, S4, S5, ST, eq_self, reduceIte, reduceCtorEq, Nat.reduceEqDiff, Nat.reduceAdd]
  refine CallH.by (l7Trees_c n (by omega) w es B (rA.pre pB) hg) ?_
  rintro _ C ⟨oo, us2, rfl, hU, pC⟩
  have cC := pre_at pC cB
  have hCC := (h.pre pHB).pre pC
  have pHC := pHB.trans pC
  have tl := trsR_len n es
  have lB := pB.length_le
  -- some nodes
  have some_ : ∀ {K : AH} {M : Nat}, Cur K o v us M → M ≤ N + 2 → Keeps o H K → RowP 71 K w es → ACalls Try.prog 85 [.pointer (some ⟨o, 0, none⟩), .agg (List.toArray [.int .i64 (n : Int), w])] K fun r H' => isTup r = false ∧ ∃ xs : List Int, Row 3 H' r xs ∧ (r = .slice none 0 0 ∨ H.length ≤ rowO r) ∧ xs.length ≤ 9 ∧ (∀ y ∈ xs, -1 ≤ y ∧ y ≤ 28) ∧ Cur H' o v us (N + 10) ∧ Keeps o H H' := by
    intro K M hC hM hK hr
    refine (nodes_c hC (by omega) (n : Int) hr).mono fun r H' hx => ?_
    obtain ⟨xs, x1, x2, x3, x4, x5⟩ := hx
    refine ⟨x1.row.tup, xs, x1.row, ?_, x2, fun y hy => by have := x3 y hy; omega, x4.more (by omega), hK.trans x5⟩
    rcases x1 with q | ⟨q, q1, q2, _⟩
    · exact .inl q.1
    · refine .inr ?_
      rw [q1]
      have := hK.1
      show H.length ≤ q
      omega
  simp (maxSteps := 1000000) (disch := omega) only [S, S1, S2, S3, S4, S5, ST, eq_self, reduceIte, reduceCtorEq, Nat.reduceEqDiff, Nat.reduceAdd]
  by_cases e2 : ((trsR n es).length : Int) = 0
  · simp (maxSteps := 1000000) (disch := omega) only [decide_eq_true e2, ld_agg ag26 cs26 cC, S, S1, S2, S3, S4, S5, ST, eq_self, reduceIte, reduceCtorEq, Nat.reduceEqDiff, Nat.reduceAdd]
    refine CallH.by (some_ hCC (by omega) (.of_pre pHC) ((rA.pre pB).pre pC)) ?_
    rintro r D ⟨ht, hD⟩
    simp (maxSteps := 1000000) (disch := omega) only [S, S1, S2, S3, S4, S5, ST, eq_self, reduceIte, reduceCtorEq, Nat.reduceEqDiff, Nat.reduceAdd]
    refine hQ _ _ _ ?_
    simp (maxSteps := 1000000) (disch := omega) only [ht, S, S1, S2, S3, S4, S5, ST, eq_self, reduceIte, reduceCtorEq, Nat.reduceEqDiff, Nat.reduceAdd]
    exact hD
  simp (maxSteps := 1000000) (disch := omega) only [decide_eq_false e2, S, S1, S2, S3, S4, S5, ST, eq_self, reduceIte, reduceCtorEq, Nat.reduceEqDiff, Nat.reduceAdd]
  refine CallH.by (one_c hCC (by omega) 12 (by omega)) ?_
  rintro _ D ⟨⟨b, rfl⟩, hCD, oD⟩
  have cD := oD.2 _ _ (by omega) cC
  have kHD : Keeps o H D := (Keeps.of_pre pHC).trans oD.keeps
  simp (maxSteps := 1000000) (disch := omega) only [S, S1, S2, S3, S4, S5, ST, eq_self, reduceIte, reduceCtorEq, Nat.reduceEqDiff, Nat.reduceAdd]
  cases b with
  | true =>
    refine brH.intro (fun _ => ?_) (fun q => by cases q)
    have rD : RowP 71 D w es := by
      rcases hwo with e | e
      · have := hw.nilv e
        exact .inl ⟨e, this⟩
      · exact ((rA.pre pB).pre pC).mono fun y hy => oD.2 _ _ e hy
    simp (maxSteps := 1000000) (disch := omega) only [ld_agg ag26 cs26 cD, S, S1, S2, S3, S4, S5, ST, eq_self, reduceIte, reduceCtorEq, Nat.reduceEqDiff, Nat.reduceAdd]
    refine CallH.by (some_ hCD (by omega) kHD rD) ?_
    rintro r E ⟨ht, hE⟩
    simp (maxSteps := 1000000) (disch := omega) only [S, S1, S2, S3, S4, S5, ST, eq_self, reduceIte, reduceCtorEq, Nat.reduceEqDiff, Nat.reduceAdd]
    refine hQ _ _ _ ?_
    simp (maxSteps := 1000000) (disch := omega) only [ht, S, S1, S2, S3, S4, S5, ST, eq_self, reduceIte, reduceCtorEq, Nat.reduceEqDiff, Nat.reduceAdd]
    exact hE
  | false =>
    refine brH.intro (fun q => by cases q) (fun _ => ?_)
    simp (maxSteps := 1000000) (disch := omega) only [S, S1, S2, S3, S4, S5, ST, eq_self, reduceIte, reduceCtorEq, Nat.reduceEqDiff, Nat.reduceAdd]
    refine CallH.by (pick2_c hCD (by omega) ((trsR n es).length : Int) (by omega)) ?_
    rintro _ E ⟨⟨k, rfl, hk⟩, hCE, oE⟩
    have hkl : k < (trsR n es).length := by omega
    obtain ⟨i1, i2, i3, i4, i5, i6⟩ := hU
    have hI := (i5 k hkl).1
    have hrow := hI.row.1
    have hu3 : E[oo]? = some (.cells us2 27 false) := oE.2 _ _ (by omega) (oD.2 _ _ (by omega) i3)
    have low : us2.getD k undef = .slice none 0 0 ∨ H.length ≤ rowO (us2.getD k undef) := by
      rcases hI with q | ⟨q, zs, q1, q2, _⟩
      · exact .inl q.1
      · refine .inr ?_
        rw [q1]
        have := pHB.length_le
        show H.length ≤ q
        omega
    have hrE : Row 3 E (us2.getD k undef) ((trsR n es).getD k []) := by
      rcases low with e | e
      · rcases hrow with z | ⟨_, _, _, _, z, _⟩
        · exact .inl z
        · rw [e] at z; cases z
      · exact (hrow.mono fun y hy => oD.2 _ _ (by omega) hy).mono fun y hy => oE.2 _ _ (by omega) hy
    have hcell : cellA E oo k = some (us2.getD k undef) := by
      rw [cell_of hu3]
      rw [List.getElem?_eq_getElem (show k < us2.length by omega)]
      simp [show k < us2.length by omega]
    have tT := trsR_tree (show 1 ≤ n by omega) hg ((trsR n es).getD k []) (by simp [hkl])
    have ix := ix_one (P := Try.prog) (t := 38) Try.underlying38 cs27 ⟨oo, 0, none⟩ (trsR n es).length (trsR n es).length .i64 (i := (k : Int)) (by omega) (by omega)
    simp (maxSteps := 1000000) (disch := omega) only [ix, Int.toNat_natCast, hcell, S, S1, S2, S3, S4, S5, ST, eq_self, reduceIte, reduceCtorEq, Nat.reduceEqDiff, Nat.reduceAdd]
    refine hQ _ _ _ ?_
    simp (maxSteps := 1000000) (disch := omega) only [hrE.tup, S, S1, S2, S3, S4, S5, ST, eq_self, reduceIte, reduceCtorEq, Nat.reduceEqDiff, Nat.reduceAdd]
    have := tT.1
    exact ⟨_, hrE, low, by omega, fun y hy => by have := tT.2.2.1 y hy; omega, hCE.more (by omega), kHD.trans oE.keeps⟩
set_option maxHeartbeats 2000000 in
theorem edge7_c {H : AH} {o : Nat} {v w : Value} {us : List Value} {N : Nat} {es : List (Int × Int)} (h : Cur H o v us N) (hN : N ≤ 99000000) (n : Int) (hw : RowP 71 H w es) (hl : es.length ≤ 1000) :
    ACalls Try.prog 37 [.pointer (some ⟨o, 0, none⟩), .agg (List.toArray [.int .i64 n, w])] H fun r H' => (∃ e : Int, r = .int .i64 e ∧ -1 ≤ e ∧ e ≤ 40) ∧ Cur H' o v us (N + 3) ∧ Keeps o H H' := by
  have ho : o < H.length := by
    obtain ⟨_, _, g, _⟩ := h.cur
    exact at_lt g
  refine in37 rfl ?_
  intro Q hQ
  simp (maxSteps := 1000000) (disch := omega) only [cd37, hw.boxG, S, S1, S2, S3, S4, S5, ST, eq_self, reduceIte, reduceCtorEq, Nat.reduceEqDiff, Nat.reduceAdd]
  generalize hA : H ++ [AObj.cells [.int .i64 n, w] 26 false] = A
  have pA : H <+: A := by rw [← hA]; exact List.prefix_append _ _
  have cA : A[H.length]? = some (.cells [.int .i64 n, w] 26 false) := by rw [← hA]; exact at_new ..
  have rA := hw.pre pA
  have lA : A.length = H.length + 1 := by rw [← hA]; simp
  have blK1 : ∀ H0 : AH, buildSliceA Try.prog 27 3 [(0, .int .i64 (-1)), (1, .int .i64 0), (2, .int .i64 40)] H0 = some (.slice (some ⟨H0.length, 0, none⟩) 3 3, H0 ++ [.cells [.int .i64 (-1), .int .i64 0, .int .i64 40] 3 false]) := fun H0 => by kernel_rfl
  have amg : ∀ {K : AH} {M : Nat}, Cur K o v us M → M ≤ N + 1 → Keeps o H K → ACalls Try.prog 82 [.pointer (some ⟨o, 0, none⟩), .slice (some ⟨K.length, 0, none⟩) 3 3] (K ++ [.cells [.int .i64 (-1), .int .i64 0, .int .i64 40] 3 false]) fun r H' => (∃ e : Int, r = .int .i64 e ∧ -1 ≤ e ∧ e ≤ 40) ∧ Cur H' o v us (N + 3) ∧ Keeps o H H' := by
    intro K M hC hM hK
    have pX : K <+: K ++ [AObj.cells [.int .i64 (-1), .int .i64 0, .int .i64 40] 3 false] := List.prefix_append _ _
    have wX : Row 3 (K ++ [AObj.cells [.int .i64 (-1), .int .i64 0, .int .i64 40] 3 false]) (.slice (some ⟨K.length, 0, none⟩) 3 3) [-1, 0, 40] := .inr ⟨K.length, 0, _, false, rfl, at_new .., by simp, rfl⟩
    refine (among_c (hC.pre pX) (by omega) wX (by have := hK.1; show K.length ≠ o; omega) (by simp)).mono fun r H' hr => ?_
    obtain ⟨⟨x, rfl, hx⟩, x1, x2⟩ := hr
    exact ⟨⟨x, rfl, by simp at hx; omega⟩, x1.more (by omega), hK.trans ((Keeps.of_pre pX).trans x2.keeps)⟩
  simp (maxSteps := 1000000) (disch := omega) only [cell_of cA, rA.len Try.underlying24, S, S1, S2, S3, S4, S5, ST, eq_self, reduceIte, reduceCtorEq, Nat.reduceEqDiff, Nat.reduceAdd]
  by_cases e1 : (es.length : Int) = 0
  · simp (maxSteps := 1000000) (disch := omega) only [decide_eq_true e1, blK1, S, S1, S2, S3, S4, S5, ST, eq_self, reduceIte, reduceCtorEq, Nat.reduceEqDiff, Nat.reduceAdd]
    refine CallH.by (amg (h.pre pA) (by omega) (.of_pre pA)) ?_
    rintro _ D ⟨⟨e, rfl, he⟩, hD⟩
    simp (maxSteps := 1000000) (disch := omega) only [S, S1, S2, S3, S4, S5, ST, eq_self, reduceIte, reduceCtorEq, Nat.reduceEqDiff, Nat.reduceAdd]
    refine hQ _ _ _ ?_
    simp (maxSteps := 1000000) (disch := omega) only [S, S1, S2, S3, S4, S5, ST, eq_self, reduceIte, reduceCtorEq, Nat.reduceEqDiff, Nat.reduceAdd]
    exact ⟨⟨e, rfl, he⟩, hD⟩
  simp (maxSteps := 1000000) (disch := omega) only [decide_eq_false e1, S, S1, S2, S3, S4, S5, ST, eq_self, reduceIte, reduceCtorEq, Nat.reduceEqDiff, Nat.reduceAdd]
  refine CallH.by (one_c (h.pre pA) (by omega) 16 (by omega)) ?_
  rintro _ D ⟨⟨b, rfl⟩, hCD, oD⟩
  have kHD : Keeps o H D := (Keeps.of_pre pA).trans oD.keeps
  have cD := oD.2 _ _ (by omega) cA
  simp (maxSteps := 1000000) (disch := omega) only [S, S1, S2, S3, S4, S5, ST, eq_self, reduceIte, reduceCtorEq, Nat.reduceEqDiff, Nat.reduceAdd]
  cases b with
  | true =>
    refine brH.intro (fun _ => ?_) (fun q => by cases q)
    simp (maxSteps := 1000000) (disch := omega) only [blK1, S, S1, S2, S3, S4, S5, ST, eq_self, reduceIte, reduceCtorEq, Nat.reduceEqDiff, Nat.reduceAdd]
    refine CallH.by (amg hCD (by omega) kHD) ?_
    rintro _ E ⟨⟨e, rfl, he⟩, hE⟩
    simp (maxSteps := 1000000) (disch := omega) only [S, S1, S2, S3, S4, S5, ST, eq_self, reduceIte, reduceCtorEq, Nat.reduceEqDiff, Nat.reduceAdd]
    refine hQ _ _ _ ?_
    simp (maxSteps := 1000000) (disch := omega) only [S, S1, S2, S3, S4, S5, ST, eq_self, reduceIte, reduceCtorEq, Nat.reduceEqDiff, Nat.reduceAdd]
    exact ⟨⟨e, rfl, he⟩, hE⟩
  | false =>
    refine brH.intro (fun q => by cases q) (fun _ => ?_)
    simp (maxSteps := 1000000) (disch := omega) only [cell_of cD, rA.len Try.underlying24, S, S1, S2, S3, S4, S5, ST, eq_self, reduceIte, reduceCtorEq, Nat.reduceEqDiff, Nat.reduceAdd]
    refine CallH.by (l1Least_c (es.length : Int) 28 D) ?_
    rintro _ _ ⟨rfl, rfl⟩
    simp (maxSteps := 1000000) (disch := omega) only [S, S1, S2, S3, S4, S5, ST, eq_self, reduceIte, reduceCtorEq, Nat.reduceEqDiff, Nat.reduceAdd]
    refine CallH.by (pick_c hCD (by omega) _ (by split <;> omega)) ?_
    rintro _ E ⟨⟨k, rfl, hk⟩, hCE, oE⟩
    simp (maxSteps := 1000000) (disch := omega) only [S, S1, S2, S3, S4, S5, ST, eq_self, reduceIte, reduceCtorEq, Nat.reduceEqDiff, Nat.reduceAdd]
    refine hQ _ _ _ ?_
    simp (maxSteps := 1000000) (disch := omega) only [S, S1, S2, S3, S4, S5, ST, eq_self, reduceIte, reduceCtorEq, Nat.reduceEqDiff, Nat.reduceAdd]
    refine ⟨⟨(k : Int), rfl, by omega, ?_⟩, hCE.more (by omega), kHD.trans oE.keeps⟩
    rcases hk with q | q
    · split at q <;> omega
    · omega
theorem end_cell3 (P : Program) (a b c : Nat) (t : TypeId) (R : Value → AH → Prop) (s : Sl) (H : AH) (v w x : Value) (h : loadA P t (s a) H = some v) (ht : isTup v = false) (hb : s b = w) (hw : isTup w = false) (hc : s c = x) (hx : isTup x = false) (hr : R (.tuple (List.toArray [v, w, x])) H) : endA P [.cell a t, .tmp b, .tmp c] R .ret s H := by
  subst hb
  subst hc
  simp only [endA, resA, h, ht]
  simp [hw, hx, outA]
  exact hr
set_option maxRecDepth 20000 in
set_option maxHeartbeats 4000000 in
theorem DrawCircle_c {H : AH} {v : Value} {us : List Value} (h : Byt H v us) :
    ACalls Try.prog 8 [v] H fun r H' => ∃ (n e : Int) (w u : Value) (es : List (Int × Int)) (T : List Int), r = .tuple (List.toArray [.agg (List.toArray [.int .i64 n, w]), u, .int .i64 e]) ∧ RowP 71 H' w es ∧ es.length ≤ 200 ∧ Row 3 H' u T ∧ T.length ≤ 100 ∧ H <+: H' := by
  obtain ⟨pv, ev⟩ := h.row.shape
  refine in8 rfl ?_
  intro Q hQ
  have b1 := bld_cur pv us.length us.length
  have b2 := fun H => box_cur pv us.length us.length H
  rw [← ev] at b1 b2
  generalize hA : H ++ [AObj.cells [.int .i64 0, .slice none 0 0] 26 false] = A
  have pA : H <+: A := by rw [← hA]; exact List.prefix_append _ _
  have cA : A[H.length]? = some (.cells [.int .i64 0, .slice none 0 0] 26 false) := by rw [← hA]; exact at_new ..
  have lA : A.length = H.length + 1 := by rw [← hA]; simp
  have al := alloc_G H
  rw [hA] at al
  simp (maxSteps := 1000000) (disch := omega) only [cd8, al, b1, b2, S, S1, S2, S3, S4, S5, ST, eq_self, reduceIte, reduceCtorEq, Nat.reduceEqDiff, Nat.reduceAdd]
  generalize hB : A ++ [AObj.cells [v, .int .i64 0, .int .u64 0] 61 false] = B
  have pB : A <+: B := by rw [← hB]; exact List.prefix_append _ _
  have lB : B.length = A.length + 1 := by rw [← hB]; simp
  have hC : Cur B A.length v us 0 := by rw [← hB]; exact (h.pre pA).cur
  have cB := pre_at pB cA
  refine CallH.by (linked7_c hC (by omega)) ?_
  rintro _ C ⟨n, w, es, rfl, hm, hn, hl, hs, hCC, kC⟩
  have cC := kC.2 _ _ (by omega) cB
  have lC := kC.1
  have hwo : w = .slice none 0 0 ∨ B.length ≤ rowO w := hm.low
  have st1 := st_G hm.row (at_new C (.cells [.int .i64 0, .slice none 0 0] 26 false)) rfl n
  rw [set_new] at st1
  simp (maxSteps := 1000000) (disch := omega) only [alloc_G, st1, S, S1, S2, S3, S4, S5, ST, eq_self, reduceIte, reduceCtorEq, Nat.reduceEqDiff, Nat.reduceAdd]
  generalize hD : C ++ [AObj.cells [.int .i64 n, w] 26 false] = D
  have pD : C <+: D := by rw [← hD]; exact List.prefix_append _ _
  have lD : D.length = C.length + 1 := by rw [← hD]; simp
  have gD : D[C.length]? = some (.cells [.int .i64 n, w] 26 false) := by rw [← hD]; exact at_new ..
  have rD := hm.row.pre pD
  simp (maxSteps := 1000000) (disch := omega) only [ld_agg ag26 cs26 gD, S, S1, S2, S3, S4, S5, ST, eq_self, reduceIte, reduceCtorEq, Nat.reduceEqDiff, Nat.reduceAdd]
  refine CallH.by (tree7_c (hCC.pre pD) (by omega) n rD (by
    rcases hwo with e | e
    · exact .inl e
    · exact .inr (by omega)) (by omega)) ?_
  rintro u E ⟨T, hu, hul, htl, htr, hCE, kE⟩
  have lE := kE.1
  have gE := kE.2 _ _ (by omega) gD
  have rE : RowP 71 E w es := by
    rcases hwo with e | e
    · exact .inl ⟨e, rD.nilv e⟩
    · exact rD.mono fun y hy => kE.2 _ _ (by omega) hy
  simp (maxSteps := 1000000) (disch := omega) only [ld_agg ag26 cs26 gE, S, S1, S2, S3, S4, S5, ST, eq_self, reduceIte, reduceCtorEq, Nat.reduceEqDiff, Nat.reduceAdd]
  refine CallH.by (edge7_c hCE (by omega) n rE (by omega)) ?_
  rintro _ F ⟨⟨e, rfl, he⟩, hCF, kF⟩
  have lF := kF.1
  have gF := kF.2 _ _ (by omega) gE
  have cF : F[H.length]? = some (.cells [.int .i64 0, .slice none 0 0] 26 false) := kF.2 _ _ (by omega) (kE.2 _ _ (by omega) (pre_at pD cC))
  have rF : RowP 71 F w es := by
    rcases hwo with e | e
    · exact .inl ⟨e, rD.nilv e⟩
    · exact rE.mono fun y hy => kF.2 _ _ (by omega) hy
  have uF : Row 3 F u T := by
    rcases hul with e | e
    · rcases hu with z | ⟨_, _, _, _, z, _⟩
      · exact .inl z
      · rw [e] at z; cases z
    · exact hu.mono fun y hy => kF.2 _ _ (by omega) hy
  have hst := st_G rF cF rfl n
  have d4 := at_set (d := .cells [.int .i64 n, w] 26 false) cF
  simp (maxSteps := 1000000) (disch := omega) only [ld_agg ag26 cs26 gF, hst, S, S1, S2, S3, S4, S5, ST, eq_self, reduceIte, reduceCtorEq, Nat.reduceEqDiff, Nat.reduceAdd]
  have at_ : ∀ {j : Nat} {y : AObj}, j ≠ H.length → F[j]? = some y → (F.set H.length (.cells [.int .i64 n, w] 26 false))[j]? = some y := fun hj hy => by rw [List.getElem?_set_ne (fun e => hj e.symm)]; exact hy
  refine hQ _ _ _ (end_cell3 _ _ _ _ _ _ _ _ (.agg (List.toArray [.int .i64 n, w])) u (.int .i64 e) ?_ rfl ?_ hu.tup ?_ rfl ⟨n, e, w, u, es, T, rfl, ?_, hl, ?_, by omega, ?_⟩)
  · simp (maxSteps := 1000000) (disch := omega) only [ld_agg ag26 cs26 d4, S, S1, S2, S3, S4, S5, ST, eq_self, reduceIte, reduceCtorEq, Nat.reduceEqDiff, Nat.reduceAdd]
  · simp (maxSteps := 1000000) (disch := omega) only [S, S1, S2, S3, S4, S5, ST, eq_self, reduceIte, reduceCtorEq, Nat.reduceEqDiff, Nat.reduceAdd]
  · simp (maxSteps := 1000000) (disch := omega) only [S, S1, S2, S3, S4, S5, ST, eq_self, reduceIte, reduceCtorEq, Nat.reduceEqDiff, Nat.reduceAdd]
  · rcases hwo with e | e
    · exact .inl ⟨e, rD.nilv e⟩
    · exact rF.mono fun y hy => at_ (by omega) hy
  · rcases hul with e | e
    · rcases hu with z | ⟨_, _, _, _, z, _⟩
      · exact .inl z
      · rw [e] at z; cases z
    · exact uF.mono fun y hy => at_ (by omega) hy
  · exact prefix_of fun j y hy => by
      have hj := at_lt hy
      exact at_ (by omega) (kF.2 _ _ (by omega) (kE.2 _ _ (by omega) (pre_at pD (kC.2 _ _ (by omega) (pre_at (pA.trans pB) hy)))))
end Go.Proofs.Ytldcbmmmheookaa.Ai
namespace Go.Proofs.Ytldcbmmmheookaa.Ai
open Go
def ords3 : List (Nat × List (Nat × Bool)) := [(13, [(0, false), (1, false), (2, false), (3, false), (4, false), (5, false), (6, true), (7, false), (8, false), (9, false), (10, false), (11, false)]), (14, [(0, false), (1, false), (2, false), (3, false), (4, false), (6, false), (7, false), (8, false), (9, false), (10, false), (5, true), (11, true), (12, false), (13, false)])]
def cd3 : Cd := (.seq (.reg [⟨⟨some 2, Op.assign (Operand.const (Value.bool false)), none⟩, []⟩]) (.seq (.seq (.reg [⟨⟨some 21, Op.move (Operand.tmp 0), none⟩, []⟩,
  ⟨⟨some 22, Op.call { callee := (Callee.value (Operand.func 7)), args := #[(Operand.tmp 21)], argTypes := #[22] }, none⟩, []⟩]) (.cond (Operand.tmp 22) (.seq (.reg [⟨⟨some 2, Op.assign (Operand.const (Value.bool true)), none⟩, []⟩]) .ret) .skip)) (.seq (.reg [⟨⟨some 24, Op.move (Operand.tmp 0), none⟩, []⟩,
  ⟨⟨some 25, Op.call { callee := (Callee.value (Operand.func 8)), args := #[(Operand.tmp 24)], argTypes := #[22] }, none⟩, []⟩,
  ⟨⟨some 23, Op.move (Operand.tmp 25), none⟩, []⟩,
  ⟨⟨some 26, Op.extract (Operand.tmp 23) 0, none⟩, []⟩,
  ⟨⟨some 27, Op.extract (Operand.tmp 23) 1, none⟩, []⟩,
  ⟨⟨some 28, Op.extract (Operand.tmp 23) 2, none⟩, []⟩,
  ⟨⟨some 3, Op.alloc 26, none⟩, []⟩,
  ⟨⟨none, Op.store 26 (Operand.tmp 3) (Operand.tmp 26), none⟩, []⟩,
  ⟨⟨some 4, Op.assign (Operand.tmp 27), none⟩, []⟩,
  ⟨⟨some 5, Op.assign (Operand.tmp 28), none⟩, []⟩]) (.seq (.reg [⟨⟨some 30, Op.load 26 (Operand.tmp 3), none⟩, []⟩,
  ⟨⟨some 31, Op.move (Operand.tmp 4), none⟩, []⟩,
  ⟨⟨some 32, Op.move (Operand.tmp 5), none⟩, []⟩,
  ⟨⟨some 33, Op.call { callee := (Callee.value (Operand.func 9)), args := #[(Operand.tmp 30), (Operand.tmp 31), (Operand.tmp 32)], argTypes := #[26, 27, 3] }, none⟩, []⟩,
  ⟨⟨some 29, Op.move (Operand.tmp 33), none⟩, []⟩,
  ⟨⟨some 34, Op.extract (Operand.tmp 29) 0, none⟩, []⟩,
  ⟨⟨some 35, Op.extract (Operand.tmp 29) 1, none⟩, []⟩,
  ⟨⟨some 6, Op.assign (Operand.tmp 34), none⟩, []⟩,
  ⟨⟨some 7, Op.assign (Operand.tmp 35), none⟩, []⟩]) (.seq (.reg [⟨⟨some 37, Op.load 26 (Operand.tmp 3), none⟩, []⟩,
  ⟨⟨some 38, Op.move (Operand.tmp 4), none⟩, []⟩,
  ⟨⟨some 39, Op.move (Operand.tmp 5), none⟩, []⟩,
  ⟨⟨some 40, Op.call { callee := (Callee.value (Operand.func 10)), args := #[(Operand.tmp 37), (Operand.tmp 38), (Operand.tmp 39)], argTypes := #[26, 27, 3] }, none⟩, []⟩,
  ⟨⟨some 36, Op.move (Operand.tmp 40), none⟩, []⟩,
  ⟨⟨some 41, Op.extract (Operand.tmp 36) 0, none⟩, []⟩,
  ⟨⟨some 42, Op.extract (Operand.tmp 36) 1, none⟩, []⟩,
  ⟨⟨some 8, Op.assign (Operand.tmp 41), none⟩, []⟩,
  ⟨⟨some 9, Op.assign (Operand.tmp 42), none⟩, []⟩]) (.seq (.reg [⟨⟨some 44, Op.load 26 (Operand.tmp 3), none⟩, []⟩,
  ⟨⟨some 45, Op.move (Operand.tmp 4), none⟩, []⟩,
  ⟨⟨some 46, Op.move (Operand.tmp 5), none⟩, []⟩,
  ⟨⟨some 47, Op.call { callee := (Callee.value (Operand.func 11)), args := #[(Operand.tmp 44), (Operand.tmp 45), (Operand.tmp 46)], argTypes := #[26, 27, 3] }, none⟩, []⟩,
  ⟨⟨some 43, Op.move (Operand.tmp 47), none⟩, []⟩,
  ⟨⟨some 48, Op.extract (Operand.tmp 43) 0, none⟩, []⟩,
  ⟨⟨some 49, Op.extract (Operand.tmp 43) 1, none⟩, []⟩,
  ⟨⟨some 10, Op.assign (Operand.tmp 48), none⟩, []⟩,
  ⟨⟨some 11, Op.assign (Operand.tmp 49), none⟩, []⟩]) (.seq (.reg [⟨⟨some 51, Op.load 26 (Operand.tmp 3), none⟩, []⟩,
  ⟨⟨some 52, Op.move (Operand.tmp 4), none⟩, []⟩,
  ⟨⟨some 53, Op.move (Operand.tmp 5), none⟩, []⟩,
  ⟨⟨some 54, Op.call { callee := (Callee.value (Operand.func 12)), args := #[(Operand.tmp 51), (Operand.tmp 52), (Operand.tmp 53)], argTypes := #[26, 27, 3] }, none⟩, []⟩,
  ⟨⟨some 50, Op.move (Operand.tmp 54), none⟩, []⟩,
  ⟨⟨some 55, Op.extract (Operand.tmp 50) 0, none⟩, []⟩,
  ⟨⟨some 56, Op.extract (Operand.tmp 50) 1, none⟩, []⟩,
  ⟨⟨some 12, Op.assign (Operand.tmp 55), none⟩, []⟩,
  ⟨⟨some 13, Op.assign (Operand.tmp 56), none⟩, []⟩]) (.seq (.seq (.reg [⟨⟨some 57, Op.move (Operand.tmp 7), none⟩, []⟩,
  ⟨⟨some 58, Op.move (Operand.tmp 9), none⟩, []⟩,
  ⟨⟨some 59, Op.binOp BinOp.neq 4 (Operand.tmp 57) (Operand.tmp 58) 4, none⟩, []⟩,
  ⟨⟨some 60, Op.move (Operand.tmp 59), none⟩, []⟩,
  ⟨⟨some 61, Op.move (Operand.tmp 6), some (60, false)⟩, []⟩,
  ⟨⟨some 62, Op.move (Operand.tmp 8), some (60, false)⟩, []⟩,
  ⟨⟨some 63, Op.call { callee := (Callee.value (Operand.func 13)), args := #[(Operand.tmp 61), (Operand.tmp 62)], argTypes := #[27, 27] }, some (60, false)⟩, []⟩,
  ⟨⟨some 64, Op.unOp UnOp.not 4 (Operand.tmp 63), some (60, false)⟩, []⟩,
  ⟨⟨some 65, Op.pick (Operand.tmp 60) (Operand.const (Value.bool true)) (Operand.tmp 64), none⟩, []⟩,
  ⟨⟨some 66, Op.move (Operand.tmp 65), none⟩, []⟩,
  ⟨⟨some 67, Op.move (Operand.tmp 11), some (66, false)⟩, []⟩,
  ⟨⟨some 68, Op.move (Operand.tmp 13), some (66, false)⟩, []⟩,
  ⟨⟨some 69, Op.binOp BinOp.neq 4 (Operand.tmp 67) (Operand.tmp 68) 4, some (66, false)⟩, []⟩,
  ⟨⟨some 70, Op.pick (Operand.tmp 66) (Operand.const (Value.bool true)) (Operand.tmp 69), none⟩, []⟩,
  ⟨⟨some 71, Op.move (Operand.tmp 70), none⟩, []⟩,
  ⟨⟨some 72, Op.move (Operand.tmp 10), some (71, false)⟩, []⟩,
  ⟨⟨some 73, Op.move (Operand.tmp 12), some (71, false)⟩, []⟩,
  ⟨⟨some 74, Op.call { callee := (Callee.value (Operand.func 13)), args := #[(Operand.tmp 72), (Operand.tmp 73)], argTypes := #[27, 27] }, some (71, false)⟩, []⟩,
  ⟨⟨some 75, Op.unOp UnOp.not 4 (Operand.tmp 74), some (71, false)⟩, []⟩,
  ⟨⟨some 76, Op.pick (Operand.tmp 71) (Operand.const (Value.bool true)) (Operand.tmp 75), none⟩, []⟩,
  ⟨⟨some 77, Op.move (Operand.tmp 76), none⟩, []⟩,
  ⟨⟨some 78, Op.move (Operand.tmp 7), some (77, false)⟩, []⟩,
  ⟨⟨some 79, Op.move (Operand.tmp 78), some (77, false)⟩, []⟩,
  ⟨⟨some 80, Op.move (Operand.tmp 11), some (79, true)⟩, []⟩,
  ⟨⟨some 81, Op.pick (Operand.tmp 79) (Operand.tmp 80) (Operand.const (Value.bool false)), some (77, false)⟩, []⟩,
  ⟨⟨some 82, Op.pick (Operand.tmp 77) (Operand.const (Value.bool true)) (Operand.tmp 81), none⟩, []⟩]) (.cond (Operand.tmp 82) (.seq (.reg [⟨⟨some 2, Op.assign (Operand.const (Value.bool false)), none⟩, []⟩]) .ret) .skip)) (.seq (.seq (.reg [⟨⟨some 14, Op.assign (Operand.const (Value.int IntKind.i64 0)), none⟩, []⟩]) (.block 0 (.loop (.seq (.seq (.reg [⟨⟨some 83, Op.move (Operand.tmp 7), none⟩, []⟩,
  ⟨⟨some 84, Op.move (Operand.tmp 83), none⟩, []⟩,
  ⟨⟨some 85, Op.move (Operand.tmp 14), some (84, true)⟩, []⟩,
  ⟨⟨some 86, Op.move (Operand.tmp 4), some (84, true)⟩, []⟩,
  ⟨⟨some 87, Op.call { callee := (Callee.builtin Builtin.len), args := #[(Operand.tmp 86)], argTypes := #[27] }, some (84, true)⟩, []⟩,
  ⟨⟨some 88, Op.binOp BinOp.lss 3 (Operand.tmp 85) (Operand.tmp 87) 3, some (84, true)⟩, []⟩,
  ⟨⟨some 89, Op.pick (Operand.tmp 84) (Operand.tmp 88) (Operand.const (Value.bool false)), none⟩, []⟩]) (.cond (Operand.tmp 89) .skip (.exit 0))) (.seq (.block 1 (.seq (.reg [⟨⟨some 93, Op.load 26 (Operand.tmp 3), none⟩, []⟩,
  ⟨⟨some 94, Op.move (Operand.tmp 4), none⟩, []⟩,
  ⟨⟨some 95, Op.move (Operand.tmp 4), none⟩, []⟩,
  ⟨⟨some 96, Op.move (Operand.tmp 14), none⟩, []⟩,
  ⟨⟨some 97, Op.indexAddr 27 (Operand.tmp 95) (Operand.tmp 96), none⟩, []⟩,
  ⟨⟨some 98, Op.load 3 (Operand.tmp 97), none⟩, []⟩,
  ⟨⟨some 99, Op.call { callee := (Callee.value (Operand.func 11)), args := #[(Operand.tmp 93), (Operand.tmp 94), (Operand.tmp 98)], argTypes := #[26, 27, 3] }, none⟩, []⟩,
  ⟨⟨some 92, Op.move (Operand.tmp 99), none⟩, []⟩,
  ⟨⟨some 100, Op.extract (Operand.tmp 92) 0, none⟩, []⟩,
  ⟨⟨some 101, Op.extract (Operand.tmp 92) 1, none⟩, []⟩,
  ⟨⟨some 15, Op.assign (Operand.tmp 100), none⟩, []⟩,
  ⟨⟨some 16, Op.assign (Operand.tmp 101), none⟩, []⟩]) (.seq (.seq (.reg [⟨⟨some 102, Op.move (Operand.tmp 16), none⟩, []⟩,
  ⟨⟨some 103, Op.unOp UnOp.not 4 (Operand.tmp 102), none⟩, []⟩,
  ⟨⟨some 104, Op.move (Operand.tmp 103), none⟩, []⟩,
  ⟨⟨some 105, Op.move (Operand.tmp 15), some (104, false)⟩, []⟩,
  ⟨⟨some 106, Op.move (Operand.tmp 5), some (104, false)⟩, []⟩,
  ⟨⟨some 108, Op.move (Operand.tmp 6), some (104, false)⟩, []⟩,
  ⟨⟨some 109, Op.move (Operand.tmp 4), some (104, false)⟩, []⟩,
  ⟨⟨some 110, Op.move (Operand.tmp 14), some (104, false)⟩, []⟩,
  ⟨⟨some 111, Op.indexAddr 27 (Operand.tmp 109) (Operand.tmp 110), some (104, false)⟩, []⟩,
  ⟨⟨some 112, Op.load 3 (Operand.tmp 111), some (104, false)⟩, []⟩,
  ⟨⟨some 107, Op.call { callee := (Callee.value (Operand.func 14)), args := #[(Operand.tmp 105), (Operand.tmp 106)], argTypes := #[27, 3] }, some (104, false)⟩, [⟨some 112, Op.load 3 (Operand.tmp 111), some (104, false)⟩]⟩,
  ⟨⟨some 113, Op.call { callee := (Callee.value (Operand.func 14)), args := #[(Operand.tmp 108), (Operand.tmp 112)], argTypes := #[27, 3] }, some (104, false)⟩, []⟩,
  ⟨⟨some 114, Op.binOp BinOp.neq 4 (Operand.tmp 107) (Operand.tmp 113) 4, some (104, false)⟩, []⟩,
  ⟨⟨some 115, Op.pick (Operand.tmp 104) (Operand.const (Value.bool true)) (Operand.tmp 114), none⟩, []⟩]) (.cond (Operand.tmp 115) (.seq (.reg [⟨⟨some 2, Op.assign (Operand.const (Value.bool false)), none⟩, []⟩]) .ret) .skip)) (.seq (.reg [⟨⟨some 116, Op.buildSlice 27 0 #[], none⟩, []⟩,
  ⟨⟨some 17, Op.assign (Operand.tmp 116), none⟩, []⟩]) (.seq (.seq (.reg [⟨⟨some 18, Op.assign (Operand.const (Value.int IntKind.i64 0)), none⟩, []⟩]) (.block 2 (.loop (.seq (.seq (.reg [⟨⟨some 117, Op.move (Operand.tmp 18), none⟩, []⟩,
  ⟨⟨some 118, Op.fieldAddr 26 (Operand.tmp 3) 1, none⟩, []⟩,
  ⟨⟨some 119, Op.load 24 (Operand.tmp 118), none⟩, []⟩,
  ⟨⟨some 120, Op.call { callee := (Callee.builtin Builtin.len), args := #[(Operand.tmp 119)], argTypes := #[24] }, none⟩, []⟩,
  ⟨⟨some 121, Op.binOp BinOp.lss 3 (Operand.tmp 117) (Operand.tmp 120) 3, none⟩, []⟩]) (.cond (Operand.tmp 121) .skip (.exit 2))) (.seq (.block 3 (.seq (.reg [⟨⟨some 124, Op.move (Operand.tmp 18), none⟩, []⟩,
  ⟨⟨some 125, Op.move (Operand.tmp 5), none⟩, []⟩,
  ⟨⟨some 126, Op.binOp BinOp.eql 3 (Operand.tmp 124) (Operand.tmp 125) 3, none⟩, []⟩,
  ⟨⟨some 127, Op.move (Operand.tmp 126), none⟩, []⟩,
  ⟨⟨some 128, Op.move (Operand.tmp 18), some (127, false)⟩, []⟩,
  ⟨⟨some 129, Op.move (Operand.tmp 4), some (127, false)⟩, []⟩,
  ⟨⟨some 130, Op.move (Operand.tmp 14), some (127, false)⟩, []⟩,
  ⟨⟨some 131, Op.indexAddr 27 (Operand.tmp 129) (Operand.tmp 130), some (127, false)⟩, []⟩,
  ⟨⟨some 132, Op.load 3 (Operand.tmp 131), some (127, false)⟩, []⟩,
  ⟨⟨some 133, Op.binOp BinOp.neq 3 (Operand.tmp 128) (Operand.tmp 132) 3, some (127, false)⟩, []⟩,
  ⟨⟨some 134, Op.move (Operand.tmp 133), some (127, false)⟩, []⟩,
  ⟨⟨some 135, Op.move (Operand.tmp 4), some (134, true)⟩, []⟩,
  ⟨⟨some 136, Op.move (Operand.tmp 18), some (134, true)⟩, []⟩,
  ⟨⟨some 137, Op.call { callee := (Callee.value (Operand.func 14)), args := #[(Operand.tmp 135), (Operand.tmp 136)], argTypes := #[27, 3] }, some (134, true)⟩, []⟩,
  ⟨⟨some 138, Op.pick (Operand.tmp 134) (Operand.tmp 137) (Operand.const (Value.bool false)), some (127, false)⟩, []⟩,
  ⟨⟨some 139, Op.pick (Operand.tmp 127) (Operand.const (Value.bool true)) (Operand.tmp 138), none⟩, []⟩]) (.cond (Operand.tmp 139) (.reg [⟨⟨some 140, Op.move (Operand.tmp 17), none⟩, []⟩,
  ⟨⟨some 141, Op.move (Operand.tmp 18), none⟩, []⟩,
  ⟨⟨some 142, Op.buildSlice 27 1 #[(0, (Operand.tmp 141))], none⟩, []⟩,
  ⟨⟨some 143, Op.call { callee := (Callee.builtin Builtin.append), args := #[(Operand.tmp 140), (Operand.tmp 142)], argTypes := #[27, 27] }, none⟩, []⟩,
  ⟨⟨some 17, Op.assign (Operand.tmp 143), none⟩, []⟩]) .skip))) (.reg [⟨⟨some 122, Op.move (Operand.tmp 18), none⟩, []⟩,
  ⟨⟨some 123, Op.binOp BinOp.add 3 (Operand.tmp 122) (Operand.const (Value.int IntKind.i64 1)) 3, none⟩, []⟩,
  ⟨⟨some 18, Op.assign (Operand.tmp 123), none⟩, []⟩])))))) (.seq (.reg [⟨⟨some 145, Op.load 26 (Operand.tmp 3), none⟩, []⟩,
  ⟨⟨some 146, Op.move (Operand.tmp 17), none⟩, []⟩,
  ⟨⟨some 147, Op.call { callee := (Callee.value (Operand.func 15)), args := #[(Operand.tmp 145), (Operand.tmp 146)], argTypes := #[26, 27] }, none⟩, []⟩,
  ⟨⟨some 144, Op.move (Operand.tmp 147), none⟩, []⟩,
  ⟨⟨some 148, Op.extract (Operand.tmp 144) 0, none⟩, []⟩,
  ⟨⟨some 149, Op.extract (Operand.tmp 144) 1, none⟩, []⟩,
  ⟨⟨some 19, Op.assign (Operand.tmp 148), none⟩, []⟩,
  ⟨⟨some 20, Op.assign (Operand.tmp 149), none⟩, []⟩]) (.seq (.reg [⟨⟨some 150, Op.move (Operand.tmp 20), none⟩, []⟩,
  ⟨⟨some 151, Op.unOp UnOp.not 4 (Operand.tmp 150), none⟩, []⟩,
  ⟨⟨some 152, Op.move (Operand.tmp 151), none⟩, []⟩,
  ⟨⟨some 153, Op.move (Operand.tmp 19), some (152, false)⟩, []⟩,
  ⟨⟨some 154, Op.move (Operand.tmp 6), some (152, false)⟩, []⟩,
  ⟨⟨some 155, Op.move (Operand.tmp 4), some (152, false)⟩, []⟩,
  ⟨⟨some 156, Op.move (Operand.tmp 14), some (152, false)⟩, []⟩,
  ⟨⟨some 157, Op.indexAddr 27 (Operand.tmp 155) (Operand.tmp 156), some (152, false)⟩, []⟩,
  ⟨⟨some 158, Op.load 3 (Operand.tmp 157), some (152, false)⟩, []⟩,
  ⟨⟨some 159, Op.call { callee := (Callee.value (Operand.func 14)), args := #[(Operand.tmp 154), (Operand.tmp 158)], argTypes := #[27, 3] }, some (152, false)⟩, []⟩,
  ⟨⟨some 160, Op.binOp BinOp.neq 4 (Operand.tmp 153) (Operand.tmp 159) 4, some (152, false)⟩, []⟩,
  ⟨⟨some 161, Op.pick (Operand.tmp 152) (Operand.const (Value.bool true)) (Operand.tmp 160), none⟩, []⟩]) (.cond (Operand.tmp 161) (.seq (.reg [⟨⟨some 2, Op.assign (Operand.const (Value.bool false)), none⟩, []⟩]) .ret) .skip)))))))) (.reg [⟨⟨some 90, Op.move (Operand.tmp 14), none⟩, []⟩,
  ⟨⟨some 91, Op.binOp BinOp.add 3 (Operand.tmp 90) (Operand.const (Value.int IntKind.i64 1)) 3, none⟩, []⟩,
  ⟨⟨some 14, Op.assign (Operand.tmp 91), none⟩, []⟩])))))) (.seq (.reg [⟨⟨some 162, Op.move (Operand.tmp 11), none⟩, []⟩,
  ⟨⟨some 163, Op.unOp UnOp.not 4 (Operand.tmp 162), none⟩, []⟩,
  ⟨⟨some 164, Op.move (Operand.tmp 163), none⟩, []⟩,
  ⟨⟨some 165, Op.move (Operand.tmp 10), some (164, false)⟩, []⟩,
  ⟨⟨some 166, Op.move (Operand.tmp 5), some (164, false)⟩, []⟩,
  ⟨⟨some 167, Op.call { callee := (Callee.value (Operand.func 14)), args := #[(Operand.tmp 165), (Operand.tmp 166)], argTypes := #[27, 3] }, some (164, false)⟩, []⟩,
  ⟨⟨some 168, Op.pick (Operand.tmp 164) (Operand.const (Value.bool true)) (Operand.tmp 167), none⟩, []⟩,
  ⟨⟨some 2, Op.assign (Operand.tmp 168), none⟩, []⟩]) .ret))))))))))
theorem sl3 : slim Try.f3.ntmps ords3 (Try.f3.body.getD .skip) = some cd3 := by kernel_rfl
theorem in3 {args : List Value} {H : AH} {R : Value → AH → Prop} (hl : args.length = 1) (h : ∀ (Q : Exit → Sl → AH → Prop), (∀ e s H, endA Try.prog [ResultVar.tmp 2] R e s H → Q e s H) → wpC Try.prog cd3 Q (enterA args) H) : ACalls Try.prog 3 args H R :=
  ACalls.intro (by kernel_rfl) Try.func3 rfl (by kernel_rfl) sl3 hl (of_decide_eq_true (by kernel_rfl)) (by kernel_rfl) h
end Go.Proofs.Ytldcbmmmheookaa.Ai
namespace Go.Proofs.Ytldcbmmmheookaa.Ai
open Go Go.RowKit
set_option linter.unusedVariables false
set_option linter.unusedSimpArgs false
theorem ciR_len (n : Int) (es : List (Int × Int)) (T : List Int) (e : Int) (h : T.length ≤ 1000) : (ciR n es T e).length ≤ 2000 := by
  unfold ciR
  split
  · unfold crcL
    have h1 := put_len (cirL n.toNat es T e) e
    have h2 : (cirL n.toNat es T e).length ≤ T.length := List.length_filter_le _ _
    omega
  · simp
theorem cutL_len (n : Nat) (es : List (Int × Int)) (T : List Int) (e : Int) : (cutL n es T e).length ≤ es.length := by
  unfold cutL; exact Nat.le_trans (List.length_filter_le _ _) (by rw [alls_len]; exact Nat.le_refl _)
theorem cuR_len (n : Int) (es : List (Int × Int)) (T : List Int) (e : Int) (h : es.length ≤ 1000) : (cuR n es T e).length ≤ 2000 := by
  unfold cuR
  split
  · have := cutL_len n.toNat es T e; omega
  · simp
set_option maxRecDepth 20000 in
set_option maxHeartbeats 16000000 in
theorem crlLaw_c (va : Value) (us : List Value) (H : AH) (hr : RowV 5 H va us) (hb : ∀ i, i < us.length → ∃ b : Nat, us.getD i undef = .int .u8 (b : Int) ∧ b < 256) (hl : (us.length : Int) ≤ 9223372036854775807) :
    ACalls Try.prog 3 [va] H fun r H' => r = .bool true := by
  refine in3 rfl ?_
  intro Q hQ
  rw [cd3]
  refine cutC (fun s H' => s 0 = va ∧ H = H') (fun c hc => ?_) ?_
  · simp (maxSteps := 1000000) (disch := omega) only [S, S1, S2, S3, S4, S5, ST, eq_self, reduceIte, reduceCtorEq, Nat.reduceEqDiff, Nat.reduceAdd]
    exact hc _ _ ⟨rfl, rfl⟩
  rintro s _ ⟨h0, rfl⟩
  refine cutC (fun s H' => s 0 = va ∧ Byt H' va us) (fun c hc => ?_) ?_
  · simp (maxSteps := 1000000) (disch := omega) only [h0, S, S1, S2, S3, S4, S5, ST, eq_self, reduceIte, reduceCtorEq, Nat.reduceEqDiff, Nat.reduceAdd]
    refine CallH.by (vBig_c hr hl) ?_
    rintro _ _ ⟨rfl, rfl⟩
    simp (maxSteps := 1000000) (disch := omega) only [S, S1, S2, S3, S4, S5, ST, eq_self, reduceIte, reduceCtorEq, Nat.reduceEqDiff, Nat.reduceAdd]
    refine brD.intro (fun g => ?_) (fun g => ?_)
    · simp (maxSteps := 1000000) (disch := omega) only [S, S1, S2, S3, S4, S5, ST, eq_self, reduceIte, reduceCtorEq, Nat.reduceEqDiff, Nat.reduceAdd]
      refine hQ _ _ _ ?_
      simp (maxSteps := 1000000) (disch := omega) only [S, S1, S2, S3, S4, S5, ST, eq_self, reduceIte, reduceCtorEq, Nat.reduceEqDiff, Nat.reduceAdd]
    · simp (maxSteps := 1000000) (disch := omega) only [S, S1, S2, S3, S4, S5, ST, eq_self, reduceIte, reduceCtorEq, Nat.reduceEqDiff, Nat.reduceAdd]
      exact hc _ _ ⟨h0, hr, hb, by omega⟩
  clear h0 hr hb hl s H
  rintro s H ⟨h0, hby⟩
  refine cutC (fun s H' => ∃ (gp : Nat) (n e : Int) (w u : Value) (es : List (Int × Int)) (T : List Int), s 3 = .pointer (some ⟨gp, 0, none⟩) ∧ H'[gp]? = some (.cells [.int .i64 n, w] 26 false) ∧ s 4 = u ∧ s 5 = .int .i64 e ∧ RowP 71 H' w es ∧ es.length ≤ 200 ∧ Row 3 H' u T ∧ T.length ≤ 100) (fun c hc => ?_) ?_
  · simp (maxSteps := 1000000) (disch := omega) only [h0, S, S1, S2, S3, S4, S5, ST, eq_self, reduceIte, reduceCtorEq, Nat.reduceEqDiff, Nat.reduceAdd]
    refine CallH.by (DrawCircle_c hby) ?_
    rintro _ K ⟨n, e, w, u, es, T, rfl, hw, hel, hu, htl, pK⟩
    have st := st_G hw (at_new K (.cells [.int .i64 0, .slice none 0 0] 26 false)) rfl n
    rw [set_new] at st
    have p2 : K <+: K ++ [AObj.cells [.int .i64 n, w] 26 false] := List.prefix_append _ _
    simp (maxSteps := 1000000) (disch := omega) only [alloc_G, st, S, S1, S2, S3, S4, S5, ST, eq_self, reduceIte, reduceCtorEq, Nat.reduceEqDiff, Nat.reduceAdd]
    exact hc _ _ ⟨K.length, n, e, w, u, es, T, rfl, at_new .., rfl, rfl, hw.pre p2, hel, hu.pre p2, htl⟩
  clear h0 hby s H
  rintro s H ⟨gp, n, e, w, u, es, T, s3, cg, s4, s5, hw, hel, hu, htl⟩
  refine cutC (fun s H' => s 3 = .pointer (some ⟨gp, 0, none⟩) ∧ s 4 = u ∧ s 5 = .int .i64 e ∧ s 7 = .bool (decide (CiOk n es T e)) ∧ (∃ c1, s 6 = c1 ∧ Row 3 H' c1 (ciR n es T e)) ∧ H <+: H') (fun c hc => ?_) ?_
  · simp (maxSteps := 1000000) (disch := omega) only [s3, s4, s5, ld_agg ag26 cs26 cg, S, S1, S2, S3, S4, S5, ST, eq_self, reduceIte, reduceCtorEq, Nat.reduceEqDiff, Nat.reduceAdd]
    refine CallH.by (CiI_c n w u es T e H hw (by omega) hu (by omega)) ?_
    rintro _ K ⟨g, rfl, hg, pK⟩
    simp (maxSteps := 1000000) (disch := omega) only [s3, s4, s5, S, S1, S2, S3, S4, S5, ST, eq_self, reduceIte, reduceCtorEq, Nat.reduceEqDiff, Nat.reduceAdd]
    exact hc _ _ ⟨s3, s4, s5, rfl, ⟨g, rfl, hg.row⟩, pK⟩
  rintro s K ⟨s3, s4, s5, s7, ⟨c1, s6, r1⟩, pK⟩
  have cgK := pre_at pK cg
  have hwK := hw.pre pK
  have huK := hu.pre pK
  clear cg hw hu pK H
  refine cutC (fun s H' => s 3 = .pointer (some ⟨gp, 0, none⟩) ∧ s 4 = u ∧ s 5 = .int .i64 e ∧ s 6 = c1 ∧ s 7 = .bool (decide (CiOk n es T e)) ∧ s 9 = .bool (decide (CiOk n es T e)) ∧ (∃ c2, s 8 = c2 ∧ Row 3 H' c2 (ciR n es T e)) ∧ K <+: H') (fun c hc => ?_) ?_
  · simp (maxSteps := 1000000) (disch := omega) only [s3, s4, s5, s6, s7, ld_agg ag26 cs26 cgK, S, S1, S2, S3, S4, S5, ST, eq_self, reduceIte, reduceCtorEq, Nat.reduceEqDiff, Nat.reduceAdd]
    refine CallH.by (CiS_c n w u es T e K hwK (by omega) huK (by omega)) ?_
    rintro _ L ⟨g, rfl, hg, pL⟩
    simp (maxSteps := 1000000) (disch := omega) only [s3, s4, s5, s6, s7, S, S1, S2, S3, S4, S5, ST, eq_self, reduceIte, reduceCtorEq, Nat.reduceEqDiff, Nat.reduceAdd]
    exact hc _ _ ⟨s3, s4, s5, s6, s7, rfl, ⟨g, rfl, hg.row⟩, pL⟩
  clear s3 s4 s5 s6 s7 s
  rintro s L ⟨s3, s4, s5, s6, s7, s9, ⟨c2, s8, r2⟩, pL⟩
  have cgL := pre_at pL cgK
  have hwL := hwK.pre pL
  have huL := huK.pre pL
  have r1L := r1.pre pL
  clear cgK hwK huK r1 pL K
  refine cutC (fun s H' => s 3 = .pointer (some ⟨gp, 0, none⟩) ∧ s 4 = u ∧ s 5 = .int .i64 e ∧ s 6 = c1 ∧ s 7 = .bool (decide (CiOk n es T e)) ∧ s 8 = c2 ∧ s 9 = .bool (decide (CiOk n es T e)) ∧ s 11 = .bool (decide (CuOk n es T e)) ∧ (∃ c3, s 10 = c3 ∧ Row 3 H' c3 (cuR n es T e)) ∧ L <+: H') (fun c hc => ?_) ?_
  · simp (maxSteps := 1000000) (disch := omega) only [s3, s4, s5, s6, s7, s8, s9, ld_agg ag26 cs26 cgL, S, S1, S2, S3, S4, S5, ST, eq_self, reduceIte, reduceCtorEq, Nat.reduceEqDiff, Nat.reduceAdd]
    refine CallH.by (CuI_c n w u es T e L hwL (by omega) huL (by omega)) ?_
    rintro _ M ⟨g, rfl, hg, pM⟩
    simp (maxSteps := 1000000) (disch := omega) only [s3, s4, s5, s6, s7, s8, s9, S, S1, S2, S3, S4, S5, ST, eq_self, reduceIte, reduceCtorEq, Nat.reduceEqDiff, Nat.reduceAdd]
    exact hc _ _ ⟨s3, s4, s5, s6, s7, s8, s9, rfl, ⟨g, rfl, hg.row⟩, pM⟩
  clear s3 s4 s5 s6 s7 s8 s9 s
  rintro s M ⟨s3, s4, s5, s6, s7, s8, s9, s11, ⟨c3, s10, r3⟩, pM⟩
  have cgM := pre_at pM cgL
  have hwM := hwL.pre pM
  have huM := huL.pre pM
  have r1M := r1L.pre pM
  have r2M := r2.pre pM
  clear cgL hwL huL r1L r2 pM L
  refine cutC (fun s H' => s 3 = .pointer (some ⟨gp, 0, none⟩) ∧ s 4 = u ∧ s 5 = .int .i64 e ∧ s 6 = c1 ∧ s 7 = .bool (decide (CiOk n es T e)) ∧ s 8 = c2 ∧ s 9 = .bool (decide (CiOk n es T e)) ∧ s 10 = c3 ∧ s 11 = .bool (decide (CuOk n es T e)) ∧ s 13 = .bool (decide (CuOk n es T e)) ∧ (∃ c4, s 12 = c4 ∧ Row 3 H' c4 (cuR n es T e)) ∧ M <+: H') (fun c hc => ?_) ?_
  · simp (maxSteps := 1000000) (disch := omega) only [s3, s4, s5, s6, s7, s8, s9, s10, s11, ld_agg ag26 cs26 cgM, S, S1, S2, S3, S4, S5, ST, eq_self, reduceIte, reduceCtorEq, Nat.reduceEqDiff, Nat.reduceAdd]
    refine CallH.by (CuS_c n w u es T e M hwM (by omega) huM (by omega)) ?_
    rintro _ P ⟨g, rfl, hg, pP⟩
    simp (maxSteps := 1000000) (disch := omega) only [s3, s4, s5, s6, s7, s8, s9, s10, s11, S, S1, S2, S3, S4, S5, ST, eq_self, reduceIte, reduceCtorEq, Nat.reduceEqDiff, Nat.reduceAdd]
    exact hc _ _ ⟨s3, s4, s5, s6, s7, s8, s9, s10, s11, rfl, ⟨g, rfl, hg.row⟩, pP⟩
  clear s3 s4 s5 s6 s7 s8 s9 s10 s11 s
  rintro s P ⟨s3, s4, s5, s6, s7, s8, s9, s10, s11, s13, ⟨c4, s12, r4⟩, pP⟩
  have cg := pre_at pP cgM
  have hw := hwM.pre pP
  have hu := huM.pre pP
  have q1 := r1M.pre pP
  have q2 := r2M.pre pP
  have q3 := r3.pre pP
  clear cgM hwM huM r1M r2M r3 pP M
  have l1 := ciR_len n es T e (by omega)
  have l2 := cuR_len n es T e (by omega)
  have hno : CiOk n es T e → ¬ CuOk n es T e := fun h1 h2 => h1.2 h2.2
  refine cutC (fun s H' => s 3 = .pointer (some ⟨gp, 0, none⟩) ∧ s 4 = u ∧ s 5 = .int .i64 e ∧ s 6 = c1 ∧ s 7 = .bool (decide (CiOk n es T e)) ∧ s 10 = c3 ∧ s 11 = .bool (decide (CuOk n es T e)) ∧ P = H') (fun c hc => ?_) ?_
  · simp (maxSteps := 1000000) (disch := omega) only [s3, s4, s5, s6, s7, s8, s9, s10, s11, s12, s13, S, S1, S2, S3, S4, S5, ST, eq_self, reduceIte, reduceCtorEq, Nat.reduceEqDiff, Nat.reduceAdd]
    refine CallH.by (vInts_c c1 c2 _ P q1 q2 (by omega)) ?_
    rintro _ _ ⟨rfl, rfl⟩
    simp (maxSteps := 1000000) (disch := omega) only [s3, s4, s5, s6, s7, s8, s9, s10, s11, s12, s13, S, S1, S2, S3, S4, S5, ST, eq_self, reduceIte, reduceCtorEq, Nat.reduceEqDiff, Nat.reduceAdd]
    refine CallH.by (vInts_c c3 c4 _ P q3 r4 (by omega)) ?_
    rintro _ _ ⟨rfl, rfl⟩
    by_cases hci : CiOk n es T e
    · simp (maxSteps := 1000000) (disch := omega) only [s3, s4, s5, s6, s7, s8, s9, s10, s11, s12, s13, decide_eq_true hci, decide_eq_false (hno hci), S, S1, S2, S3, S4, S5, ST, eq_self, reduceIte, reduceCtorEq, Nat.reduceEqDiff, Nat.reduceAdd]
      exact hc _ _ ⟨s3, s4, s5, s6, s7, s10, s11, rfl⟩
    · simp (maxSteps := 1000000) (disch := omega) only [s3, s4, s5, s6, s7, s8, s9, s10, s11, s12, s13, decide_eq_false hci, S, S1, S2, S3, S4, S5, ST, eq_self, reduceIte, reduceCtorEq, Nat.reduceEqDiff, Nat.reduceAdd]
      exact hc _ _ ⟨s3, s4, s5, s6, s7, s10, s11, rfl⟩
  clear s3 s4 s5 s6 s7 s8 s9 s10 s11 s12 s13 s r4 q2
  rintro s _ ⟨s3, s4, s5, s6, s7, s10, s11, rfl⟩
  refine cutC (fun s H' => s 5 = .int .i64 e ∧ s 10 = c3 ∧ s 11 = .bool (decide (CuOk n es T e)) ∧ P <+: H') (fun c hc => ?_) ?_
  · simp (maxSteps := 1000000) (disch := omega) only [s3, s4, s5, s6, s7, s10, s11, S, S1, S2, S3, S4, S5, ST, eq_self, reduceIte, reduceCtorEq, Nat.reduceEqDiff, Nat.reduceAdd]
    refine LoopH.by (fun m s H' => ∃ i : Nat, m + i = T.length ∧ s 3 = .pointer (some ⟨gp, 0, none⟩) ∧ s 4 = u ∧ s 5 = .int .i64 e ∧ s 6 = c1 ∧ s 7 = .bool (decide (CiOk n es T e)) ∧ s 10 = c3 ∧ s 11 = .bool (decide (CuOk n es T e)) ∧ s 14 = .int .i64 (i : Int) ∧ P <+: H') T.length ?_ ?_
    · refine ⟨0, by simp, ?_⟩
      have f1 := List.prefix_refl P
      simp (maxSteps := 1000000) (disch := omega) only [s3, s4, s5, s6, s7, s10, s11, S, S1, S2, S3, S4, S5, ST, eq_self, reduceIte, reduceCtorEq, Nat.reduceEqDiff, Nat.reduceAdd]
      (repeat' first | exact f1 | apply And.intro) <;> first | (simp only [Value.int.injEq, true_and]; omega) | omega | rfl | assumption | (simp; done) | (simp; omega)
    clear s3 s4 s5 s6 s7 s10 s11 s
    rintro m s K ⟨i, hm, s3, s4, s5, s6, s7, s10, s11, s14, pK⟩
    have cK := pre_at pK cg
    have wK := hw.pre pK
    have uK := hu.pre pK
    have c1K := q1.pre pK
    by_cases hci : CiOk n es T e
    rotate_left
    · simp (maxSteps := 1000000) (disch := omega) only [s3, s4, s5, s6, s7, s10, s11, s14, decide_eq_false hci, S, S1, S2, S3, S4, S5, ST, eq_self, reduceIte, reduceCtorEq, Nat.reduceEqDiff, Nat.reduceAdd]
      exact hc _ _ ⟨s5, s10, s11, pK⟩
    have hci' := hci
    obtain ⟨⟨⟨⟨hg, hn⟩, hT⟩, he⟩, heT⟩ := hci'
    obtain ⟨N, rfl⟩ : ∃ N : Nat, n = N := ⟨n.toNat, by omega⟩
    rw [Int.toNat_natCast] at hT
    have h28 : es.length ≤ 28 := grd_len hg
    simp (maxSteps := 1000000) (disch := omega) only [s3, s4, s5, s6, s7, s10, s11, s14, decide_eq_true hci, uK.len Try.underlying27, S, S1, S2, S3, S4, S5, ST, eq_self, reduceIte, reduceCtorEq, Nat.reduceEqDiff, Nat.reduceAdd]
    refine brD.intro (fun g => ?_) (fun g => ?_)
    rotate_left
    · simp (maxSteps := 1000000) (disch := omega) only [S, S1, S2, S3, S4, S5, ST, eq_self, reduceIte, reduceCtorEq, Nat.reduceEqDiff, Nat.reduceAdd]
      exact hc _ _ ⟨s5, s10, s11, pK⟩
    have hi : i < T.length := by omega
    have hcx := uK.cell hi
    have hxm : T.getD i 0 ∈ T := by simp [hi]
    obtain ⟨x, hx⟩ : ∃ x, x = T.getD i 0 := ⟨_, rfl⟩
    rw [← hx] at hcx hxm
    have hxr := hT.2.2.1 x hxm
    have hcu : CuOk (N : Int) es T x := ⟨⟨⟨⟨hg, hn⟩, by rw [Int.toNat_natCast]; exact hT⟩, hxr⟩, hxm⟩
    have hcuR : cuR (N : Int) es T x = cutL N es T x := by unfold cuR; rw [if_pos hcu, Int.toNat_natCast]
    have hciR : ciR (N : Int) es T e = crcL N es T e := by unfold ciR; rw [if_pos hci, Int.toNat_natCast]
    rw [hciR] at c1K l1
    have hmem : x ∈ crcL N es T e ↔ x ∈ cirL N es T e := by
      unfold crcL
      rw [put_mem]
      exact ⟨fun h => h.resolve_left fun q => heT (q ▸ hxm), .inr⟩
    have hdual : e ∈ cutL N es T x ↔ x ∈ crcL N es T e := by
      rw [hmem, cir_cut hg hT.2.2.1 he]
      unfold cirL
      rw [List.mem_filter]
      exact ⟨fun h => ⟨hxm, h⟩, fun h => h.2⟩
    simp (maxSteps := 1000000) (disch := omega) only [s3, s4, s5, s6, s7, s10, s11, s14, ld_agg ag26 cs26 cK, uK.ix Try.underlying27 cs3, Int.toNat_natCast, hcx, S, S1, S2, S3, S4, S5, ST, eq_self, reduceIte, reduceCtorEq, Nat.reduceEqDiff, Nat.reduceAdd]
    refine CallH.by (CuI_c (N : Int) w u es T x K wK (by omega) uK (by omega)) ?_
    rintro _ L ⟨g1, rfl, hg1, pL⟩
    rw [hcuR] at hg1
    have uL := uK.pre pL
    have c1L := c1K.pre pL
    have hcxL := uL.cell hi
    rw [← hx] at hcxL
    have lc := cutL_len N es T x
    simp (maxSteps := 1000000) (disch := omega) only [decide_eq_true hcu, s3, s4, s5, s6, s7, s10, s11, s14, uL.ix Try.underlying27 cs3, Int.toNat_natCast, hcxL, S, S1, S2, S3, S4, S5, ST, eq_self, reduceIte, reduceCtorEq, Nat.reduceEqDiff, Nat.reduceAdd]
    refine CallH.by (vHas_c g1 _ e L hg1.row (by omega)) ?_
    rintro _ _ ⟨rfl, rfl⟩
    simp (maxSteps := 1000000) (disch := omega) only [s3, s4, s5, s6, s7, s10, s11, s14, hcxL, S, S1, S2, S3, S4, S5, ST, eq_self, reduceIte, reduceCtorEq, Nat.reduceEqDiff, Nat.reduceAdd]
    refine ⟨fun h => h, CallH.by (vHas_c c1 _ x L c1L (by omega)) ?_⟩
    rintro _ _ ⟨rfl, rfl⟩
    have hdd : decide (e ∈ cutL N es T x) = decide (x ∈ crcL N es T e) := by rw [decide_eq_decide]; exact hdual
    simp (maxSteps := 1000000) (disch := omega) only [hdd, s3, s4, s5, s6, s7, s10, s11, s14, S, S1, S2, S3, S4, S5, ST, eq_self, reduceIte, reduceCtorEq, Nat.reduceEqDiff, Nat.reduceAdd]
    -- the exchange
    have pPL := pK.trans pL
    have cL := pre_at pPL cg
    have wL := hw.pre pPL
    generalize hD : L ++ [AObj.cells [] 3 false] = D
    have pD : L <+: D := by rw [← hD]; exact List.prefix_append _ _
    have own0 : Own 3 L D (.slice (some ⟨L.length, 0, none⟩) 0 0) [] := .inr ⟨L.length, rfl, Nat.le_refl _, by rw [← hD]; exact at_new ..⟩
    refine LoopH.by (fun m' s H' => ∃ k : Nat, m' + k = es.length ∧ s 3 = .pointer (some ⟨gp, 0, none⟩) ∧ s 4 = u ∧ s 5 = .int .i64 e ∧ s 6 = c1 ∧ s 7 = .bool (decide (CiOk (N : Int) es T e)) ∧ s 10 = c3 ∧ s 11 = .bool (decide (CuOk (N : Int) es T e)) ∧ s 14 = .int .i64 (i : Int) ∧ s 18 = .int .i64 (k : Int) ∧ Own 3 L H' (s 17) (nxL k T x e) ∧ L <+: H') es.length ?_ ?_
    · refine ⟨0, by simp, ?_⟩
      simp (maxSteps := 1000000) (disch := omega) only [s3, s4, s5, s6, s7, s10, s11, s14, S, S1, S2, S3, S4, S5, ST, eq_self, reduceIte, reduceCtorEq, Nat.reduceEqDiff, Nat.reduceAdd]
      have f1 : Own 3 L D (.slice (some ⟨L.length, 0, none⟩) 0 0) (nxL 0 T x e) := own0
      (repeat' first | exact f1 | exact pD | apply And.intro) <;> first | (simp only [Value.int.injEq, true_and]; omega) | omega | rfl | assumption | (simp; done) | (simp; omega)
    clear s3 s4 s5 s6 s7 s10 s11 s14 s
    rintro m' s G ⟨k, hm', s3, s4, s5, s6, s7, s10, s11, s14, s18, hO, pG⟩
    generalize hU : s 17 = U at *
    have cG := pre_at pG cL
    have wG := wL.pre pG
    have uG := uL.pre pG
    have c1G := c1L.pre pG
    have hcxG := uG.cell hi
    rw [← hx] at hcxG
    simp (maxSteps := 1000000) (disch := omega) only [s3, s4, s5, s6, s7, s10, s11, s14, s18, hU, cell_of cG, wG.len Try.underlying24, S, S1, S2, S3, S4, S5, ST, eq_self, reduceIte, reduceCtorEq, Nat.reduceEqDiff, Nat.reduceAdd]
    refine brD.intro (fun z => ?_) (fun z => ?_)
    · have hk : k < es.length := by omega
      have hns := nxL_succ k T x e
      have hnl := nxL_len k T x e
      have go : ∀ (yes : Bool), (yes = true ↔ ((k : Int) = e ∨ ((k : Int) ≠ x ∧ (k : Int) ∈ T))) → True := fun _ _ => trivial
      clear go
      by_cases z1 : (k : Int) = e
      · rw [if_pos (.inl z1)] at hns
        obtain ⟨w2, M, a1, a2, a3, a4, a5, a6⟩ := own1_27 hO pG (by omega) (k : Int)
        rw [← hns] at a2
        simp (maxSteps := 1000000) (disch := omega) only [decide_eq_true z1, s3, s4, s5, s6, s7, s10, s11, s14, s18, hU, a1, wrap64, S, S1, S2, S3, S4, S5, ST, eq_self, reduceIte, reduceCtorEq, Nat.reduceEqDiff, Nat.reduceAdd]
        refine ⟨m' - 1, by omega, k + 1, ?_⟩
        (repeat' first | exact a2 | exact a3 | apply And.intro) <;> first | (simp only [Value.int.injEq, true_and]; omega) | omega | rfl | assumption | (simp; done) | (simp; omega)
      by_cases z2 : (k : Int) = x
      · rw [if_neg (fun h => h.elim z1 fun q => q.1 z2), List.append_nil] at hns
        rw [← hns] at hO
        have z2' : ¬ ¬ (k : Int) = x := fun h => h z2
        simp (maxSteps := 1000000) (disch := omega) only [decide_eq_false z1, decide_eq_false z2', s3, s4, s5, s6, s7, s10, s11, s14, s18, hU, uG.ix Try.underlying27 cs3, Int.toNat_natCast, hcxG, wrap64, S, S1, S2, S3, S4, S5, ST, eq_self, reduceIte, reduceCtorEq, Nat.reduceEqDiff, Nat.reduceAdd]
        refine ⟨m' - 1, by omega, k + 1, ?_⟩
        (repeat' first | exact hO | exact pG | apply And.intro) <;> first | (simp only [Value.int.injEq, true_and]; omega) | omega | rfl | assumption | (simp; done) | (simp; omega)
      simp (maxSteps := 1000000) (disch := omega) only [decide_eq_false z1, decide_eq_true (show ¬ (k : Int) = x from z2), s3, s4, s5, s6, s7, s10, s11, s14, s18, hU, uG.ix Try.underlying27 cs3, Int.toNat_natCast, hcxG, S, S1, S2, S3, S4, S5, ST, eq_self, reduceIte, reduceCtorEq, Nat.reduceEqDiff, Nat.reduceAdd]
      refine CallH.by (vHas_c u T (k : Int) G uG (by omega)) ?_
      rintro _ _ ⟨rfl, rfl⟩
      by_cases z3 : (k : Int) ∈ T
      · rw [if_pos (.inr ⟨z2, z3⟩)] at hns
        obtain ⟨w2, M, a1, a2, a3, a4, a5, a6⟩ := own1_27 hO pG (by omega) (k : Int)
        rw [← hns] at a2
        simp (maxSteps := 1000000) (disch := omega) only [decide_eq_true z3, s3, s4, s5, s6, s7, s10, s11, s14, s18, hU, a1, wrap64, S, S1, S2, S3, S4, S5, ST, eq_self, reduceIte, reduceCtorEq, Nat.reduceEqDiff, Nat.reduceAdd]
        refine ⟨m' - 1, by omega, k + 1, ?_⟩
        (repeat' first | exact a2 | exact a3 | apply And.intro) <;> first | (simp only [Value.int.injEq, true_and]; omega) | omega | rfl | assumption | (simp; done) | (simp; omega)
      · rw [if_neg (fun h => h.elim z1 fun q => z3 q.2), List.append_nil] at hns
        rw [← hns] at hO
        simp (maxSteps := 1000000) (disch := omega) only [decide_eq_false z3, s3, s4, s5, s6, s7, s10, s11, s14, s18, hU, wrap64, S, S1, S2, S3, S4, S5, ST, eq_self, reduceIte, reduceCtorEq, Nat.reduceEqDiff, Nat.reduceAdd]
        refine ⟨m' - 1, by omega, k + 1, ?_⟩
        (repeat' first | exact hO | exact pG | apply And.intro) <;> first | (simp only [Value.int.injEq, true_and]; omega) | omega | rfl | assumption | (simp; done) | (simp; omega)
    · have hk : k = es.length := by omega
      subst hk
      have hnl := nxL_len es.length T x e
      simp (maxSteps := 1000000) (disch := omega) only [s3, s4, s5, s6, s7, s10, s11, s14, hU, ld_agg ag26 cs26 cG, S, S1, S2, S3, S4, S5, ST, eq_self, reduceIte, reduceCtorEq, Nat.reduceEqDiff, Nat.reduceAdd]
      refine CallH.by (IsTreI_c (N : Int) w U es (nxL es.length T x e) G wG (by omega) hO.row (by omega)) ?_
      rintro _ R ⟨rfl, pR⟩
      have hgn : Grd (N : Int) es ∧ (0 : Int) < N := ⟨hg, hn⟩
      have hde : decide ((Grd (N : Int) es ∧ (0 : Int) < N) ∧ TreL N es (nxL es.length T x e)) = decide (x ∈ crcL N es T e) := by
        rw [decide_eq_decide, hmem, ← nx_tree hg hT he heT hxm]
        exact ⟨fun h => h.2, fun h => ⟨hgn, h⟩⟩
      have uR := uG.pre pR
      have c1R := c1G.pre pR
      have hcxR := uR.cell hi
      rw [← hx] at hcxR
      simp (maxSteps := 1000000) (disch := omega) only [hde, decide_eq_true hgn, s3, s4, s5, s6, s7, s10, s11, s14, uR.ix Try.underlying27 cs3, Int.toNat_natCast, hcxR, S, S1, S2, S3, S4, S5, ST, eq_self, reduceIte, reduceCtorEq, Nat.reduceEqDiff, Nat.reduceAdd]
      refine CallH.by (vHas_c c1 _ x R c1R (by omega)) ?_
      rintro _ _ ⟨rfl, rfl⟩
      simp (maxSteps := 1000000) (disch := omega) only [s3, s4, s5, s6, s7, s10, s11, s14, wrap64, S, S1, S2, S3, S4, S5, ST, eq_self, reduceIte, reduceCtorEq, Nat.reduceEqDiff, Nat.reduceAdd]
      have f1 := pPL.trans (pG.trans pR)
      have f2 : Value.bool (decide (CiOk (N : Int) es T e)) = Value.bool true := by rw [decide_eq_true hci]
      refine ⟨m - 1, by omega, i + 1, ?_⟩
      (repeat' first | exact f1 | exact f2 | apply And.intro) <;> first | (simp only [Value.int.injEq, true_and]; omega) | omega | rfl | assumption | (simp; done) | (simp; omega)
  clear s3 s4 s5 s6 s7 s10 s11 s
  rintro s K ⟨s5, s10, s11, pK⟩
  have q3K := q3.pre pK
  by_cases hcu : CuOk n es T e
  · simp (maxSteps := 1000000) (disch := omega) only [s5, s10, s11, decide_eq_true hcu, S, S1, S2, S3, S4, S5, ST, eq_self, reduceIte, reduceCtorEq, Nat.reduceEqDiff, Nat.reduceAdd]
    refine CallH.by (vHas_c c3 _ e K q3K (by omega)) ?_
    rintro _ _ ⟨rfl, rfl⟩
    have hin : e ∈ cuR n es T e := by
      unfold cuR
      rw [if_pos hcu]
      obtain ⟨N, rfl⟩ : ∃ N : Nat, n = N := ⟨n.toNat, by have := hcu.1.1.1.2; omega⟩
      have hT := hcu.1.1.2
      rw [Int.toNat_natCast] at hT ⊢
      exact cut_own hcu.1.1.1.1 hT hcu.2
    simp (maxSteps := 1000000) (disch := omega) only [decide_eq_true hin, S, S1, S2, S3, S4, S5, ST, eq_self, reduceIte, reduceCtorEq, Nat.reduceEqDiff, Nat.reduceAdd]
    refine hQ _ _ _ ?_
    simp (maxSteps := 1000000) (disch := omega) only [S, S1, S2, S3, S4, S5, ST, eq_self, reduceIte, reduceCtorEq, Nat.reduceEqDiff, Nat.reduceAdd]
  · simp (maxSteps := 1000000) (disch := omega) only [s5, s10, s11, decide_eq_false hcu, S, S1, S2, S3, S4, S5, ST, eq_self, reduceIte, reduceCtorEq, Nat.reduceEqDiff, Nat.reduceAdd]
    refine hQ _ _ _ ?_
    simp (maxSteps := 1000000) (disch := omega) only [S, S1, S2, S3, S4, S5, ST, eq_self, reduceIte, reduceCtorEq, Nat.reduceEqDiff, Nat.reduceAdd]
end Go.Proofs.Ytldcbmmmheookaa.Ai
namespace Go.Proofs.Ytldcbmmmheookaa.Ai
open Go Go.RowKit
set_option linter.unusedVariables false
set_option linter.unusedSimpArgs false
def byts (zs : List Int) : List Value := zs.map fun z => .int .u8 z
theorem byts_len (xs : List Int) : (byts xs).length = xs.length := by simp [byts]
theorem byts_at (xs : List Int) {i : Nat} (h : i < xs.length) : (byts xs)[i]? = some (.int .u8 (xs.getD i 0)) := by
  simp [byts, h, List.getElem?_eq_getElem]
theorem Args.addBytes {P : Program} {t e : TypeId} {W : World} {base : Nat} {a : Option Addr} {len cap : Nat} {zs : List Int} {μ : Mu} {H : AH} (h : Args P μ H W) (hc : P.cellsOf e = 1) (hu : P.underlying t = some (.slice e))
    (hok : Value.okWide P W .any base t (.slice a len cap)) (hrow : IsRow .u8 W a len cap zs) :
    ∃ (μ' : Mu) (obj : AObj) (va : Value) (us : List Value), Args P μ' (H ++ [obj]) W ∧ μ.Le μ' ∧ TRel μ' va (.slice a len cap) ∧ RowV e (H ++ [obj]) va us ∧ (∀ i, i < us.length → ∃ b : Nat, us.getD i undef = .int .u8 (b : Int) ∧ b < 256) ∧ (us.length : Int) ≤ 9223372036854775807 := by
  rcases hrow with ⟨rfl, rfl, rfl, rfl⟩ | ⟨x, rfl, hl, hm, hz, hcell, hwf⟩
  · refine ⟨μ, .dead, .slice none 0 0, [], ⟨h.rel.phantom .dead, ?_⟩, Mu.Le.refl _, ⟨rfl, rfl, rfl⟩, .inl ⟨rfl, rfl⟩, fun i hi => absurd hi (by simp), by simp⟩
    intro o y hy
    rw [getElem?_snoc] at hy
    split at hy
    · cases hy; rfl
    · exact h.ro o y hy
  · simp only [Value.okWide, hu, Cell.okWide, Cell.ok] at hok
    obtain ⟨_, _, _, hspot, row, cells, hsh, _⟩ := hok
    have hblk : x.block < W.heap.size := by
      unfold World.shape? at hsh
      cases hb : W.heap[x.block]? with
      | none => rw [hb] at hsh; cases hsh
      | some o => exact (Array.getElem?_eq_some_iff.1 hb).1
    have hx : ∀ i, x.add i = ⟨x.block, x.off + i, none⟩ := by intro i; cases x; simp_all [Addr.add]
    have hfree : μ H.length = none := h.rel.dom _ (Nat.le_refl _)
    have hle := Mu.le_put (L := ⟨x.block, x.off, cap, 1⟩) hfree
    have hro : ∀ (o : Nat) (y : AObj), (H ++ [AObj.cells (byts zs) e true])[o]? = some y → y.wr = false := by
      intro o y hy
      rw [getElem?_snoc] at hy
      split at hy
      · cases hy; rfl
      · exact h.ro o y hy
    refine ⟨μ.put H.length ⟨x.block, x.off, cap, 1⟩, .cells (byts zs) e true, .slice (some ⟨H.length, 0, none⟩) len len, byts (zs.take len), ⟨?_, hro⟩, hle, ?_, ?_, ?_, ?_⟩
    · refine ⟨?_, ?_, ?_, ?_⟩
      · intro o ho
        simp only [List.length_append, List.length_cons, List.length_nil] at ho
        rw [Mu.put_other _ _ _ (by omega)]; exact h.rel.dom o (by omega)
      · intro o vs t' ro L ho hL
        rw [getElem?_snoc] at ho
        split at ho
        · rename_i eo
          subst eo
          simp only [Option.some.injEq, AObj.cells.injEq] at ho
          obtain ⟨rfl, rfl, rfl⟩ := ho
          rw [Mu.put_same] at hL
          cases hL
          refine ⟨hblk, by simp, hc.symm, by rw [byts_len]; show zs.length ≤ cap; omega, ?_, fun h => by cases h⟩
          intro i v hv
          have hi : i < zs.length := by have := (List.getElem?_eq_some_iff.1 hv).1; rwa [byts_len] at this
          rw [byts_at zs hi] at hv
          cases hv
          refine ⟨_, ?_, rfl⟩
          rw [← hx]; exact hcell i hi
        · rename_i eo
          rw [Mu.put_other _ _ _ eo] at hL
          obtain ⟨h2, h3, h4, h5, h6, h7⟩ := h.rel.cells_ o vs t' ro L ho hL
          refine ⟨h2, h3, h4, h5, ?_, h7⟩
          intro i v hv
          obtain ⟨cv, g1, g2⟩ := h6 i v hv
          exact ⟨cv, g1, g2.mono hle⟩
      · intro o es L ho hL
        rw [getElem?_snoc] at ho
        split at ho
        · cases ho
        · have := h.ro o _ ho
          cases this
      · intro o o' y y' L L' hne ho ho' hw
        have := hro o y ho
        rw [this] at hw; cases hw
    · refine ⟨rfl, rfl, x, cap, rfl, hl, .inr ⟨⟨x.block, x.off, cap, 1⟩, Mu.put_same _ _ _, ?_, by simp⟩⟩
      have := hx 0
      cases x
      simp_all
    · refine .inr ⟨H.length, 0, byts zs, true, ?_, at_new .., ?_, ?_⟩
      · have : (byts (zs.take len)).length = len := by rw [byts_len]; simp; omega
        rw [this]
      · rw [byts_len, byts_len]; simp; omega
      · have : (byts (zs.take len)).length = len := by rw [byts_len]; simp; omega
        rw [this, List.drop_zero]
        simp [byts, List.map_take]
    · intro i hi
      rw [byts_len] at hi
      have h1 := byts_at (zs.take len) hi
      have hm2 : (zs.take len).getD i 0 ∈ zs.take len := by
        rw [List.getD_eq_getElem?_getD, List.getElem?_eq_getElem hi]
        exact List.getElem_mem hi
      have := hwf _ (List.mem_of_mem_take hm2)
      simp [Lit.wf, IntKind.min, IntKind.max, IntKind.signed, IntKind.bits] at this
      rw [List.getD_eq_getElem?_getD, h1]
      have h0 : 0 ≤ (zs.take len).getD i 0 ∧ (zs.take len).getD i 0 < 256 := by
        simp only [List.getD_eq_getElem?_getD, List.getElem?_take] at this ⊢
        omega
      exact ⟨((zs.take len).getD i 0).toNat, by rw [Int.toNat_of_nonneg h0.1]; rfl, by omega⟩
    · rw [byts_len, List.length_take]
      unfold maxLen at hm
      omega
end Go.Proofs.Ytldcbmmmheookaa.Ai
