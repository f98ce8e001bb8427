/- All triangulations that begin with some diagonals (spec.l8Fill). -/
import Derived.Test.YtahakecifgjcnaaTrgP
import Derived.Test.YtahakecifgjcnaaSwp
import Derived.Test.YtahakecifgjcnaaAppL
import Derived.Test.YtahakecifgjcnaaProg
import Derived.Test.YtahakecifgjcnaaAiM2
import Derived.KernelRfl
/- Slim code of this translation. By the kernel. -/
namespace Go.Proofs.Ytahakecifgjcnaa.Ai
open Go

/- loop.example/g01128/spec.l8Fill -/
def ords140 : List (Nat × List (Nat × Bool)) := [(7, [(0, false), (1, false), (2, false), (3, false), (4, false), (5, false), (6, false), (7, false), (8, false), (9, false), (10, false), (11, false), (12, false), (13, false), (14, false), (15, false), (16, false), (17, false), (18, false), (19, false), (20, false), (21, false), (22, true), (23, false), (24, false)]), (8, [(0, false), (1, false), (2, false), (3, false), (5, false), (6, false), (7, false), (8, false), (9, false), (4, true), (10, true), (11, true), (12, true), (13, true)])]
def cd140 : Cd := (.seq (.reg [⟨⟨some 6, Op.assign (Operand.const (Value.slice none 0 0)), none⟩, []⟩]) (.seq (.seq (.reg [⟨⟨some 9, Op.move (Operand.tmp 2), none⟩, []⟩,
  ⟨⟨some 10, Op.call { callee := (Callee.builtin Builtin.len), args := #[(Operand.tmp 9)], argTypes := #[22] }, none⟩, []⟩,
  ⟨⟨some 11, Op.move (Operand.tmp 0), none⟩, []⟩,
  ⟨⟨some 12, Op.binOp BinOp.sub 3 (Operand.tmp 11) (Operand.const (Value.int IntKind.i64 3)) 3, none⟩, []⟩,
  ⟨⟨some 13, Op.binOp BinOp.eql 3 (Operand.tmp 10) (Operand.tmp 12) 3, none⟩, []⟩]) (.cond (Operand.tmp 13) (.seq (.reg [⟨⟨some 14, Op.move (Operand.tmp 2), none⟩, []⟩,
  ⟨⟨some 15, Op.buildSlice 47 1 #[(0, (Operand.tmp 14))], none⟩, []⟩,
  ⟨⟨some 6, Op.assign (Operand.tmp 15), none⟩, []⟩]) .ret) .skip)) (.seq (.reg [⟨⟨some 16, Op.buildSlice 47 0 #[], none⟩, []⟩,
  ⟨⟨some 7, Op.assign (Operand.tmp 16), none⟩, []⟩]) (.seq (.seq (.reg [⟨⟨some 8, Op.assign (Operand.const (Value.int IntKind.i64 0)), none⟩, []⟩]) (.block 0 (.loop (.seq (.seq (.reg [⟨⟨some 17, Op.move (Operand.tmp 8), none⟩, []⟩,
  ⟨⟨some 18, Op.move (Operand.tmp 1), none⟩, []⟩,
  ⟨⟨some 19, Op.call { callee := (Callee.builtin Builtin.len), args := #[(Operand.tmp 18)], argTypes := #[22] }, none⟩, []⟩,
  ⟨⟨some 20, Op.binOp BinOp.lss 3 (Operand.tmp 17) (Operand.tmp 19) 3, none⟩, []⟩]) (.cond (Operand.tmp 20) .skip (.exit 0))) (.seq (.block 1 (.seq (.seq (.reg [⟨⟨some 23, Op.move (Operand.tmp 2), none⟩, []⟩,
  ⟨⟨some 24, Op.call { callee := (Callee.builtin Builtin.len), args := #[(Operand.tmp 23)], argTypes := #[22] }, none⟩, []⟩,
  ⟨⟨some 25, Op.binOp BinOp.gtr 3 (Operand.tmp 24) (Operand.const (Value.int IntKind.i64 0)) 3, none⟩, []⟩,
  ⟨⟨some 26, Op.move (Operand.tmp 25), none⟩, []⟩,
  ⟨⟨some 27, Op.move (Operand.tmp 1), some (26, true)⟩, []⟩,
  ⟨⟨some 28, Op.move (Operand.tmp 8), some (26, true)⟩, []⟩,
  ⟨⟨some 29, Op.indexAddr 22 (Operand.tmp 27) (Operand.tmp 28), some (26, true)⟩, []⟩,
  ⟨⟨some 30, Op.load 3 (Operand.tmp 29), some (26, true)⟩, []⟩,
  ⟨⟨some 31, Op.move (Operand.tmp 2), some (26, true)⟩, []⟩,
  ⟨⟨some 32, Op.move (Operand.tmp 2), some (26, true)⟩, []⟩,
  ⟨⟨some 33, Op.call { callee := (Callee.builtin Builtin.len), args := #[(Operand.tmp 32)], argTypes := #[22] }, some (26, true)⟩, []⟩,
  ⟨⟨some 34, Op.binOp BinOp.sub 3 (Operand.tmp 33) (Operand.const (Value.int IntKind.i64 1)) 3, some (26, true)⟩, []⟩,
  ⟨⟨some 35, Op.indexAddr 22 (Operand.tmp 31) (Operand.tmp 34), some (26, true)⟩, []⟩,
  ⟨⟨some 36, Op.load 3 (Operand.tmp 35), some (26, true)⟩, []⟩,
  ⟨⟨some 37, Op.binOp BinOp.leq 3 (Operand.tmp 30) (Operand.tmp 36) 3, some (26, true)⟩, []⟩,
  ⟨⟨some 38, Op.pick (Operand.tmp 26) (Operand.tmp 37) (Operand.const (Value.bool false)), none⟩, []⟩,
  ⟨⟨some 39, Op.move (Operand.tmp 38), none⟩, []⟩,
  ⟨⟨some 40, Op.move (Operand.tmp 2), some (39, false)⟩, []⟩,
  ⟨⟨some 41, Op.move (Operand.tmp 1), some (39, false)⟩, []⟩,
  ⟨⟨some 42, Op.move (Operand.tmp 8), some (39, false)⟩, []⟩,
  ⟨⟨some 43, Op.indexAddr 22 (Operand.tmp 41) (Operand.tmp 42), some (39, false)⟩, []⟩,
  ⟨⟨some 44, Op.load 3 (Operand.tmp 43), some (39, false)⟩, []⟩,
  ⟨⟨some 45, Op.call { callee := (Callee.value (Operand.func 69)), args := #[(Operand.tmp 40), (Operand.tmp 44)], argTypes := #[22, 3] }, some (39, false)⟩, []⟩,
  ⟨⟨some 46, Op.unOp UnOp.not 4 (Operand.tmp 45), some (39, false)⟩, []⟩,
  ⟨⟨some 47, Op.pick (Operand.tmp 39) (Operand.const (Value.bool true)) (Operand.tmp 46), none⟩, []⟩]) (.cond (Operand.tmp 47) (.exit 1) .skip)) (.reg [⟨⟨some 48, Op.move (Operand.tmp 7), none⟩, []⟩,
  ⟨⟨some 49, Op.move (Operand.tmp 0), none⟩, []⟩,
  ⟨⟨some 50, Op.move (Operand.tmp 1), none⟩, []⟩,
  ⟨⟨some 51, Op.move (Operand.tmp 2), none⟩, []⟩,
  ⟨⟨some 53, Op.move (Operand.tmp 1), none⟩, []⟩,
  ⟨⟨some 54, Op.move (Operand.tmp 8), none⟩, []⟩,
  ⟨⟨some 55, Op.indexAddr 22 (Operand.tmp 53) (Operand.tmp 54), none⟩, []⟩,
  ⟨⟨some 56, Op.load 3 (Operand.tmp 55), none⟩, []⟩,
  ⟨⟨some 57, Op.buildSlice 22 1 #[(0, (Operand.tmp 56))], none⟩, []⟩,
  ⟨⟨some 52, Op.call { callee := (Callee.value (Operand.func 58)), args := #[(Operand.tmp 51)], argTypes := #[22] }, none⟩, [⟨some 57, Op.buildSlice 22 1 #[(0, (Operand.tmp 56))], none⟩, ⟨some 56, Op.load 3 (Operand.tmp 55), none⟩]⟩,
  ⟨⟨some 58, Op.call { callee := (Callee.builtin Builtin.append), args := #[(Operand.tmp 52), (Operand.tmp 57)], argTypes := #[22, 22] }, none⟩, []⟩,
  ⟨⟨some 59, Op.call { callee := (Callee.value (Operand.func 140)), args := #[(Operand.tmp 49), (Operand.tmp 50), (Operand.tmp 58)], argTypes := #[3, 22, 22] }, none⟩, []⟩,
  ⟨⟨some 60, Op.call { callee := (Callee.builtin Builtin.append), args := #[(Operand.tmp 48), (Operand.tmp 59)], argTypes := #[47, 47] }, none⟩, []⟩,
  ⟨⟨some 7, Op.assign (Operand.tmp 60), none⟩, []⟩]))) (.reg [⟨⟨some 21, Op.move (Operand.tmp 8), none⟩, []⟩,
  ⟨⟨some 22, Op.binOp BinOp.add 3 (Operand.tmp 21) (Operand.const (Value.int IntKind.i64 1)) 3, none⟩, []⟩,
  ⟨⟨some 8, Op.assign (Operand.tmp 22), none⟩, []⟩])))))) (.seq (.reg [⟨⟨some 61, Op.move (Operand.tmp 7), none⟩, []⟩,
  ⟨⟨some 6, Op.assign (Operand.tmp 61), none⟩, []⟩]) .ret)))))
theorem sl140 : slim Try.f140.ntmps ords140 (Try.f140.body.getD .skip) = some cd140 := by kernel_rfl
theorem in140 {args : List Value} {H : AH} {R : Value → AH → Prop} (hl : args.length = 3) (h : ∀ (Q : Exit → Sl → AH → Prop), (∀ e s H, endA Try.prog [ResultVar.tmp 6] R e s H → Q e s H) → wpC Try.prog cd140 Q (enterA args) H) : ACalls Try.prog 140 args H R :=
  ACalls.intro (by kernel_rfl) Try.func140 rfl (by kernel_rfl) sl140 hl (of_decide_eq_true (by kernel_rfl)) (by kernel_rfl) h
end Go.Proofs.Ytahakecifgjcnaa.Ai

namespace Go.Proofs.Ytahakecifgjcnaa.Ai
open Go Go.RowKit
set_option linter.unusedVariables false
set_option linter.unusedSimpArgs false

theorem tlp_zero (all : List Int) (h : Nat) (ed : List Int) : tlp all h 0 ed = [] := rfl

set_option maxRecDepth 20000 in
set_option maxHeartbeats 4000000 in
theorem l8Fill_c (n : Int) (h : Nat) (hn : n - 3 = (h : Int)) (hh : h ≤ 100) (va : Value) (all : List Int) (hN : all.length ≤ 28) (hall : ∀ y ∈ all, 0 ≤ y ∧ y ≤ 100) (hasc : ∀ i j, i < j → j < all.length → all.getD i 0 < all.getD j 0) :
    ∀ (r : Nat) (ed : List Int) (w : Value) (lo : Nat) (H : AH), Row 3 H va all → InI lo H.length 3 H w ed → lo ≤ H.length → r ≤ all.length → ed.length + r ≤ all.length → (∀ y ∈ ed, 0 ≤ y ∧ y ≤ 100) → (ed.length = 0 → r = all.length) → (0 < ed.length → 0 < all.length - r ∧ ed.getD (ed.length - 1) 0 = all.getD (all.length - r - 1) 0) →
      ACalls Try.prog 140 [.int .i64 n, va, w] H fun g H' => InL lo H'.length 22 3 H' g (tex all h r ed) ∧ H <+: H' := by
  intro r
  induction r using Nat.strongRecOn with
  | ind r ih =>
  intro ed w lo H hr hw hlo hrl hel hed hz hlast
  have hrow := hw.row.1
  refine in140 rfl ?_
  intro Q hQ
  simp (maxSteps := 1000000) (disch := omega) only [cd140, hrow.len Try.underlying22, wrap64, S, S1, S2, S3, S4, ST, eq_self, ne_eq, not_true_eq_false, not_false_eq_true, and_self, true_and, and_true, reduceIte, reduceCtorEq, Nat.reduceEqDiff, Nat.reduceAdd, Nat.zero_add, Nat.add_zero, Option.map_none, Option.map_some, List.map_cons, List.map_nil, List.append_nil, List.cons_append, List.nil_append, List.getElem?_cons_zero, List.getElem?_cons_succ, List.getD_cons_zero, List.getD_cons_succ, List.getD_nil, Bool.not_true, Bool.not_false, decide_true, decide_false]
  refine brD.intro (fun e => ?_) (fun e => ?_)
  · have hek : ed.length = h := by omega
    have ht : tex all h r ed = [ed] := by unfold tex; rw [if_pos hek]
    rw [ht] at hQ
    have hbs : buildSliceA Try.prog 47 1 [(0, w)] H = some (.slice (some ⟨H.length, 0, none⟩) 1 1, H ++ [.cells [w] 22 false]) := by
      obtain ⟨q, eq⟩ := hrow.shape
      rw [eq]
      exact bs1 Try.underlying47 cs22 ze22 ⟨by kernel_rfl, by kernel_rfl⟩ H rfl
    simp (maxSteps := 1000000) (disch := omega) only [hbs, S, S1, S2, S3, S4, ST, eq_self, ne_eq, not_true_eq_false, not_false_eq_true, and_self, true_and, and_true, reduceIte, reduceCtorEq, Nat.reduceEqDiff, Nat.reduceAdd, Nat.zero_add, Nat.add_zero, Option.map_none, Option.map_some, List.map_cons, List.map_nil, List.append_nil, List.cons_append, List.nil_append, List.getElem?_cons_zero, List.getElem?_cons_succ, List.getD_cons_zero, List.getD_cons_succ, List.getD_nil, Bool.not_true, Bool.not_false, decide_true, decide_false]
    refine hQ _ _ _ ?_
    simp (maxSteps := 1000000) (disch := omega) only [S, S1, S2, S3, S4, ST, eq_self, ne_eq, not_true_eq_false, not_false_eq_true, and_self, true_and, and_true, reduceIte, reduceCtorEq, Nat.reduceEqDiff, Nat.reduceAdd, Nat.zero_add, Nat.add_zero, Option.map_none, Option.map_some, List.map_cons, List.map_nil, List.append_nil, List.cons_append, List.nil_append, List.getElem?_cons_zero, List.getElem?_cons_succ, List.getD_cons_zero, List.getD_cons_succ, List.getD_nil, Bool.not_true, Bool.not_false, decide_true, decide_false]
    refine ⟨.inr ⟨H.length, [w], rfl, ?_⟩, List.prefix_append _ _⟩
    refine ⟨by omega, by simp, at_new .., by simp, ?_, ?_⟩
    · intro i hi
      have hi0 : i = 0 := by simpa using hi
      subst hi0
      refine ⟨(hw.pre (List.prefix_append H _)).wide (Nat.le_refl _) (by simp), ?_⟩
      rcases hw.at_ with q | q
      · exact .inl q
      · refine .inr ?_
        show rowO w ≠ H.length
        omega
    · intro i j hij hi hj
      simp at hi hj; omega
  have hek : ed.length ≠ h := by omega
  have ht : tex all h r ed = tlp all h r ed := by unfold tex; rw [if_neg hek]
  rw [ht] at hQ
  have u0 := InU.new lo 22 3 H hlo
  have hPr : 2 ^ r ≤ 2 ^ 28 := Nat.pow_le_pow_right (by decide) (by omega)
  have etd : ((ed.length : Int) - 1).toNat = ed.length - 1 := by omega
  simp (maxSteps := 1000000) (disch := omega) only [e, S, S1, S2, S3, S4, ST, eq_self, ne_eq, not_true_eq_false, not_false_eq_true, and_self, true_and, and_true, reduceIte, reduceCtorEq, Nat.reduceEqDiff, Nat.reduceAdd, Nat.zero_add, Nat.add_zero, Option.map_none, Option.map_some, List.map_cons, List.map_nil, List.append_nil, List.cons_append, List.nil_append, List.getElem?_cons_zero, List.getElem?_cons_succ, List.getD_cons_zero, List.getD_cons_succ, List.getD_nil, Bool.not_true, Bool.not_false, decide_true, decide_false]
  refine LoopH.by (fun m s H' => ∃ i o us L, m + i = all.length ∧ s 0 = .int .i64 n ∧ s 1 = va ∧ s 2 = w ∧ s 7 = .slice (some ⟨o, 0, none⟩) L.length L.length ∧ s 8 = .int .i64 ((i : Nat) : Int) ∧ H.length ≤ o ∧ InU lo H'.length 22 3 H' o us L ∧ L ++ tlp all h (min r m) ed = tlp all h r ed ∧ L.length + 2 ^ (min r m) ≤ 2 ^ r ∧ H <+: H') all.length ?_ ?_
  · refine ⟨0, H.length, [], [], by simp, rfl, rfl, rfl, rfl, rfl, Nat.le_refl _, ?_, ?_, ?_, List.prefix_append _ _⟩
    · simpa using u0
    · rw [Nat.min_eq_left hrl]; rfl
    · rw [Nat.min_eq_left hrl]; simp
  rintro m s H' ⟨i, o, us, L, hm, h0, h1, h2, h7, h8, hoA, hin, hL, hcnt, hp⟩
  have hrH := hr.pre hp
  have wH := hrow.pre hp
  simp (maxSteps := 1000000) (disch := omega) only [h0, h1, h2, h7, h8, hrH.len Try.underlying22, S, S1, S2, S3, S4, ST, eq_self, ne_eq, not_true_eq_false, not_false_eq_true, and_self, true_and, and_true, reduceIte, reduceCtorEq, Nat.reduceEqDiff, Nat.reduceAdd, Nat.zero_add, Nat.add_zero, Option.map_none, Option.map_some, List.map_cons, List.map_nil, List.append_nil, List.cons_append, List.nil_append, List.getElem?_cons_zero, List.getElem?_cons_succ, List.getD_cons_zero, List.getD_cons_succ, List.getD_nil, Bool.not_true, Bool.not_false, decide_true, decide_false]
  refine brD.intro (fun g => ?_) (fun g => ?_)
  rotate_left
  · have hm0 : m = 0 := by omega
    subst hm0
    rw [Nat.min_eq_right (Nat.zero_le _), tlp_zero, List.append_nil] at hL
    simp (maxSteps := 1000000) (disch := omega) only [h7, S, S1, S2, S3, S4, ST, eq_self, ne_eq, not_true_eq_false, not_false_eq_true, and_self, true_and, and_true, reduceIte, reduceCtorEq, Nat.reduceEqDiff, Nat.reduceAdd, Nat.zero_add, Nat.add_zero, Option.map_none, Option.map_some, List.map_cons, List.map_nil, List.append_nil, List.cons_append, List.nil_append, List.getElem?_cons_zero, List.getElem?_cons_succ, List.getD_cons_zero, List.getD_cons_succ, List.getD_nil, Bool.not_true, Bool.not_false, decide_true, decide_false]
    refine hQ _ _ _ ?_
    simp (maxSteps := 1000000) (disch := omega) only [h7, S, S1, S2, S3, S4, ST, eq_self, ne_eq, not_true_eq_false, not_false_eq_true, and_self, true_and, and_true, reduceIte, reduceCtorEq, Nat.reduceEqDiff, Nat.reduceAdd, Nat.zero_add, Nat.add_zero, Option.map_none, Option.map_some, List.map_cons, List.map_nil, List.append_nil, List.cons_append, List.nil_append, List.getElem?_cons_zero, List.getElem?_cons_succ, List.getD_cons_zero, List.getD_cons_succ, List.getD_nil, Bool.not_true, Bool.not_false, decide_true, decide_false]
    rw [← hL]
    exact ⟨hin.inl, hp⟩
  have hi : i < all.length := by omega
  have hdm : all.getD i 0 ∈ all := by simp [hi]
  have hdr := hall _ hdm
  simp (maxSteps := 1000000) (disch := omega) only [h0, h1, h2, h7, h8, wH.len Try.underlying22, S, S1, S2, S3, S4, ST, eq_self, ne_eq, not_true_eq_false, not_false_eq_true, and_self, true_and, and_true, reduceIte, reduceCtorEq, Nat.reduceEqDiff, Nat.reduceAdd, Nat.zero_add, Nat.add_zero, Option.map_none, Option.map_some, List.map_cons, List.map_nil, List.append_nil, List.cons_append, List.nil_append, List.getElem?_cons_zero, List.getElem?_cons_succ, List.getD_cons_zero, List.getD_cons_succ, List.getD_nil, Bool.not_true, Bool.not_false, decide_true, decide_false]
  refine brD.intro (fun g3 => ?_) (fun g3 => ?_)
  · obtain ⟨hl1, hl2⟩ := hlast (by omega)
    have hlc := wH.cell (show ed.length - 1 < ed.length by omega)
    rw [hl2] at hlc
    have hdc0 := hrH.cell hi
    simp (maxSteps := 1000000) (disch := omega) only [g3, h0, h1, h2, h7, h8, etd, wH.len Try.underlying22, wH.ix Try.underlying22 cs3, hrH.ix Try.underlying22 cs3, hlc, hdc0, Int.toNat_natCast, wrap64, S, S1, S2, S3, S4, ST, eq_self, ne_eq, not_true_eq_false, not_false_eq_true, and_self, true_and, and_true, reduceIte, reduceCtorEq, Nat.reduceEqDiff, Nat.reduceAdd, Nat.zero_add, Nat.add_zero, Option.map_none, Option.map_some, List.map_cons, List.map_nil, List.append_nil, List.cons_append, List.nil_append, List.getElem?_cons_zero, List.getElem?_cons_succ, List.getD_cons_zero, List.getD_cons_succ, List.getD_nil, Bool.not_true, Bool.not_false, decide_true, decide_false]
    refine brD.intro (fun g4 => ?_) (fun g4 => ?_)
    · have hlt : i < all.length - r := by
        apply Decidable.byContradiction
        intro hc
        have := hasc (all.length - r - 1) i (by omega) hi
        omega
      have hm1 : min r m = r := Nat.min_eq_left (by omega)
      have hm2 : min r (m - 1) = r := Nat.min_eq_left (by omega)
      rw [hm1] at hL hcnt
      simp (maxSteps := 1000000) (disch := omega) only [g3, g4, h0, h1, h2, h7, h8, wrap64, S, S1, S2, S3, S4, ST, eq_self, ne_eq, not_true_eq_false, not_false_eq_true, and_self, true_and, and_true, reduceIte, reduceCtorEq, Nat.reduceEqDiff, Nat.reduceAdd, Nat.zero_add, Nat.add_zero, Option.map_none, Option.map_some, List.map_cons, List.map_nil, List.append_nil, List.cons_append, List.nil_append, List.getElem?_cons_zero, List.getElem?_cons_succ, List.getD_cons_zero, List.getD_cons_succ, List.getD_nil, Bool.not_true, Bool.not_false, decide_true, decide_false]
      refine ⟨m - 1, by omega, i + 1, o, us, L, by omega, ?_⟩
      rw [hm2]
      (repeat' first | exact hin | exact hL | exact hcnt | exact hp | apply And.intro) <;> first | (simp only [Value.int.injEq, true_and]; omega) | omega | rfl | assumption | (simp; done) | (simp; omega)
    · have hB0 : all.length - r ≤ i := by
        apply Decidable.byContradiction
        intro hc
        by_cases he : i = all.length - r - 1
        · rw [he] at g4; omega
        · have := hasc i (all.length - r - 1) (by omega) (by omega)
          omega
      obtain ⟨j, rfl⟩ : ∃ j, m = j + 1 := ⟨m - 1, by omega⟩
      have hmr : min r (j + 1) = j + 1 := Nat.min_eq_right (by omega)
      have hmr2 : min r j = j := Nat.min_eq_right (by omega)
      rw [hmr] at hL hcnt
      have hNi : all.length - (j + 1) = i := by omega
      have hstep := tlp_step all h j ed
      rw [hNi] at hstep
      have hP : 2 ^ (j + 1) = 2 ^ j + 2 ^ j := by rw [Nat.pow_succ]; omega
      have hpi : 1 ≤ 2 ^ j := Nat.one_le_two_pow
      generalize hd : all.getD i 0 = d at *
      have hdc := hrH.cell hi
      rw [hd] at hdc
      simp (maxSteps := 1000000) (disch := omega) only [g3, g4, h0, h1, h2, h7, h8, hrH.ix Try.underlying22 cs3, hdc, Int.toNat_natCast, S, S1, S2, S3, S4, ST, eq_self, ne_eq, not_true_eq_false, not_false_eq_true, and_self, true_and, and_true, reduceIte, reduceCtorEq, Nat.reduceEqDiff, Nat.reduceAdd, Nat.zero_add, Nat.add_zero, Option.map_none, Option.map_some, List.map_cons, List.map_nil, List.append_nil, List.cons_append, List.nil_append, List.getElem?_cons_zero, List.getElem?_cons_succ, List.getD_cons_zero, List.getD_cons_succ, List.getD_nil, Bool.not_true, Bool.not_false, decide_true, decide_false]
      refine CallH.by (l8Apart_c w ed d H' wH (by omega) (fun y hy => by have := hed y hy; exact ⟨by omega, by omega⟩) ⟨by omega, by omega⟩) ?_
      rintro _ _ ⟨rfl, rfl⟩
      have hap : (!ed.any fun y => decide (Crs y d)) = apB ed d := rfl
      rw [hap]
      cases hq : apB ed d
      · rw [hq] at hstep
        simp only [Bool.false_eq_true, if_false, List.nil_append] at hstep
        rw [hstep] at hL
        simp (maxSteps := 1000000) (disch := omega) only [g3, g4, h0, h1, h2, h7, h8, wrap64, S, S1, S2, S3, S4, ST, eq_self, ne_eq, not_true_eq_false, not_false_eq_true, and_self, true_and, and_true, reduceIte, reduceCtorEq, Nat.reduceEqDiff, Nat.reduceAdd, Nat.zero_add, Nat.add_zero, Option.map_none, Option.map_some, List.map_cons, List.map_nil, List.append_nil, List.cons_append, List.nil_append, List.getElem?_cons_zero, List.getElem?_cons_succ, List.getD_cons_zero, List.getD_cons_succ, List.getD_nil, Bool.not_true, Bool.not_false, decide_true, decide_false]
        refine ⟨j, by omega, i + 1, o, us, L, by omega, ?_⟩
        rw [hmr2]
        have f1 : L.length + 2 ^ j ≤ 2 ^ r := by omega
        (repeat' first | exact hin | exact hL | exact f1 | exact hp | apply And.intro) <;> first | (simp only [Value.int.injEq, true_and]; omega) | omega | rfl | assumption | (simp; done) | (simp; omega)
      · rw [hq, if_pos rfl] at hstep
        simp (maxSteps := 1000000) (disch := omega) only [g3, g4, h0, h1, h2, h7, h8, hrH.ix Try.underlying22 cs3, hdc, Int.toNat_natCast, S, S1, S2, S3, S4, ST, eq_self, ne_eq, not_true_eq_false, not_false_eq_true, and_self, true_and, and_true, reduceIte, reduceCtorEq, Nat.reduceEqDiff, Nat.reduceAdd, Nat.zero_add, Nat.add_zero, Option.map_none, Option.map_some, List.map_cons, List.map_nil, List.append_nil, List.cons_append, List.nil_append, List.getElem?_cons_zero, List.getElem?_cons_succ, List.getD_cons_zero, List.getD_cons_succ, List.getD_nil, Bool.not_true, Bool.not_false, decide_true, decide_false]
        generalize hB : H' ++ [AObj.cells [.int .i64 d] 3 false] = B
        have pB : H' <+: B := by rw [← hB]; exact List.prefix_append _ _
        have cB : B[H'.length]? = some (.cells [.int .i64 d] 3 false) := by rw [← hB]; exact at_new ..
        have lB : B.length = H'.length + 1 := by rw [← hB]; simp
        refine CallH.by (l1Own_c w ed B (wH.pre pB) (by omega)) ?_
        rintro c C ⟨hc, pC⟩
        have cC := pre_at pC cB
        have hrC := hrH.pre (pB.trans pC)
        have hdC := hrC.cell hi
        rw [hd] at hdC
        have hx : Row 3 C (.slice (some ⟨H'.length, 0, none⟩) 1 1) [d] := .inr ⟨H'.length, 0, [.int .i64 d], false, rfl, cC, by simp, rfl⟩
        obtain ⟨v', H2, k1, k2, k3, k4, k5⟩ := hc.app (P := Try.prog) Try.underlying22 cs3 (by rw [by3]; decide) zk3 hx pC (by simp; omega)
        have pH2 := pB.trans k3
        simp (maxSteps := 1000000) (disch := omega) only [g3, g4, h0, h1, h2, h7, h8, hdC, cC, cB, k1, S, S1, S2, S3, S4, ST, eq_self, ne_eq, not_true_eq_false, not_false_eq_true, and_self, true_and, and_true, reduceIte, reduceCtorEq, Nat.reduceEqDiff, Nat.reduceAdd, Nat.zero_add, Nat.add_zero, Option.map_none, Option.map_some, List.map_cons, List.map_nil, List.append_nil, List.cons_append, List.nil_append, List.getElem?_cons_zero, List.getElem?_cons_succ, List.getD_cons_zero, List.getD_cons_succ, List.getD_nil, Bool.not_true, Bool.not_false, decide_true, decide_false]
        have hrec := ih j (by omega) (ed ++ [d]) v' B.length H2 (hrH.pre pH2) (InI.of k2.mine) k3.length_le (by omega) (by simp; omega) (fun y hy => by
          rcases List.mem_append.1 hy with hy | hy
          · exact hed y hy
          · simp at hy; rw [hy]; exact hdr) (fun h0 => by simp at h0) (fun _ => ⟨by omega, by
            have e1 : (ed ++ [d]).getD ((ed ++ [d]).length - 1) 0 = d := by
              rw [List.length_append, List.getD_eq_getElem?_getD, List.getElem?_append_right (by simp)]; simp
            have e2 : all.length - j - 1 = i := by omega
            rw [e1, e2, hd]⟩)
        refine CallH.by hrec ?_
        rintro gL H3 ⟨hgL, p3⟩
        have htl : (tex all h j (ed ++ [d])).length ≤ 2 ^ j := by
          unfold tex
          split
          · simp; exact hpi
          · have := tex_len all h j (ed ++ [d]); omega
        have pH3 := pH2.trans p3
        have l3 := pH3.length_le
        obtain ⟨v2, H5, o', us', q1, q2, q3, q4, q5, q6⟩ := (hin.pre pH3).appL (P := Try.prog) (t2 := 47) Try.underlying47 cs22 (by rw [by22]; decide) zk22 (hgL.wide (lo' := H'.length) (by omega) (Nat.le_refl _)) (by have := hp.length_le; omega) l3 (Nat.le_refl _) (by omega)
        have f1 : H <+: H5 := prefix_of fun j' x hx' => q5 j' x (by have := at_lt hx'; omega) (pre_at (hp.trans pH3) hx')
        have f2 : (L ++ tex all h j (ed ++ [d])) ++ tlp all h j ed = tlp all h r ed := by rw [← hL, hstep, List.append_assoc]
        have f3 : (L ++ tex all h j (ed ++ [d])).length + 2 ^ j ≤ 2 ^ r := by rw [List.length_append]; omega
        have f4 : H.length ≤ o' := by have := (hp.trans pH3).length_le; omega
        simp (maxSteps := 1000000) (disch := omega) only [h0, h1, h2, h7, h8, q1, q2, wrap64, S, S1, S2, S3, S4, ST, eq_self, ne_eq, not_true_eq_false, not_false_eq_true, and_self, true_and, and_true, reduceIte, reduceCtorEq, Nat.reduceEqDiff, Nat.reduceAdd, Nat.zero_add, Nat.add_zero, Option.map_none, Option.map_some, List.map_cons, List.map_nil, List.append_nil, List.cons_append, List.nil_append, List.getElem?_cons_zero, List.getElem?_cons_succ, List.getD_cons_zero, List.getD_cons_succ, List.getD_nil, Bool.not_true, Bool.not_false, decide_true, decide_false]
        refine ⟨j, by omega, i + 1, o', us', L ++ tex all h j (ed ++ [d]), by omega, ?_⟩
        rw [hmr2]
        (repeat' first | exact f1 | exact f2 | exact f3 | exact f4 | exact q3 | apply And.intro) <;> first | (simp only [Value.int.injEq, true_and]; omega) | omega | rfl | assumption | (simp; done) | (simp; omega)
  · have hz' := hz (by omega)
    have hB0 : all.length - r ≤ i := by omega
    obtain ⟨j, rfl⟩ : ∃ j, m = j + 1 := ⟨m - 1, by omega⟩
    have hmr : min r (j + 1) = j + 1 := Nat.min_eq_right (by omega)
    have hmr2 : min r j = j := Nat.min_eq_right (by omega)
    rw [hmr] at hL hcnt
    have hNi : all.length - (j + 1) = i := by omega
    have hstep := tlp_step all h j ed
    rw [hNi] at hstep
    have hP : 2 ^ (j + 1) = 2 ^ j + 2 ^ j := by rw [Nat.pow_succ]; omega
    have hpi : 1 ≤ 2 ^ j := Nat.one_le_two_pow
    generalize hd : all.getD i 0 = d at *
    have hdc := hrH.cell hi
    rw [hd] at hdc
    simp (maxSteps := 1000000) (disch := omega) only [g3, h0, h1, h2, h7, h8, hrH.ix Try.underlying22 cs3, hdc, Int.toNat_natCast, S, S1, S2, S3, S4, ST, eq_self, ne_eq, not_true_eq_false, not_false_eq_true, and_self, true_and, and_true, reduceIte, reduceCtorEq, Nat.reduceEqDiff, Nat.reduceAdd, Nat.zero_add, Nat.add_zero, Option.map_none, Option.map_some, List.map_cons, List.map_nil, List.append_nil, List.cons_append, List.nil_append, List.getElem?_cons_zero, List.getElem?_cons_succ, List.getD_cons_zero, List.getD_cons_succ, List.getD_nil, Bool.not_true, Bool.not_false, decide_true, decide_false]
    refine CallH.by (l8Apart_c w ed d H' wH (by omega) (fun y hy => by have := hed y hy; exact ⟨by omega, by omega⟩) ⟨by omega, by omega⟩) ?_
    rintro _ _ ⟨rfl, rfl⟩
    have hap : (!ed.any fun y => decide (Crs y d)) = apB ed d := rfl
    rw [hap]
    cases hq : apB ed d
    · rw [hq] at hstep
      simp only [Bool.false_eq_true, if_false, List.nil_append] at hstep
      rw [hstep] at hL
      simp (maxSteps := 1000000) (disch := omega) only [g3, h0, h1, h2, h7, h8, wrap64, S, S1, S2, S3, S4, ST, eq_self, ne_eq, not_true_eq_false, not_false_eq_true, and_self, true_and, and_true, reduceIte, reduceCtorEq, Nat.reduceEqDiff, Nat.reduceAdd, Nat.zero_add, Nat.add_zero, Option.map_none, Option.map_some, List.map_cons, List.map_nil, List.append_nil, List.cons_append, List.nil_append, List.getElem?_cons_zero, List.getElem?_cons_succ, List.getD_cons_zero, List.getD_cons_succ, List.getD_nil, Bool.not_true, Bool.not_false, decide_true, decide_false]
      refine ⟨j, by omega, i + 1, o, us, L, by omega, ?_⟩
      rw [hmr2]
      have f1 : L.length + 2 ^ j ≤ 2 ^ r := by omega
      (repeat' first | exact hin | exact hL | exact f1 | exact hp | apply And.intro) <;> first | (simp only [Value.int.injEq, true_and]; omega) | omega | rfl | assumption | (simp; done) | (simp; omega)
    · rw [hq, if_pos rfl] at hstep
      simp (maxSteps := 1000000) (disch := omega) only [g3, h0, h1, h2, h7, h8, hrH.ix Try.underlying22 cs3, hdc, Int.toNat_natCast, S, S1, S2, S3, S4, ST, eq_self, ne_eq, not_true_eq_false, not_false_eq_true, and_self, true_and, and_true, reduceIte, reduceCtorEq, Nat.reduceEqDiff, Nat.reduceAdd, Nat.zero_add, Nat.add_zero, Option.map_none, Option.map_some, List.map_cons, List.map_nil, List.append_nil, List.cons_append, List.nil_append, List.getElem?_cons_zero, List.getElem?_cons_succ, List.getD_cons_zero, List.getD_cons_succ, List.getD_nil, Bool.not_true, Bool.not_false, decide_true, decide_false]
      generalize hB : H' ++ [AObj.cells [.int .i64 d] 3 false] = B
      have pB : H' <+: B := by rw [← hB]; exact List.prefix_append _ _
      have cB : B[H'.length]? = some (.cells [.int .i64 d] 3 false) := by rw [← hB]; exact at_new ..
      have lB : B.length = H'.length + 1 := by rw [← hB]; simp
      refine CallH.by (l1Own_c w ed B (wH.pre pB) (by omega)) ?_
      rintro c C ⟨hc, pC⟩
      have cC := pre_at pC cB
      have hrC := hrH.pre (pB.trans pC)
      have hdC := hrC.cell hi
      rw [hd] at hdC
      have hx : Row 3 C (.slice (some ⟨H'.length, 0, none⟩) 1 1) [d] := .inr ⟨H'.length, 0, [.int .i64 d], false, rfl, cC, by simp, rfl⟩
      obtain ⟨v', H2, k1, k2, k3, k4, k5⟩ := hc.app (P := Try.prog) Try.underlying22 cs3 (by rw [by3]; decide) zk3 hx pC (by simp; omega)
      have pH2 := pB.trans k3
      simp (maxSteps := 1000000) (disch := omega) only [g3, h0, h1, h2, h7, h8, hdC, cC, cB, k1, S, S1, S2, S3, S4, ST, eq_self, ne_eq, not_true_eq_false, not_false_eq_true, and_self, true_and, and_true, reduceIte, reduceCtorEq, Nat.reduceEqDiff, Nat.reduceAdd, Nat.zero_add, Nat.add_zero, Option.map_none, Option.map_some, List.map_cons, List.map_nil, List.append_nil, List.cons_append, List.nil_append, List.getElem?_cons_zero, List.getElem?_cons_succ, List.getD_cons_zero, List.getD_cons_succ, List.getD_nil, Bool.not_true, Bool.not_false, decide_true, decide_false]
      have hrec := ih j (by omega) (ed ++ [d]) v' B.length H2 (hrH.pre pH2) (InI.of k2.mine) k3.length_le (by omega) (by simp; omega) (fun y hy => by
        rcases List.mem_append.1 hy with hy | hy
        · exact hed y hy
        · simp at hy; rw [hy]; exact hdr) (fun h0 => by simp at h0) (fun _ => ⟨by omega, by
          have e1 : (ed ++ [d]).getD ((ed ++ [d]).length - 1) 0 = d := by
            rw [List.length_append, List.getD_eq_getElem?_getD, List.getElem?_append_right (by simp)]; simp
          have e2 : all.length - j - 1 = i := by omega
          rw [e1, e2, hd]⟩)
      refine CallH.by hrec ?_
      rintro gL H3 ⟨hgL, p3⟩
      have htl : (tex all h j (ed ++ [d])).length ≤ 2 ^ j := by
        unfold tex
        split
        · simp; exact hpi
        · have := tex_len all h j (ed ++ [d]); omega
      have pH3 := pH2.trans p3
      have l3 := pH3.length_le
      obtain ⟨v2, H5, o', us', q1, q2, q3, q4, q5, q6⟩ := (hin.pre pH3).appL (P := Try.prog) (t2 := 47) Try.underlying47 cs22 (by rw [by22]; decide) zk22 (hgL.wide (lo' := H'.length) (by omega) (Nat.le_refl _)) (by have := hp.length_le; omega) l3 (Nat.le_refl _) (by omega)
      have f1 : H <+: H5 := prefix_of fun j' x hx' => q5 j' x (by have := at_lt hx'; omega) (pre_at (hp.trans pH3) hx')
      have f2 : (L ++ tex all h j (ed ++ [d])) ++ tlp all h j ed = tlp all h r ed := by rw [← hL, hstep, List.append_assoc]
      have f3 : (L ++ tex all h j (ed ++ [d])).length + 2 ^ j ≤ 2 ^ r := by rw [List.length_append]; omega
      have f4 : H.length ≤ o' := by have := (hp.trans pH3).length_le; omega
      simp (maxSteps := 1000000) (disch := omega) only [h0, h1, h2, h7, h8, q1, q2, wrap64, S, S1, S2, S3, S4, ST, eq_self, ne_eq, not_true_eq_false, not_false_eq_true, and_self, true_and, and_true, reduceIte, reduceCtorEq, Nat.reduceEqDiff, Nat.reduceAdd, Nat.zero_add, Nat.add_zero, Option.map_none, Option.map_some, List.map_cons, List.map_nil, List.append_nil, List.cons_append, List.nil_append, List.getElem?_cons_zero, List.getElem?_cons_succ, List.getD_cons_zero, List.getD_cons_succ, List.getD_nil, Bool.not_true, Bool.not_false, decide_true, decide_false]
      refine ⟨j, by omega, i + 1, o', us', L ++ tex all h j (ed ++ [d]), by omega, ?_⟩
      rw [hmr2]
      (repeat' first | exact f1 | exact f2 | exact f3 | exact f4 | exact q3 | apply And.intro) <;> first | (simp only [Value.int.injEq, true_and]; omega) | omega | rfl | assumption | (simp; done) | (simp; omega)
end Go.Proofs.Ytahakecifgjcnaa.Ai
