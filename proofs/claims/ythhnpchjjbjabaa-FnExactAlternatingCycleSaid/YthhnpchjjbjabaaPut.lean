/- A number put into an ascending list (spec.l1Put). -/
import Derived.Test.YthhnpchjjbjabaaPutP
import Derived.Test.YthhnpchjjbjabaaTy
import Derived.Test.YthhnpchjjbjabaaProg
import Derived.Test.YthhnpchjjbjabaaAiM2
import Derived.KernelRfl
/- Slim code of this translation. By the kernel. -/
namespace Go.Proofs.Ythhnpchjjbjabaa.Ai
open Go

/- loop.example/g01128/spec.l1Put -/
def ords151 : List (Nat × List (Nat × Bool)) := [(6, [(0, false), (1, false), (2, false), (3, false), (5, false), (6, false), (8, false), (9, false), (10, false), (4, true), (7, true), (11, true), (12, false)])]
def cd151 : Cd := (.seq (.reg [⟨⟨some 4, Op.assign (Operand.const (Value.slice none 0 0)), none⟩, []⟩]) (.seq (.reg [⟨⟨some 5, Op.assign (Operand.const (Value.int IntKind.i64 0)), none⟩, []⟩]) (.seq (.block 0 (.loop (.seq (.seq (.reg [⟨⟨some 6, Op.move (Operand.tmp 5), none⟩, []⟩,
  ⟨⟨some 7, Op.move (Operand.tmp 0), none⟩, []⟩,
  ⟨⟨some 8, Op.call { callee := (Callee.builtin Builtin.len), args := #[(Operand.tmp 7)], argTypes := #[32] }, none⟩, []⟩,
  ⟨⟨some 9, Op.binOp BinOp.lss 3 (Operand.tmp 6) (Operand.tmp 8) 3, none⟩, []⟩,
  ⟨⟨some 10, Op.move (Operand.tmp 9), none⟩, []⟩,
  ⟨⟨some 11, Op.move (Operand.tmp 0), some (10, true)⟩, []⟩,
  ⟨⟨some 12, Op.move (Operand.tmp 5), some (10, true)⟩, []⟩,
  ⟨⟨some 13, Op.indexAddr 32 (Operand.tmp 11) (Operand.tmp 12), some (10, true)⟩, []⟩,
  ⟨⟨some 14, Op.load 3 (Operand.tmp 13), some (10, true)⟩, []⟩,
  ⟨⟨some 15, Op.move (Operand.tmp 1), some (10, true)⟩, []⟩,
  ⟨⟨some 16, Op.binOp BinOp.lss 3 (Operand.tmp 14) (Operand.tmp 15) 3, some (10, true)⟩, []⟩,
  ⟨⟨some 17, Op.pick (Operand.tmp 10) (Operand.tmp 16) (Operand.const (Value.bool false)), none⟩, []⟩]) (.cond (Operand.tmp 17) .skip (.exit 0))) (.block 1 (.reg [⟨⟨some 18, Op.move (Operand.tmp 5), none⟩, []⟩,
  ⟨⟨some 19, Op.binOp BinOp.add 3 (Operand.tmp 18) (Operand.const (Value.int IntKind.i64 1)) 3, none⟩, []⟩,
  ⟨⟨some 5, Op.assign (Operand.tmp 19), none⟩, []⟩]))))) (.seq (.seq (.reg [⟨⟨some 20, Op.move (Operand.tmp 5), none⟩, []⟩,
  ⟨⟨some 21, Op.move (Operand.tmp 0), none⟩, []⟩,
  ⟨⟨some 22, Op.call { callee := (Callee.builtin Builtin.len), args := #[(Operand.tmp 21)], argTypes := #[32] }, none⟩, []⟩,
  ⟨⟨some 23, Op.binOp BinOp.lss 3 (Operand.tmp 20) (Operand.tmp 22) 3, none⟩, []⟩,
  ⟨⟨some 24, Op.move (Operand.tmp 23), none⟩, []⟩,
  ⟨⟨some 25, Op.move (Operand.tmp 0), some (24, true)⟩, []⟩,
  ⟨⟨some 26, Op.move (Operand.tmp 5), some (24, true)⟩, []⟩,
  ⟨⟨some 27, Op.indexAddr 32 (Operand.tmp 25) (Operand.tmp 26), some (24, true)⟩, []⟩,
  ⟨⟨some 28, Op.load 3 (Operand.tmp 27), some (24, true)⟩, []⟩,
  ⟨⟨some 29, Op.move (Operand.tmp 1), some (24, true)⟩, []⟩,
  ⟨⟨some 30, Op.binOp BinOp.eql 3 (Operand.tmp 28) (Operand.tmp 29) 3, some (24, true)⟩, []⟩,
  ⟨⟨some 31, Op.pick (Operand.tmp 24) (Operand.tmp 30) (Operand.const (Value.bool false)), none⟩, []⟩]) (.cond (Operand.tmp 31) (.seq (.reg [⟨⟨some 32, Op.move (Operand.tmp 0), none⟩, []⟩,
  ⟨⟨some 4, Op.assign (Operand.tmp 32), none⟩, []⟩]) .ret) .skip)) (.seq (.reg [⟨⟨some 33, Op.buildSlice 32 0 #[], none⟩, []⟩,
  ⟨⟨some 34, Op.move (Operand.tmp 0), none⟩, []⟩,
  ⟨⟨some 35, Op.move (Operand.tmp 5), none⟩, []⟩,
  ⟨⟨some 36, Op.slice 32 (Operand.tmp 34) none (some (Operand.tmp 35)) none, none⟩, []⟩,
  ⟨⟨some 38, Op.move (Operand.tmp 1), none⟩, []⟩,
  ⟨⟨some 39, Op.buildSlice 32 1 #[(0, (Operand.tmp 38))], none⟩, []⟩,
  ⟨⟨some 41, Op.move (Operand.tmp 0), none⟩, []⟩,
  ⟨⟨some 42, Op.move (Operand.tmp 5), none⟩, []⟩,
  ⟨⟨some 43, Op.slice 32 (Operand.tmp 41) (some (Operand.tmp 42)) none none, none⟩, []⟩,
  ⟨⟨some 37, Op.call { callee := (Callee.builtin Builtin.append), args := #[(Operand.tmp 33), (Operand.tmp 36)], argTypes := #[32, 32] }, none⟩, [⟨some 43, Op.slice 32 (Operand.tmp 41) (some (Operand.tmp 42)) none none, none⟩, ⟨some 39, Op.buildSlice 32 1 #[(0, (Operand.tmp 38))], none⟩]⟩,
  ⟨⟨some 40, Op.call { callee := (Callee.builtin Builtin.append), args := #[(Operand.tmp 37), (Operand.tmp 39)], argTypes := #[32, 32] }, none⟩, [⟨some 43, Op.slice 32 (Operand.tmp 41) (some (Operand.tmp 42)) none none, none⟩]⟩,
  ⟨⟨some 44, Op.call { callee := (Callee.builtin Builtin.append), args := #[(Operand.tmp 40), (Operand.tmp 43)], argTypes := #[32, 32] }, none⟩, []⟩,
  ⟨⟨some 4, Op.assign (Operand.tmp 44), none⟩, []⟩]) .ret)))))
theorem sl151 : slim Try.f151.ntmps ords151 (Try.f151.body.getD .skip) = some cd151 := by kernel_rfl
theorem in151 {args : List Value} {H : AH} {R : Value → AH → Prop} (hl : args.length = 2) (h : ∀ (Q : Exit → Sl → AH → Prop), (∀ e s H, endA Try.prog [ResultVar.tmp 4] R e s H → Q e s H) → wpC Try.prog cd151 Q (enterA args) H) : ACalls Try.prog 151 args H R :=
  ACalls.intro (by kernel_rfl) Try.func151 rfl (by kernel_rfl) sl151 hl (of_decide_eq_true (by kernel_rfl)) (by kernel_rfl) h
end Go.Proofs.Ythhnpchjjbjabaa.Ai

namespace Go.Proofs.Ythhnpchjjbjabaa.Ai
open Go Go.RowKit
set_option linter.unusedVariables false
set_option linter.unusedSimpArgs false

set_option maxHeartbeats 2000000 in
theorem l1Put_c (v : Value) (l : List Int) (x : Int) (H : AH) (hr : Row 3 H v l) (hlen : l.length ≤ 1000000) (hx : x ∉ l) :
    ACalls Try.prog 151 [v, .int .i64 x] H fun r H' => Own 3 H H' r (put l x) ∧ H <+: H' := by
  refine in151 rfl ?_
  intro Q hQ
  simp (maxSteps := 1000000) (disch := omega) only [cd151, S, S1, S2, S3, S4, S5, ST, eq_self, reduceIte, reduceCtorEq, Nat.reduceEqDiff, Nat.reduceAdd]
  refine LoopH.by (fun m s H' => ∃ i, m + i = l.length ∧ s 0 = v ∧ s 1 = .int .i64 x ∧ s 5 = .int .i64 ((i : Nat) : Int) ∧ H = H' ∧ ∀ j, j < i → l.getD j 0 < x) l.length ?_ ?_
  · exact ⟨0, by simp, rfl, rfl, rfl, rfl, by omega⟩
  · rintro m s H' ⟨i, hm, h0, h1, h5, rfl, hlt⟩
    have fin : (i < l.length → x ≤ l.getD i 0) → put l x = l.take i ++ x :: l.drop i := by
      intro h
      rw [putAt_eq0 l x i (by omega) hlt h, if_neg]
      rintro ⟨hi, e⟩
      apply hx
      have : l.getD i 0 = l[i] := by simp [hi]
      rw [← e, this]; exact List.getElem_mem hi
    have last : (i < l.length → x ≤ l.getD i 0) → ∀ s' : Sl, s' 0 = v → s' 1 = .int .i64 x → s' 5 = .int .i64 ((i : Nat) : Int) → True := fun _ _ _ _ _ => trivial
    -- the list made anew
    have hp1 := List.prefix_append H [AObj.cells [] 3 false]
    have hp2 : H <+: H ++ [AObj.cells [] 3 false] ++ [AObj.cells [.int .i64 x] 3 false] := pre_app hp1 _
    have sl1 : ∀ H1, H <+: H1 → sliceA Try.prog 32 v none (some (.int .i64 ((i : Nat) : Int))) none H1 = some (subV v 0 i) ∧ Row 3 H1 (subV v 0 i) (l.take i) := by
      intro H1 hp
      have h := (hr.pre hp).slice Try.underlying32 cs3 (lo := none) (hi := some (.int .i64 ((i : Nat) : Int))) lo_none (bound_some (by omega) _) (by omega) (by simp; omega)
      simp only [Int.toNat_natCast, List.drop_zero, Nat.sub_zero] at h
      exact ⟨h.1, h.2.1⟩
    have sl2 : ∀ H1, H <+: H1 → sliceA Try.prog 32 v (some (.int .i64 ((i : Nat) : Int))) none none H1 = some (subV v i l.length) ∧ Row 3 H1 (subV v i l.length) (l.drop i) := by
      intro H1 hp
      have h := (hr.pre hp).slice Try.underlying32 cs3 (lo := some (.int .i64 ((i : Nat) : Int))) (hi := none) (bound_some (by omega) _) (hi_none _) (by simp; omega) (Nat.le_refl _)
      simp only [Int.toNat_natCast] at h
      refine ⟨h.1, ?_⟩
      have e : (l.drop i).take (l.length - i) = l.drop i := List.take_of_length_le (by simp)
      rw [← e]; exact h.2.1
    have ho0 : Own 3 H (H ++ [AObj.cells [] 3 false] ++ [AObj.cells [.int .i64 x] 3 false]) (.slice (some ⟨H.length, 0, none⟩) 0 0) [] := .inr ⟨H.length, rfl, Nat.le_refl _, at_app (at_new ..) _⟩
    obtain ⟨w1, H3, k1, o1, p1, e1, _⟩ := ho0.app (P := Try.prog) (t := 32) Try.underlying32 cs3 (by rw [by3]; decide) zk3 (sl1 _ hp2).2 hp2 (by simp; omega)
    simp only [List.nil_append] at o1
    have c3 : H3[(H ++ [AObj.cells [] 3 false]).length]? = some (.cells [.int .i64 x] 3 false) := e1 _ _ (.inr (by simp [rowO])) (at_new ..)
    have c2 : (H ++ [AObj.cells [] 3 false] ++ [AObj.cells [.int .i64 x] 3 false])[(H ++ [AObj.cells [] 3 false]).length]? = some (.cells [.int .i64 x] 3 false) := at_new ..
    have r39 : Row 3 H3 (.slice (some ⟨(H ++ [AObj.cells [] 3 false]).length, 0, none⟩) 1 1) [x] := .inr ⟨_, 0, [.int .i64 x], false, rfl, c3, by simp, rfl⟩
    obtain ⟨w2, H4, k2, o2, p2, e2, _⟩ := o1.app (P := Try.prog) (t := 32) Try.underlying32 cs3 (by rw [by3]; decide) zk3 r39 p1 (by simp; omega)
    obtain ⟨w3, H5, k3, o3, p3, e3, _⟩ := o2.app (P := Try.prog) (t := 32) Try.underlying32 cs3 (by rw [by3]; decide) zk3 (sl2 _ p2).2 p2 (by simp; omega)
    have hcat : l.take i ++ [x] ++ l.drop i = l.take i ++ x :: l.drop i := by simp
    simp (maxSteps := 1000000) (disch := omega) only [h0, h1, h5, hr.len Try.underlying32, S, S1, S2, S3, S4, S5, ST, eq_self, reduceIte, reduceCtorEq, Nat.reduceEqDiff, Nat.reduceAdd]
    refine brD.intro (fun g => ?_) (fun g => ?_)
    · have hi : i < l.length := by omega
      simp (maxSteps := 1000000) (disch := omega) only [g, h0, h1, h5, hr.ix Try.underlying32 cs3, hr.cell, Int.toNat_natCast, S, S1, S2, S3, S4, S5, ST, eq_self, reduceIte, reduceCtorEq, Nat.reduceEqDiff, Nat.reduceAdd]
      refine brD.intro (fun e => ?_) (fun e => ?_)
      · simp (maxSteps := 1000000) (disch := omega) only [h0, h1, h5, wrap64, S, S1, S2, S3, S4, S5, ST, eq_self, reduceIte, reduceCtorEq, Nat.reduceEqDiff, Nat.reduceAdd]
        have fx : ∀ j, j < i + 1 → l.getD j 0 < x := by
          intro j hj
          by_cases ej : j = i
          · subst ej; exact e
          · exact hlt j (by omega)
        refine ⟨m - 1, by omega, i + 1, ?_⟩
        (repeat' apply And.intro) <;> first | exact fx | (simp only [Value.int.injEq, true_and]; omega) | omega | rfl | assumption | (simp; done) | (simp; omega)
      · have hne : ¬ l.getD i 0 = x := fun h => hx (by
          have : l.getD i 0 = l[i] := by simp [hi]
          rw [← h, this]; exact List.getElem_mem hi)
        simp (maxSteps := 1000000) (disch := omega) only [g, h0, h1, h5, hr.len Try.underlying32, hr.ix Try.underlying32 cs3, hr.cell, Int.toNat_natCast, S, S1, S2, S3, S4, S5, ST, eq_self, reduceIte, reduceCtorEq, Nat.reduceEqDiff, Nat.reduceAdd]
        refine brD.intro (fun h => absurd h hne) (fun hne => ?_)
        simp (maxSteps := 1000000) (disch := omega) only [hne, g, h0, h1, h5, (sl1 _ hp1).1, (sl2 _ hp2).1, k1, k2, k3, (sl2 _ p1).1, (sl2 _ p2).1, c2, c3, S, S1, S2, S3, S4, S5, ST, eq_self, reduceIte, reduceCtorEq, Nat.reduceEqDiff, Nat.reduceAdd]
        refine hQ _ _ _ ?_
        simp (maxSteps := 1000000) (disch := omega) only [o3.row.tup, S, S1, S2, S3, S4, S5, ST, eq_self, reduceIte, reduceCtorEq, Nat.reduceEqDiff, Nat.reduceAdd]
        rw [fin (fun _ => by omega), ← hcat]
        exact ⟨o3, p3⟩
    · simp (maxSteps := 1000000) (disch := omega) only [g, h0, h1, h5, hr.len Try.underlying32, S, S1, S2, S3, S4, S5, ST, eq_self, reduceIte, reduceCtorEq, Nat.reduceEqDiff, Nat.reduceAdd]
      simp (maxSteps := 1000000) (disch := omega) only [h0, h1, h5, (sl1 _ hp1).1, (sl2 _ hp2).1, k1, k2, k3, (sl2 _ p1).1, (sl2 _ p2).1, c2, c3, g, S, S1, S2, S3, S4, S5, ST, eq_self, reduceIte, reduceCtorEq, Nat.reduceEqDiff, Nat.reduceAdd]
      refine hQ _ _ _ ?_
      simp (maxSteps := 1000000) (disch := omega) only [o3.row.tup, S, S1, S2, S3, S4, S5, ST, eq_self, reduceIte, reduceCtorEq, Nat.reduceEqDiff, Nat.reduceAdd]
      rw [fin (fun _ => by omega), ← hcat]
      exact ⟨o3, p3⟩
end Go.Proofs.Ythhnpchjjbjabaa.Ai
