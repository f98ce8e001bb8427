/- The parts of places that are joined by roads (impl.parts). -/
import Derived.Test.YthhnpchjjbjabaaPartP
import Derived.Test.YthhnpchjjbjabaaBfs
import Derived.Test.YthhnpchjjbjabaaSort
import Derived.Test.YthhnpchjjbjabaaAppL
import Derived.Test.YthhnpchjjbjabaaGrf
import Derived.Test.YthhnpchjjbjabaaProg
import Derived.Test.YthhnpchjjbjabaaAiM2
import Derived.KernelRfl
/- Slim code of this translation. By the kernel. -/
namespace Go.Proofs.Ythhnpchjjbjabaa.Ai
open Go

/- loop.example/g01128/impl.parts -/
def ords114 : List (Nat × List (Nat × Bool)) := [(1, [(0, false), (1, false), (2, false), (3, false), (4, false), (5, false)])]
def cd114 : Cd := (.seq (.reg [⟨⟨some 4, Op.assign (Operand.const (Value.slice none 0 0)), none⟩, []⟩]) (.seq (.reg [⟨⟨some 12, Op.buildSlice 38 0 #[], none⟩, []⟩,
  ⟨⟨some 13, Op.move (Operand.tmp 0), none⟩, []⟩,
  ⟨⟨some 14, Op.call { callee := (Callee.builtin Builtin.len), args := #[(Operand.tmp 13)], argTypes := #[38] }, none⟩, []⟩,
  ⟨⟨some 15, Op.makeSlice 128 (Operand.tmp 14) (Operand.tmp 14), none⟩, []⟩,
  ⟨⟨some 5, Op.assign (Operand.tmp 12), none⟩, []⟩,
  ⟨⟨some 6, Op.assign (Operand.tmp 15), none⟩, []⟩]) (.seq (.seq (.reg [⟨⟨some 16, Op.move (Operand.tmp 1), none⟩, []⟩,
  ⟨⟨some 17, Op.binOp BinOp.geq 3 (Operand.tmp 16) (Operand.const (Value.int IntKind.i64 0)) 3, none⟩, []⟩]) (.cond (Operand.tmp 17) (.reg [⟨⟨some 18, Op.move (Operand.tmp 6), none⟩, []⟩,
  ⟨⟨some 19, Op.move (Operand.tmp 1), none⟩, []⟩,
  ⟨⟨some 20, Op.indexAddr 128 (Operand.tmp 18) (Operand.tmp 19), none⟩, []⟩,
  ⟨⟨none, Op.store 4 (Operand.tmp 20) (Operand.const (Value.bool true)), none⟩, []⟩]) .skip)) (.seq (.seq (.reg [⟨⟨some 21, Op.move (Operand.tmp 0), none⟩, []⟩,
  ⟨⟨some 22, Op.call { callee := (Callee.builtin Builtin.len), args := #[(Operand.tmp 21)], argTypes := #[38] }, none⟩, []⟩,
  ⟨⟨some 23, Op.move (Operand.const (Value.int IntKind.i64 0)), none⟩, []⟩]) (.block 0 (.loop (.seq (.reg [⟨⟨some 24, Op.binOp BinOp.lss 3 (Operand.tmp 23) (Operand.tmp 22) 3, none⟩, []⟩]) (.seq (.cond (Operand.tmp 24) .skip (.exit 0)) (.seq (.block 1 (.seq (.reg [⟨⟨some 25, Op.move (Operand.tmp 23), none⟩, []⟩,
  ⟨⟨some 7, Op.assign (Operand.tmp 25), none⟩, []⟩]) (.seq (.seq (.reg [⟨⟨some 26, Op.move (Operand.tmp 6), none⟩, []⟩,
  ⟨⟨some 27, Op.move (Operand.tmp 7), none⟩, []⟩,
  ⟨⟨some 28, Op.indexAddr 128 (Operand.tmp 26) (Operand.tmp 27), none⟩, []⟩,
  ⟨⟨some 29, Op.load 4 (Operand.tmp 28), none⟩, []⟩]) (.cond (Operand.tmp 29) (.exit 1) .skip)) (.seq (.reg [⟨⟨some 30, Op.move (Operand.tmp 6), none⟩, []⟩,
  ⟨⟨some 31, Op.move (Operand.tmp 7), none⟩, []⟩,
  ⟨⟨some 32, Op.indexAddr 128 (Operand.tmp 30) (Operand.tmp 31), none⟩, []⟩,
  ⟨⟨none, Op.store 4 (Operand.tmp 32) (Operand.const (Value.bool true)), none⟩, []⟩]) (.seq (.reg [⟨⟨some 33, Op.move (Operand.tmp 7), none⟩, []⟩,
  ⟨⟨some 34, Op.buildSlice 32 1 #[(0, (Operand.tmp 33))], none⟩, []⟩,
  ⟨⟨some 8, Op.assign (Operand.tmp 34), none⟩, []⟩]) (.seq (.seq (.reg [⟨⟨some 9, Op.assign (Operand.const (Value.int IntKind.i64 0)), none⟩, []⟩]) (.block 2 (.loop (.seq (.seq (.reg [⟨⟨some 35, Op.move (Operand.tmp 9), none⟩, []⟩,
  ⟨⟨some 36, Op.move (Operand.tmp 8), none⟩, []⟩,
  ⟨⟨some 37, Op.call { callee := (Callee.builtin Builtin.len), args := #[(Operand.tmp 36)], argTypes := #[32] }, none⟩, []⟩,
  ⟨⟨some 38, Op.binOp BinOp.lss 3 (Operand.tmp 35) (Operand.tmp 37) 3, none⟩, []⟩]) (.cond (Operand.tmp 38) .skip (.exit 2))) (.seq (.block 3 (.seq (.reg [⟨⟨some 41, Op.move (Operand.tmp 0), none⟩, []⟩,
  ⟨⟨some 42, Op.move (Operand.tmp 8), none⟩, []⟩,
  ⟨⟨some 43, Op.move (Operand.tmp 9), none⟩, []⟩,
  ⟨⟨some 44, Op.indexAddr 32 (Operand.tmp 42) (Operand.tmp 43), none⟩, []⟩,
  ⟨⟨some 45, Op.load 3 (Operand.tmp 44), none⟩, []⟩,
  ⟨⟨some 46, Op.indexAddr 38 (Operand.tmp 41) (Operand.tmp 45), none⟩, []⟩,
  ⟨⟨some 47, Op.load 32 (Operand.tmp 46), none⟩, []⟩,
  ⟨⟨some 48, Op.call { callee := (Callee.builtin Builtin.len), args := #[(Operand.tmp 47)], argTypes := #[32] }, none⟩, []⟩,
  ⟨⟨some 49, Op.move (Operand.const (Value.int IntKind.i64 0)), none⟩, []⟩]) (.block 4 (.loop (.seq (.reg [⟨⟨some 50, Op.binOp BinOp.lss 3 (Operand.tmp 49) (Operand.tmp 48) 3, none⟩, []⟩]) (.seq (.cond (Operand.tmp 50) .skip (.exit 4)) (.seq (.block 5 (.seq (.reg [⟨⟨some 51, Op.indexAddr 32 (Operand.tmp 47) (Operand.tmp 49), none⟩, []⟩,
  ⟨⟨some 52, Op.load 3 (Operand.tmp 51), none⟩, []⟩,
  ⟨⟨some 11, Op.assign (Operand.tmp 52), none⟩, []⟩]) (.seq (.reg [⟨⟨some 53, Op.move (Operand.tmp 6), none⟩, []⟩,
  ⟨⟨some 54, Op.move (Operand.tmp 11), none⟩, []⟩,
  ⟨⟨some 55, Op.indexAddr 128 (Operand.tmp 53) (Operand.tmp 54), none⟩, []⟩,
  ⟨⟨some 56, Op.load 4 (Operand.tmp 55), none⟩, []⟩,
  ⟨⟨some 57, Op.unOp UnOp.not 4 (Operand.tmp 56), none⟩, []⟩]) (.cond (Operand.tmp 57) (.seq (.reg [⟨⟨some 58, Op.move (Operand.tmp 6), none⟩, []⟩,
  ⟨⟨some 59, Op.move (Operand.tmp 11), none⟩, []⟩,
  ⟨⟨some 60, Op.indexAddr 128 (Operand.tmp 58) (Operand.tmp 59), none⟩, []⟩,
  ⟨⟨none, Op.store 4 (Operand.tmp 60) (Operand.const (Value.bool true)), none⟩, []⟩]) (.reg [⟨⟨some 61, Op.move (Operand.tmp 8), none⟩, []⟩,
  ⟨⟨some 62, Op.move (Operand.tmp 11), none⟩, []⟩,
  ⟨⟨some 63, Op.buildSlice 32 1 #[(0, (Operand.tmp 62))], none⟩, []⟩,
  ⟨⟨some 64, Op.call { callee := (Callee.builtin Builtin.append), args := #[(Operand.tmp 61), (Operand.tmp 63)], argTypes := #[32, 32] }, none⟩, []⟩,
  ⟨⟨some 8, Op.assign (Operand.tmp 64), none⟩, []⟩])) .skip)))) (.reg [⟨⟨some 65, Op.binOp BinOp.add 3 (Operand.tmp 49) (Operand.const (Value.int IntKind.i64 1)) 3, none⟩, []⟩,
  ⟨⟨some 49, Op.move (Operand.tmp 65), none⟩, []⟩])))))))) (.reg [⟨⟨some 39, Op.move (Operand.tmp 9), none⟩, []⟩,
  ⟨⟨some 40, Op.binOp BinOp.add 3 (Operand.tmp 39) (Operand.const (Value.int IntKind.i64 1)) 3, none⟩, []⟩,
  ⟨⟨some 9, Op.assign (Operand.tmp 40), none⟩, []⟩])))))) (.seq (.reg [⟨⟨some 66, Op.move (Operand.tmp 8), none⟩, []⟩,
  ⟨⟨some 67, Op.call { callee := (Callee.value (Operand.func 153)), args := #[(Operand.tmp 66)], argTypes := #[32] }, none⟩, []⟩]) (.reg [⟨⟨some 68, Op.move (Operand.tmp 5), none⟩, []⟩,
  ⟨⟨some 69, Op.move (Operand.tmp 8), none⟩, []⟩,
  ⟨⟨some 70, Op.buildSlice 38 1 #[(0, (Operand.tmp 69))], none⟩, []⟩,
  ⟨⟨some 71, Op.call { callee := (Callee.builtin Builtin.append), args := #[(Operand.tmp 68), (Operand.tmp 70)], argTypes := #[38, 38] }, none⟩, []⟩,
  ⟨⟨some 5, Op.assign (Operand.tmp 71), none⟩, []⟩])))))))) (.reg [⟨⟨some 72, Op.binOp BinOp.add 3 (Operand.tmp 23) (Operand.const (Value.int IntKind.i64 1)) 3, none⟩, []⟩,
  ⟨⟨some 23, Op.move (Operand.tmp 72), none⟩, []⟩]))))))) (.seq (.reg [⟨⟨some 73, Op.move (Operand.tmp 5), none⟩, []⟩,
  ⟨⟨some 4, Op.assign (Operand.tmp 73), none⟩, []⟩]) .ret)))))
theorem sl114 : slim Try.f114.ntmps ords114 (Try.f114.body.getD .skip) = some cd114 := by kernel_rfl
theorem in114 {args : List Value} {H : AH} {R : Value → AH → Prop} (hl : args.length = 2) (h : ∀ (Q : Exit → Sl → AH → Prop), (∀ e s H, endA Try.prog [ResultVar.tmp 4] R e s H → Q e s H) → wpC Try.prog cd114 Q (enterA args) H) : ACalls Try.prog 114 args H R :=
  ACalls.intro (by kernel_rfl) Try.func114 rfl (by kernel_rfl) sl114 hl (of_decide_eq_true (by kernel_rfl)) (by kernel_rfl) h
end Go.Proofs.Ythhnpchjjbjabaa.Ai

namespace Go.Proofs.Ythhnpchjjbjabaa.Ai
open Go Go.RowKit
set_option linter.unusedVariables false
set_option linter.unusedSimpArgs false

def bls (bs : List Bool) : List Value := bs.map Value.bool
theorem bls_len (bs : List Bool) : (bls bs).length = bs.length := by simp [bls]
theorem mk_bools {n : Int} (h0 : 0 ≤ n) (h1 : n ≤ 1099511627776) (H : AH) :
    makeSliceA Try.prog 128 (.int .i64 n) (.int .i64 n) H = some (.slice (some ⟨H.length, 0, none⟩) n.toNat n.toNat, H ++ [.cells (bls (List.replicate n.toNat false)) 4 false]) := by
  have hb2 : n.toNat * Try.prog.bytesOf 4 ≤ 281474976710656 := by
    rw [by4]; omega
  have hzc : (Value.bool false).cells = #[.bool false] := rfl
  have hzs : zerosA (.bool false) (n.toNat * 1) = bls (List.replicate n.toNat false) := by
    unfold zerosA bls
    rw [hzc, Nat.mul_one, List.map_replicate]
    apply List.ext_getElem
    · simp
    · intro i h1 h2
      simp [Nat.mod_one]
  simp only [makeSliceA, Try.underlying128, cs4, ze4]
  rw [if_pos ⟨trivial, h0, by omega, hb2, by omega⟩, if_pos ⟨by simp [plainCs, hzc, plainC], by simp [hzc]⟩, hzs]
theorem cell_bls {H : AH} {o i : Nat} {bs : List Bool} {e : TypeId} {ro : Bool} (ho : H[o]? = some (.cells (bls bs) e ro)) (hi : i < bs.length) : cellA H o i = some (.bool (bs.getD i false)) := by
  rw [cell_of ho]
  simp [bls, hi]
theorem st_bls {H : AH} {o i : Nat} {bs : List Bool} {e : TypeId} (ho : H[o]? = some (.cells (bls bs) e false)) (hi : i < bs.length) (b : Bool) : storeA Try.prog 4 (.pointer (some ⟨o, i, none⟩)) (.bool b) H = some (H.set o (.cells (bls (bs.set i b)) e false)) := by
  have := st_at (P := Try.prog) (t := 4) (i := i) (y := .bool b) cs4 ho (by rw [bls_len]; exact hi) rfl rfl
  rw [this]
  simp [bls, List.map_set]

set_option maxRecDepth 20000 in
set_option maxHeartbeats 4000000 in
theorem parts_c (v : Value) (L : List (List Int)) (wo : Int) (H : AH) {b : Nat} (hr : RowLB b 32 3 H v L) (hL : LOk L.length L) (hN : L.length ≤ 12) (hwo : -1 ≤ wo ∧ wo < L.length) (hls : ∀ x, (L.getD x []).length ≤ 1000000000) :
    ACalls Try.prog 114 [v, .int .i64 wo] H fun r H' => InL H.length H'.length 32 3 H' r (partsL L wo) ∧ H <+: H' := by
  refine in114 rfl ?_
  intro Q hQ
  obtain ⟨us, hus, hvb, hul, hin⟩ := hr
  have mk := mk_bools (n := (L.length : Int)) (by omega) (by omega)
  simp only [Int.toNat_natCast] at mk
  simp (maxSteps := 1000000) (disch := omega) only [cd114, hus.len Try.underlying38, hul, mk, S, S1, S2, S3, S4, S5, ST, eq_self, reduceIte, reduceCtorEq, Nat.reduceEqDiff, Nat.reduceAdd]
  generalize hA : H ++ [AObj.cells [] 32 false] = A
  have pA : H <+: A := by rw [← hA]; exact List.prefix_append _ _
  have cA : A[H.length]? = some (.cells [] 32 false) := by rw [← hA]; exact at_new ..
  have lA : A.length = H.length + 1 := by rw [← hA]; simp
  generalize hB : A ++ [AObj.cells (bls (List.replicate L.length false)) 4 false] = B
  have pB : A <+: B := by rw [← hB]; exact List.prefix_append _ _
  have cB : B[A.length]? = some (.cells (bls (List.replicate L.length false)) 4 false) := by rw [← hB]; exact at_new ..
  have lB : B.length = A.length + 1 := by rw [← hB]; simp
  have uB : InU H.length B.length 32 3 B H.length [] [] := ⟨Nat.le_refl _, by omega, pre_at pB cA, Nat.le_refl _, fun i hi => absurd hi (by simp), fun i j _ hi _ => absurd hi (by simp)⟩
  have pHB := pA.trans pB
  refine brD.intro (fun g0 => ?_) (fun g0 => ?_)
  · obtain ⟨w0, hw0⟩ : ∃ w0 : Nat, wo = w0 := ⟨wo.toNat, by omega⟩
    subst hw0
    have hwl : w0 < (List.replicate L.length false).length := by simp; omega
    simp (maxSteps := 1000000) (disch := omega) only [Int.toNat_natCast, Nat.zero_add, st_bls cB hwl, S, S1, S2, S3, S4, S5, ST, eq_self, reduceIte, reduceCtorEq, Nat.reduceEqDiff, Nat.reduceAdd]
    obtain ⟨s0, hs0⟩ : ∃ s0, s0 = (List.replicate L.length false).set w0 true := ⟨_, rfl⟩
    have hs0e : s0 = seen0 L.length (w0 : Int) := by unfold seen0; rw [if_pos (by omega), hs0, Int.toNat_natCast]
    rw [← hs0]
    generalize hCC : B.set A.length (.cells (bls s0) 4 false) = C
    have cS : C[A.length]? = some (.cells (bls s0) 4 false) := by rw [← hCC]; exact at_set cB
    have pC : H <+: C := by rw [← hCC]; exact pre_set pHB (by omega) _
    have lC : C.length = B.length := by rw [← hCC]; simp
    have uC : InU H.length C.length 32 3 C H.length [] [] := by
      rw [lC, ← hCC]
      have aw0 : Away A.length H.length [] ([] : List (List Int)) := ⟨by omega, fun i hi => absurd hi (by simp)⟩
      exact uB.moveq aw0 fun j y hj hy => by rw [List.getElem?_set_ne (fun e => hj e.symm)]; exact hy
    have hs0l : s0.length = L.length := by rw [hs0]; simp
    simp (maxSteps := 1000000) (disch := omega) only [hus.len Try.underlying38, hul, S, S1, S2, S3, S4, S5, ST, eq_self, reduceIte, reduceCtorEq, Nat.reduceEqDiff, Nat.reduceAdd]
    refine LoopH.by (fun m s H' => ∃ i oo vs, m + i = L.length ∧ s 0 = v ∧ s 5 = .slice (some ⟨oo, 0, none⟩) (prF L s0 i).2.length (prF L s0 i).2.length ∧ s 6 = .slice (some ⟨A.length, 0, none⟩) L.length L.length ∧ s 22 = .int .i64 (L.length : Int) ∧ s 23 = .int .i64 ((i : Nat) : Int) ∧ H'[A.length]? = some (.cells (bls (prF L s0 i).1) 4 false) ∧ InU H.length H'.length 32 3 H' oo vs (prF L s0 i).2 ∧ Away A.length oo vs (prF L s0 i).2 ∧ H <+: H') L.length ?_ ?_
    · exact ⟨0, H.length, [], by simp, rfl, rfl, rfl, rfl, rfl, cS, uC, ⟨by omega, fun i hi => absurd hi (by simp [prF])⟩, pC⟩
    rintro m s H' ⟨i, oo, vs, hm, h0, h5, h6, h22, h23, hcs, hin1, haw, hpp⟩
    obtain ⟨hsl, hpl⟩ := prF_len L s0 (by rw [hs0l]) hL i (by omega)
    have hstep : prF L s0 (i + 1) = if (prF L s0 i).1.getD i false = true then prF L s0 i else ((ptF L (L.length + 1) ((prF L s0 i).1.set i true, [(i : Int)]) 0).1, (prF L s0 i).2 ++ [inOrd L.length (ptF L (L.length + 1) ((prF L s0 i).1.set i true, [(i : Int)]) 0).2]) := rfl
    have hfin : i = L.length → (prF L s0 L.length).2 = (prF L s0 i).2 := fun e => by rw [e]
    generalize hSe : (prF L s0 i).1 = Se at *
    generalize hPs : (prF L s0 i).2 = Ps at *
    simp (maxSteps := 1000000) (disch := omega) only [h0, h5, h6, h22, h23, S, S1, S2, S3, S4, S5, ST, eq_self, reduceIte, reduceCtorEq, Nat.reduceEqDiff, Nat.reduceAdd]
    refine brD.intro (fun g => ?_) (fun g => ?_)
    rotate_left
    · have hi : i = L.length := by omega
      simp (maxSteps := 1000000) (disch := omega) only [h5, S, S1, S2, S3, S4, S5, ST, eq_self, reduceIte, reduceCtorEq, Nat.reduceEqDiff, Nat.reduceAdd]
      refine hQ _ _ _ ?_
      simp (maxSteps := 1000000) (disch := omega) only [h5, S, S1, S2, S3, S4, S5, ST, eq_self, reduceIte, reduceCtorEq, Nat.reduceEqDiff, Nat.reduceAdd]
      have hP : partsL L (w0 : Int) = Ps := by unfold partsL; rw [← hs0e, hfin hi]
      rw [hP]
      exact ⟨hin1.inl, hpp⟩
    have hi : i < L.length := by omega
    have hiS : i < Se.length := by omega
    simp (maxSteps := 1000000) (disch := omega) only [h0, h5, h6, h22, h23, Int.toNat_natCast, Nat.zero_add, cell_bls hcs hiS, S, S1, S2, S3, S4, S5, ST, eq_self, reduceIte, reduceCtorEq, Nat.reduceEqDiff, Nat.reduceAdd]
    refine brH.intro (fun e1 => ?_) (fun e1 => ?_)
    · rw [if_pos e1] at hstep
      simp (maxSteps := 1000000) (disch := omega) only [e1, h0, h5, h6, h22, h23, wrap64, S, S1, S2, S3, S4, S5, ST, eq_self, reduceIte, reduceCtorEq, Nat.reduceEqDiff, Nat.reduceAdd]
      refine ⟨m - 1, by omega, i + 1, oo, vs, ?_⟩
      have g1 : (prF L s0 (i + 1)).1 = Se := by rw [hstep, hSe]
      have g2 : (prF L s0 (i + 1)).2 = Ps := by rw [hstep, hPs]
      rw [g1, g2]
      (repeat' first | exact hcs | exact hin1 | exact haw | exact hpp | apply And.intro) <;> first | (simp only [Value.int.injEq, true_and]; omega) | omega | rfl | assumption | (simp; done) | (simp; omega)
    have hne : ¬ Se.getD i false = true := by rw [e1]; decide
    rw [if_neg hne] at hstep
    have hPI := PI.first hsl hi hne
    generalize hCn : Se.countP (fun b => !b) = Cn at hPI
    simp (maxSteps := 1000000) (disch := omega) only [e1, h0, h5, h6, h22, h23, Int.toNat_natCast, Nat.zero_add, st_bls hcs hiS, S, S1, S2, S3, S4, S5, ST, eq_self, reduceIte, reduceCtorEq, Nat.reduceEqDiff, Nat.reduceAdd]
    have hin2 : InU H.length H'.length 32 3 (H'.set A.length (.cells (bls (Se.set i true)) 4 false)) oo vs Ps := hin1.moveq haw fun j y hj hy => by rw [List.getElem?_set_ne (fun e => hj e.symm)]; exact hy
    have hcs2 : (H'.set A.length (.cells (bls (Se.set i true)) 4 false))[A.length]? = some (.cells (bls (Se.set i true)) 4 false) := at_set hcs
    have hpp2 : H <+: H'.set A.length (.cells (bls (Se.set i true)) 4 false) := pre_set hpp (by omega) _
    have hll : (H'.set A.length (.cells (bls (Se.set i true)) 4 false)).length = H'.length := by simp
    generalize hG : H'.set A.length (.cells (bls (Se.set i true)) 4 false) = G at *
    have hltS := at_lt hcs
    have lH' := hpp.length_le
    refine LoopH.by (fun m s G' => ∃ st k op, m + k = L.length ∧ s 0 = v ∧ s 5 = .slice (some ⟨oo, 0, none⟩) Ps.length Ps.length ∧ s 6 = .slice (some ⟨A.length, 0, none⟩) L.length L.length ∧ s 8 = .slice (some ⟨op, 0, none⟩) st.2.length st.2.length ∧ s 9 = .int .i64 ((k : Nat) : Int) ∧ s 22 = .int .i64 (L.length : Int) ∧ s 23 = .int .i64 ((i : Nat) : Int) ∧ k ≤ st.2.length ∧ G'[A.length]? = some (.cells (bls st.1) 4 false) ∧ G'[op]? = some (.cells (ints st.2) 3 false) ∧ H'.length ≤ op ∧ InU H.length H'.length 32 3 G' oo vs Ps ∧ PI L.length Cn st ∧ ptF L (m + 1) st k = ptF L (L.length + 1) (Se.set i true, [(i : Int)]) 0 ∧ H <+: G') L.length ?_ ?_
    · refine ⟨(Se.set i true, [(i : Int)]), 0, G.length, by omega, ?_⟩
      simp only [S, S1, S2, S3, S4, S5, ST, eq_self, reduceIte, reduceCtorEq, Nat.reduceEqDiff, Nat.reduceAdd, h0, h5, h6, h22, h23]
      have q1 := at_app hcs2 [AObj.cells [.int .i64 (i : Int)] 3 false]
      have q2 : (G ++ [AObj.cells [.int .i64 (i : Int)] 3 false])[G.length]? = some (.cells (ints [(i : Int)]) 3 false) := at_new ..
      have q3 := hin2.pre (List.prefix_append G [AObj.cells [.int .i64 (i : Int)] 3 false])
      have q4 := pre_app hpp2 [AObj.cells [.int .i64 (i : Int)] 3 false]
      (repeat' first | exact q1 | exact q2 | exact q3 | exact q4 | exact hPI | apply And.intro) <;> first | (simp only [Value.int.injEq, true_and]; omega) | omega | rfl | assumption | (simp; done) | (simp; omega)
    rintro mk s G' ⟨st, k, op, hmk, h0, h5, h6, h8, h9, h22, h23, hkl, hcs3, hcp, hop, hin3, hpi, hF, hpp3⟩
    have hle := hpi.len_le
    simp (maxSteps := 1000000) (disch := omega) only [h0, h5, h6, h8, h9, h22, h23, S, S1, S2, S3, S4, S5, ST, eq_self, reduceIte, reduceCtorEq, Nat.reduceEqDiff, Nat.reduceAdd]
    refine brD.intro (fun gk => ?_) (fun gk => ?_)
    · have hk : k < st.2.length := by omega
      rw [ptF_step L mk st k hk] at hF
      have hqm : st.2.getD k 0 ∈ st.2 := by simp [hk]
      obtain ⟨hxr, _⟩ := hpi.q _ hqm
      obtain ⟨x, hx⟩ : ∃ x : Nat, st.2.getD k 0 = x := ⟨(st.2.getD k 0).toNat, by omega⟩
      have hcell := cell_ints hcp hk
      rw [hx] at hF hxr hcell
      rw [Int.toNat_natCast] at hF
      have hus' := hus.pre hpp3
      have hxu : x < us.length := by omega
      have hinH := (hin x (by omega)).1
      have hin' := hinH.pre hpp3
      have hlb := hls x
      have hLx := hL x
      simp (maxSteps := 1000000) (disch := omega) only [h0, h5, h6, h8, h9, h22, h23, hcell, hus'.ix Try.underlying38 cs32, hus'.cell, Int.toNat_natCast, Nat.zero_add, S, S1, S2, S3, S4, S5, ST, eq_self, reduceIte, reduceCtorEq, Nat.reduceEqDiff, Nat.reduceAdd]
      generalize hw : us.getD x undef = w at *
      generalize hl : L.getD x [] = l at *
      simp (maxSteps := 1000000) (disch := omega) only [hin'.len Try.underlying32, S, S1, S2, S3, S4, S5, ST, eq_self, reduceIte, reduceCtorEq, Nat.reduceEqDiff, Nat.reduceAdd]
      refine LoopH.by (fun m' s' G2 => ∃ j st' op', m' + j = l.length ∧ s' 0 = v ∧ s' 5 = .slice (some ⟨oo, 0, none⟩) Ps.length Ps.length ∧ s' 6 = .slice (some ⟨A.length, 0, none⟩) L.length L.length ∧ s' 8 = .slice (some ⟨op', 0, none⟩) st'.2.length st'.2.length ∧ s' 9 = .int .i64 ((k : Nat) : Int) ∧ s' 22 = .int .i64 (L.length : Int) ∧ s' 23 = .int .i64 ((i : Nat) : Int) ∧ s' 47 = w ∧ s' 48 = .int .i64 (l.length : Int) ∧ s' 49 = .int .i64 ((j : Nat) : Int) ∧ G2[A.length]? = some (.cells (bls st'.1) 4 false) ∧ G2[op']? = some (.cells (ints st'.2) 3 false) ∧ H'.length ≤ op' ∧ InU H.length H'.length 32 3 G2 oo vs Ps ∧ PI L.length Cn st' ∧ st.2 <+: st'.2 ∧ ptIn (l.drop j) st' = ptIn l st ∧ H <+: G2) l.length ?_ ?_
      · refine ⟨0, st, op, by simp, ?_⟩
        simp only [S, S1, S2, S3, S4, S5, ST, eq_self, reduceIte, reduceCtorEq, Nat.reduceEqDiff, Nat.reduceAdd, h0, h5, h6, h8, h9, h22, h23]
        have hd2 : ptIn (l.drop 0) st = ptIn l st := by rw [List.drop_zero]
        have hpr := List.prefix_refl st.2
        (repeat' first | exact hcs3 | exact hcp | exact hin3 | exact hpi | exact hd2 | exact hpr | exact hpp3 | apply And.intro) <;> first | (simp only [Value.int.injEq, true_and]; omega) | omega | rfl | assumption | (simp; done) | (simp; omega)
      · rintro m' s' G2 ⟨j, st', op', hm', g0, g5, g6, g8, g9, g22, g23, g47, g48, g49, hcs4, hcp4, hop4, hin4, hpi4, hpre, hD, hpp4⟩
        have hw' := hinH.pre hpp4
        have hle' := hpi4.len_le
        have hlen' := hpi4.len
        simp (maxSteps := 1000000) (disch := omega) only [g0, g5, g6, g8, g9, g22, g23, g47, g48, g49, S, S1, S2, S3, S4, S5, ST, eq_self, reduceIte, reduceCtorEq, Nat.reduceEqDiff, Nat.reduceAdd]
        refine brD.intro (fun q => ?_) (fun q => ?_)
        · have hj : j < l.length := by omega
          rw [ptIn_drop l j hj] at hD
          have hym : l.getD j 0 ∈ l := by simp [hj]
          have hyr := hLx _ hym
          obtain ⟨y, hy⟩ : ∃ y : Nat, l.getD j 0 = y := ⟨(l.getD j 0).toNat, by omega⟩
          rw [hy] at hD hyr
          rw [Int.toNat_natCast] at hD
          have hyl : y < st'.1.length := by omega
          have hcw := hw'.cell hj
          rw [hy] at hcw
          simp (maxSteps := 1000000) (disch := omega) only [g0, g5, g6, g8, g9, g22, g23, g47, g48, g49, hw'.ix Try.underlying32 cs3, hcw, Int.toNat_natCast, Nat.zero_add, cell_bls hcs4 hyl, S, S1, S2, S3, S4, S5, ST, eq_self, reduceIte, reduceCtorEq, Nat.reduceEqDiff, Nat.reduceAdd]
          refine brH.intro (fun e => ?_) (fun e => ?_)
          · rw [if_pos e] at hD
            simp (maxSteps := 1000000) (disch := omega) only [e, g0, g5, g6, g8, g9, g22, g23, g47, g48, g49, wrap64, S, S1, S2, S3, S4, S5, ST, eq_self, reduceIte, reduceCtorEq, Nat.reduceEqDiff, Nat.reduceAdd]
            refine ⟨m' - 1, by omega, j + 1, st', op', ?_⟩
            (repeat' first | exact hcs4 | exact hcp4 | exact hin4 | exact hpi4 | exact hpre | exact hD | exact hpp4 | apply And.intro) <;> first | (simp only [Value.int.injEq, true_and]; omega) | omega | rfl | assumption | (simp; done) | (simp; omega)
          · have hnn : ¬ st'.1.getD y false = true := by rw [e]; decide
            rw [if_neg hnn] at hD
            have hb2 := hpi4.put (j := (y : Int)) hyr (by rw [Int.toNat_natCast]; exact hnn)
            rw [Int.toNat_natCast] at hb2
            have hlt4 := at_lt hcs4
            have hltp := at_lt hcp4
            have hcp5 : (G2.set A.length (.cells (bls (st'.1.set y true)) 4 false))[op']? = some (.cells (ints st'.2) 3 false) := by rw [List.getElem?_set_ne (by omega)]; exact hcp4
            have hap := appi32 (x := (y : Int)) (n := st'.2.length) (c := st'.2.length) hcp5 rfl (by omega)
            simp (maxSteps := 1000000) (disch := omega) only [e, g0, g5, g6, g8, g9, g22, g23, g47, g48, g49, Int.toNat_natCast, Nat.zero_add, st_bls hcs4 hyl, hap, wrap64, S, S1, S2, S3, S4, S5, ST, eq_self, reduceIte, reduceCtorEq, Nat.reduceEqDiff, Nat.reduceAdd]
            have f1 : st.2 <+: st'.2 ++ [(y : Int)] := hpre.trans (List.prefix_append _ _)
            have f2 : (st'.2 ++ [(y : Int)]).length = st'.2.length + 1 := by simp
            have aw : ∀ {o z}, o ≠ A.length → o ≠ op' → G2[o]? = some z → ((G2.set A.length (.cells (bls (st'.1.set y true)) 4 false)).set op' .dead ++ [AObj.cells [.int .i64 (y : Int)] 3 false, .cells (ints (st'.2 ++ [(y : Int)])) 3 false])[o]? = some z := by
              intro o z ho1 ho2 hz
              have := at_lt hz
              rw [List.getElem?_append_left (by simp; omega), List.getElem?_set_ne (fun e => ho2 e.symm), List.getElem?_set_ne (fun e => ho1 e.symm)]
              exact hz
            have f3 : ((G2.set A.length (.cells (bls (st'.1.set y true)) 4 false)).set op' .dead ++ [AObj.cells [.int .i64 (y : Int)] 3 false, .cells (ints (st'.2 ++ [(y : Int)])) 3 false])[A.length]? = some (.cells (bls (st'.1.set y true)) 4 false) := by
              rw [List.getElem?_append_left (by simp; omega), List.getElem?_set_ne (by omega), List.getElem?_set_self hlt4]
            have f4 : ((G2.set A.length (.cells (bls (st'.1.set y true)) 4 false)).set op' .dead ++ [AObj.cells [.int .i64 (y : Int)] 3 false, .cells (ints (st'.2 ++ [(y : Int)])) 3 false])[(G2.set A.length (.cells (bls (st'.1.set y true)) 4 false)).length + 1]? = some (.cells (ints (st'.2 ++ [(y : Int)])) 3 false) := by
              rw [List.getElem?_append_right (by simp)]; simp
            have f5 : InU H.length H'.length 32 3 ((G2.set A.length (.cells (bls (st'.1.set y true)) 4 false)).set op' .dead ++ [AObj.cells [.int .i64 (y : Int)] 3 false, .cells (ints (st'.2 ++ [(y : Int)])) 3 false]) oo vs Ps := by
              have q1 := hin4.moveq haw (H' := G2.set A.length (.cells (bls (st'.1.set y true)) 4 false)) fun j z hj hz => by rw [List.getElem?_set_ne (fun e => hj e.symm)]; exact hz
              refine q1.move fun j z hj1 hj2 hz => ?_
              have := at_lt hz
              rw [List.getElem?_append_left (by simpa using this), List.getElem?_set_ne (by omega)]
              exact hz
            have f6 : H <+: (G2.set A.length (.cells (bls (st'.1.set y true)) 4 false)).set op' .dead ++ [AObj.cells [.int .i64 (y : Int)] 3 false, .cells (ints (st'.2 ++ [(y : Int)])) 3 false] := pre_app (pre_set (pre_set hpp4 (by omega) _) (by omega) _) _
            have f7 : H'.length ≤ (G2.set A.length (.cells (bls (st'.1.set y true)) 4 false)).length + 1 := by simp; omega
            refine ⟨m' - 1, by omega, j + 1, (st'.1.set y true, st'.2 ++ [(y : Int)]), (G2.set A.length (.cells (bls (st'.1.set y true)) 4 false)).length + 1, ?_⟩
            simp only [f2]
            (repeat' first | exact f3 | exact f4 | exact f5 | exact f6 | exact f7 | exact f1 | exact hb2 | exact hD | apply And.intro) <;> first | (simp only [Value.int.injEq, true_and]; omega) | omega | rfl | assumption | (simp; done) | (simp; omega)
        · simp (maxSteps := 1000000) (disch := omega) only [g0, g5, g6, g8, g9, g22, g23, g47, g48, g49, wrap64, S, S1, S2, S3, S4, S5, ST, eq_self, reduceIte, reduceCtorEq, Nat.reduceEqDiff, Nat.reduceAdd]
          rw [List.drop_of_length_le (by omega)] at hD
          have hD' : st' = ptIn l st := hD
          rw [← hD'] at hF
          have hm1 : mk - 1 + 1 = mk := by omega
          rw [← hm1] at hF
          have hkl' : k + 1 ≤ st'.2.length := by have := hpre.length_le; omega
          refine ⟨mk - 1, by omega, st', k + 1, op', ?_⟩
          (repeat' first | exact hcs4 | exact hcp4 | exact hop4 | exact hin4 | exact hpi4 | exact hF | exact hkl' | exact hpp4 | apply And.intro) <;> first | (simp only [Value.int.injEq, true_and]; omega) | omega | rfl | assumption | (simp; done) | (simp; omega)
    · rw [ptF_done L _ st k (by omega)] at hF
      rw [← hF] at hstep
      have hnd := hpi.nd
      have hltp := at_lt hcp
      simp (maxSteps := 1000000) (disch := omega) only [h0, h5, h6, h8, h9, h22, h23, S, S1, S2, S3, S4, S5, ST, eq_self, reduceIte, reduceCtorEq, Nat.reduceEqDiff, Nat.reduceAdd]
      refine CallH.by (Sort_c (.slice (some ⟨op, 0, none⟩) st.2.length st.2.length) st.2 H G' (.inr ⟨op, rfl, by omega, hcp⟩) (by omega)) ?_
      rintro _ K ⟨ys, hys, hperm, hasc, hel⟩
      have hyl : ys.length = st.2.length := hperm.length_eq
      have hyeq := inOrd_eq hnd (fun x hx => (hpi.q x hx).1) hperm hasc
      have hKl : K.length = G'.length := hel.1
      have hke : ∀ {o z}, o ≠ op → G'[o]? = some z → K[o]? = some z := fun ho hz => hel.2 _ _ (.inr ho) hz
      have hcsK := hke (by omega) hcs3
      have hinK : InU H.length H'.length 32 3 K oo vs Ps := hin3.move fun j z hj1 hj2 hz => hke (by omega) hz
      have hcpK : K[op]? = some (.cells (ints ys) 3 false) := by
        rcases hys with ⟨q, _⟩ | ⟨o, q, _, hc⟩
        · cases q
        · simp only [Value.slice.injEq, Option.some.injEq, Addr.mk.injEq, and_true] at q
          obtain ⟨q1, _⟩ := q
          have q2 : o = op := by
            first
            | exact q1.symm
            | exact q1
            | exact q1.1.symm
            | exact q1.1
          rw [← q2]; exact hc
      have hppK : H <+: K := prefix_of fun o z hz => hke (by have := at_lt hz; omega) (pre_at hpp3 hz)
      have hltG := hpp3.length_le
      have hGH : H'.length ≤ G'.length := by omega
      have hinw : InI H'.length K.length 3 K (.slice (some ⟨op, 0, none⟩) st.2.length st.2.length) ys := .inr ⟨op, ys, by rw [hyl], hop, by omega, hcpK, List.take_of_length_le (Nat.le_refl _)⟩
      obtain ⟨K2, k1, k2, k3, k4⟩ := hinK.app1 (P := Try.prog) (t2 := 38) Try.underlying38 cs32 (by rw [by32]; decide) zk32 hinw lH' (by omega) (Nat.le_refl _) (by omega)
      simp (maxSteps := 1000000) (disch := omega) only [h0, h5, h6, h8, h9, h22, h23, k1, wrap64, S, S1, S2, S3, S4, S5, ST, eq_self, reduceIte, reduceCtorEq, Nat.reduceEqDiff, Nat.reduceAdd]
      have g1 : (prF L s0 (i + 1)).1 = st.1 := by rw [hstep]
      have g2 : (prF L s0 (i + 1)).2 = Ps ++ [ys] := by rw [hstep, hyeq]
      have g3 : (Ps ++ [ys]).length = Ps.length + 1 := by simp
      have c1 : K2[A.length]? = some (.cells (bls st.1) 4 false) := k4 _ _ (fun e => haw.1 e.symm) hcsK
      have c2 : InU H.length K2.length 32 3 K2 (K.length + 1) (vs.take Ps.length ++ [.slice (some ⟨op, 0, none⟩) st.2.length st.2.length]) (Ps ++ [ys]) := by rw [k3]; exact k2
      have c3 : Away A.length (K.length + 1) (vs.take Ps.length ++ [.slice (some ⟨op, 0, none⟩) st.2.length st.2.length]) (Ps ++ [ys]) := by
        refine ⟨by omega, fun j hj => ?_⟩
        rw [g3] at hj
        have hvl := hinK.2.2.2.1
        rw [List.getD_eq_getElem?_getD, List.getElem?_append]
        have hl2 : (vs.take Ps.length).length = Ps.length := by simp; omega
        rw [hl2]
        split
        · rename_i hj2
          rw [List.getElem?_take, if_pos hj2, ← List.getD_eq_getElem?_getD]
          exact haw.2 j hj2
        · have : j - Ps.length = 0 := by omega
          rw [this]
          refine .inr ?_
          show op ≠ A.length
          omega
      have c4 : H <+: K2 := prefix_of fun o z hz => k4 o z (by have := at_lt hz; have := hinK.1; omega) (pre_at hppK hz)
      refine ⟨m - 1, by omega, i + 1, K.length + 1, vs.take Ps.length ++ [.slice (some ⟨op, 0, none⟩) st.2.length st.2.length], ?_⟩
      rw [g1, g2, g3]
      (repeat' first | exact c1 | exact c2 | exact c3 | exact c4 | apply And.intro) <;> first | (simp only [Value.int.injEq, true_and]; omega) | omega | rfl | assumption | (simp; done) | (simp; omega)
  · simp (maxSteps := 1000000) (disch := omega) only [S, S1, S2, S3, S4, S5, ST, eq_self, reduceIte, reduceCtorEq, Nat.reduceEqDiff, Nat.reduceAdd]
    obtain ⟨s0, hs0⟩ : ∃ s0, s0 = List.replicate L.length false := ⟨_, rfl⟩
    have hs0e : s0 = seen0 L.length wo := by unfold seen0; rw [if_neg (by omega), hs0]
    rw [← hs0] at cB
    have cS := cB
    have pC := pHB
    have uC := uB
    have hs0l : s0.length = L.length := by rw [hs0]; simp
    simp (maxSteps := 1000000) (disch := omega) only [hus.len Try.underlying38, hul, S, S1, S2, S3, S4, S5, ST, eq_self, reduceIte, reduceCtorEq, Nat.reduceEqDiff, Nat.reduceAdd]
    refine LoopH.by (fun m s H' => ∃ i oo vs, m + i = L.length ∧ s 0 = v ∧ s 5 = .slice (some ⟨oo, 0, none⟩) (prF L s0 i).2.length (prF L s0 i).2.length ∧ s 6 = .slice (some ⟨A.length, 0, none⟩) L.length L.length ∧ s 22 = .int .i64 (L.length : Int) ∧ s 23 = .int .i64 ((i : Nat) : Int) ∧ H'[A.length]? = some (.cells (bls (prF L s0 i).1) 4 false) ∧ InU H.length H'.length 32 3 H' oo vs (prF L s0 i).2 ∧ Away A.length oo vs (prF L s0 i).2 ∧ H <+: H') L.length ?_ ?_
    · exact ⟨0, H.length, [], by simp, rfl, rfl, rfl, rfl, rfl, cS, uC, ⟨by omega, fun i hi => absurd hi (by simp [prF])⟩, pC⟩
    rintro m s H' ⟨i, oo, vs, hm, h0, h5, h6, h22, h23, hcs, hin1, haw, hpp⟩
    obtain ⟨hsl, hpl⟩ := prF_len L s0 (by rw [hs0l]) hL i (by omega)
    have hstep : prF L s0 (i + 1) = if (prF L s0 i).1.getD i false = true then prF L s0 i else ((ptF L (L.length + 1) ((prF L s0 i).1.set i true, [(i : Int)]) 0).1, (prF L s0 i).2 ++ [inOrd L.length (ptF L (L.length + 1) ((prF L s0 i).1.set i true, [(i : Int)]) 0).2]) := rfl
    have hfin : i = L.length → (prF L s0 L.length).2 = (prF L s0 i).2 := fun e => by rw [e]
    generalize hSe : (prF L s0 i).1 = Se at *
    generalize hPs : (prF L s0 i).2 = Ps at *
    simp (maxSteps := 1000000) (disch := omega) only [h0, h5, h6, h22, h23, S, S1, S2, S3, S4, S5, ST, eq_self, reduceIte, reduceCtorEq, Nat.reduceEqDiff, Nat.reduceAdd]
    refine brD.intro (fun g => ?_) (fun g => ?_)
    rotate_left
    · have hi : i = L.length := by omega
      simp (maxSteps := 1000000) (disch := omega) only [h5, S, S1, S2, S3, S4, S5, ST, eq_self, reduceIte, reduceCtorEq, Nat.reduceEqDiff, Nat.reduceAdd]
      refine hQ _ _ _ ?_
      simp (maxSteps := 1000000) (disch := omega) only [h5, S, S1, S2, S3, S4, S5, ST, eq_self, reduceIte, reduceCtorEq, Nat.reduceEqDiff, Nat.reduceAdd]
      have hP : partsL L wo = Ps := by unfold partsL; rw [← hs0e, hfin hi]
      rw [hP]
      exact ⟨hin1.inl, hpp⟩
    have hi : i < L.length := by omega
    have hiS : i < Se.length := by omega
    simp (maxSteps := 1000000) (disch := omega) only [h0, h5, h6, h22, h23, Int.toNat_natCast, Nat.zero_add, cell_bls hcs hiS, S, S1, S2, S3, S4, S5, ST, eq_self, reduceIte, reduceCtorEq, Nat.reduceEqDiff, Nat.reduceAdd]
    refine brH.intro (fun e1 => ?_) (fun e1 => ?_)
    · rw [if_pos e1] at hstep
      simp (maxSteps := 1000000) (disch := omega) only [e1, h0, h5, h6, h22, h23, wrap64, S, S1, S2, S3, S4, S5, ST, eq_self, reduceIte, reduceCtorEq, Nat.reduceEqDiff, Nat.reduceAdd]
      refine ⟨m - 1, by omega, i + 1, oo, vs, ?_⟩
      have g1 : (prF L s0 (i + 1)).1 = Se := by rw [hstep, hSe]
      have g2 : (prF L s0 (i + 1)).2 = Ps := by rw [hstep, hPs]
      rw [g1, g2]
      (repeat' first | exact hcs | exact hin1 | exact haw | exact hpp | apply And.intro) <;> first | (simp only [Value.int.injEq, true_and]; omega) | omega | rfl | assumption | (simp; done) | (simp; omega)
    have hne : ¬ Se.getD i false = true := by rw [e1]; decide
    rw [if_neg hne] at hstep
    have hPI := PI.first hsl hi hne
    generalize hCn : Se.countP (fun b => !b) = Cn at hPI
    simp (maxSteps := 1000000) (disch := omega) only [e1, h0, h5, h6, h22, h23, Int.toNat_natCast, Nat.zero_add, st_bls hcs hiS, S, S1, S2, S3, S4, S5, ST, eq_self, reduceIte, reduceCtorEq, Nat.reduceEqDiff, Nat.reduceAdd]
    have hin2 : InU H.length H'.length 32 3 (H'.set A.length (.cells (bls (Se.set i true)) 4 false)) oo vs Ps := hin1.moveq haw fun j y hj hy => by rw [List.getElem?_set_ne (fun e => hj e.symm)]; exact hy
    have hcs2 : (H'.set A.length (.cells (bls (Se.set i true)) 4 false))[A.length]? = some (.cells (bls (Se.set i true)) 4 false) := at_set hcs
    have hpp2 : H <+: H'.set A.length (.cells (bls (Se.set i true)) 4 false) := pre_set hpp (by omega) _
    have hll : (H'.set A.length (.cells (bls (Se.set i true)) 4 false)).length = H'.length := by simp
    generalize hG : H'.set A.length (.cells (bls (Se.set i true)) 4 false) = G at *
    have hltS := at_lt hcs
    have lH' := hpp.length_le
    refine LoopH.by (fun m s G' => ∃ st k op, m + k = L.length ∧ s 0 = v ∧ s 5 = .slice (some ⟨oo, 0, none⟩) Ps.length Ps.length ∧ s 6 = .slice (some ⟨A.length, 0, none⟩) L.length L.length ∧ s 8 = .slice (some ⟨op, 0, none⟩) st.2.length st.2.length ∧ s 9 = .int .i64 ((k : Nat) : Int) ∧ s 22 = .int .i64 (L.length : Int) ∧ s 23 = .int .i64 ((i : Nat) : Int) ∧ k ≤ st.2.length ∧ G'[A.length]? = some (.cells (bls st.1) 4 false) ∧ G'[op]? = some (.cells (ints st.2) 3 false) ∧ H'.length ≤ op ∧ InU H.length H'.length 32 3 G' oo vs Ps ∧ PI L.length Cn st ∧ ptF L (m + 1) st k = ptF L (L.length + 1) (Se.set i true, [(i : Int)]) 0 ∧ H <+: G') L.length ?_ ?_
    · refine ⟨(Se.set i true, [(i : Int)]), 0, G.length, by omega, ?_⟩
      simp only [S, S1, S2, S3, S4, S5, ST, eq_self, reduceIte, reduceCtorEq, Nat.reduceEqDiff, Nat.reduceAdd, h0, h5, h6, h22, h23]
      have q1 := at_app hcs2 [AObj.cells [.int .i64 (i : Int)] 3 false]
      have q2 : (G ++ [AObj.cells [.int .i64 (i : Int)] 3 false])[G.length]? = some (.cells (ints [(i : Int)]) 3 false) := at_new ..
      have q3 := hin2.pre (List.prefix_append G [AObj.cells [.int .i64 (i : Int)] 3 false])
      have q4 := pre_app hpp2 [AObj.cells [.int .i64 (i : Int)] 3 false]
      (repeat' first | exact q1 | exact q2 | exact q3 | exact q4 | exact hPI | apply And.intro) <;> first | (simp only [Value.int.injEq, true_and]; omega) | omega | rfl | assumption | (simp; done) | (simp; omega)
    rintro mk s G' ⟨st, k, op, hmk, h0, h5, h6, h8, h9, h22, h23, hkl, hcs3, hcp, hop, hin3, hpi, hF, hpp3⟩
    have hle := hpi.len_le
    simp (maxSteps := 1000000) (disch := omega) only [h0, h5, h6, h8, h9, h22, h23, S, S1, S2, S3, S4, S5, ST, eq_self, reduceIte, reduceCtorEq, Nat.reduceEqDiff, Nat.reduceAdd]
    refine brD.intro (fun gk => ?_) (fun gk => ?_)
    · have hk : k < st.2.length := by omega
      rw [ptF_step L mk st k hk] at hF
      have hqm : st.2.getD k 0 ∈ st.2 := by simp [hk]
      obtain ⟨hxr, _⟩ := hpi.q _ hqm
      obtain ⟨x, hx⟩ : ∃ x : Nat, st.2.getD k 0 = x := ⟨(st.2.getD k 0).toNat, by omega⟩
      have hcell := cell_ints hcp hk
      rw [hx] at hF hxr hcell
      rw [Int.toNat_natCast] at hF
      have hus' := hus.pre hpp3
      have hxu : x < us.length := by omega
      have hinH := (hin x (by omega)).1
      have hin' := hinH.pre hpp3
      have hlb := hls x
      have hLx := hL x
      simp (maxSteps := 1000000) (disch := omega) only [h0, h5, h6, h8, h9, h22, h23, hcell, hus'.ix Try.underlying38 cs32, hus'.cell, Int.toNat_natCast, Nat.zero_add, S, S1, S2, S3, S4, S5, ST, eq_self, reduceIte, reduceCtorEq, Nat.reduceEqDiff, Nat.reduceAdd]
      generalize hw : us.getD x undef = w at *
      generalize hl : L.getD x [] = l at *
      simp (maxSteps := 1000000) (disch := omega) only [hin'.len Try.underlying32, S, S1, S2, S3, S4, S5, ST, eq_self, reduceIte, reduceCtorEq, Nat.reduceEqDiff, Nat.reduceAdd]
      refine LoopH.by (fun m' s' G2 => ∃ j st' op', m' + j = l.length ∧ s' 0 = v ∧ s' 5 = .slice (some ⟨oo, 0, none⟩) Ps.length Ps.length ∧ s' 6 = .slice (some ⟨A.length, 0, none⟩) L.length L.length ∧ s' 8 = .slice (some ⟨op', 0, none⟩) st'.2.length st'.2.length ∧ s' 9 = .int .i64 ((k : Nat) : Int) ∧ s' 22 = .int .i64 (L.length : Int) ∧ s' 23 = .int .i64 ((i : Nat) : Int) ∧ s' 47 = w ∧ s' 48 = .int .i64 (l.length : Int) ∧ s' 49 = .int .i64 ((j : Nat) : Int) ∧ G2[A.length]? = some (.cells (bls st'.1) 4 false) ∧ G2[op']? = some (.cells (ints st'.2) 3 false) ∧ H'.length ≤ op' ∧ InU H.length H'.length 32 3 G2 oo vs Ps ∧ PI L.length Cn st' ∧ st.2 <+: st'.2 ∧ ptIn (l.drop j) st' = ptIn l st ∧ H <+: G2) l.length ?_ ?_
      · refine ⟨0, st, op, by simp, ?_⟩
        simp only [S, S1, S2, S3, S4, S5, ST, eq_self, reduceIte, reduceCtorEq, Nat.reduceEqDiff, Nat.reduceAdd, h0, h5, h6, h8, h9, h22, h23]
        have hd2 : ptIn (l.drop 0) st = ptIn l st := by rw [List.drop_zero]
        have hpr := List.prefix_refl st.2
        (repeat' first | exact hcs3 | exact hcp | exact hin3 | exact hpi | exact hd2 | exact hpr | exact hpp3 | apply And.intro) <;> first | (simp only [Value.int.injEq, true_and]; omega) | omega | rfl | assumption | (simp; done) | (simp; omega)
      · rintro m' s' G2 ⟨j, st', op', hm', g0, g5, g6, g8, g9, g22, g23, g47, g48, g49, hcs4, hcp4, hop4, hin4, hpi4, hpre, hD, hpp4⟩
        have hw' := hinH.pre hpp4
        have hle' := hpi4.len_le
        have hlen' := hpi4.len
        simp (maxSteps := 1000000) (disch := omega) only [g0, g5, g6, g8, g9, g22, g23, g47, g48, g49, S, S1, S2, S3, S4, S5, ST, eq_self, reduceIte, reduceCtorEq, Nat.reduceEqDiff, Nat.reduceAdd]
        refine brD.intro (fun q => ?_) (fun q => ?_)
        · have hj : j < l.length := by omega
          rw [ptIn_drop l j hj] at hD
          have hym : l.getD j 0 ∈ l := by simp [hj]
          have hyr := hLx _ hym
          obtain ⟨y, hy⟩ : ∃ y : Nat, l.getD j 0 = y := ⟨(l.getD j 0).toNat, by omega⟩
          rw [hy] at hD hyr
          rw [Int.toNat_natCast] at hD
          have hyl : y < st'.1.length := by omega
          have hcw := hw'.cell hj
          rw [hy] at hcw
          simp (maxSteps := 1000000) (disch := omega) only [g0, g5, g6, g8, g9, g22, g23, g47, g48, g49, hw'.ix Try.underlying32 cs3, hcw, Int.toNat_natCast, Nat.zero_add, cell_bls hcs4 hyl, S, S1, S2, S3, S4, S5, ST, eq_self, reduceIte, reduceCtorEq, Nat.reduceEqDiff, Nat.reduceAdd]
          refine brH.intro (fun e => ?_) (fun e => ?_)
          · rw [if_pos e] at hD
            simp (maxSteps := 1000000) (disch := omega) only [e, g0, g5, g6, g8, g9, g22, g23, g47, g48, g49, wrap64, S, S1, S2, S3, S4, S5, ST, eq_self, reduceIte, reduceCtorEq, Nat.reduceEqDiff, Nat.reduceAdd]
            refine ⟨m' - 1, by omega, j + 1, st', op', ?_⟩
            (repeat' first | exact hcs4 | exact hcp4 | exact hin4 | exact hpi4 | exact hpre | exact hD | exact hpp4 | apply And.intro) <;> first | (simp only [Value.int.injEq, true_and]; omega) | omega | rfl | assumption | (simp; done) | (simp; omega)
          · have hnn : ¬ st'.1.getD y false = true := by rw [e]; decide
            rw [if_neg hnn] at hD
            have hb2 := hpi4.put (j := (y : Int)) hyr (by rw [Int.toNat_natCast]; exact hnn)
            rw [Int.toNat_natCast] at hb2
            have hlt4 := at_lt hcs4
            have hltp := at_lt hcp4
            have hcp5 : (G2.set A.length (.cells (bls (st'.1.set y true)) 4 false))[op']? = some (.cells (ints st'.2) 3 false) := by rw [List.getElem?_set_ne (by omega)]; exact hcp4
            have hap := appi32 (x := (y : Int)) (n := st'.2.length) (c := st'.2.length) hcp5 rfl (by omega)
            simp (maxSteps := 1000000) (disch := omega) only [e, g0, g5, g6, g8, g9, g22, g23, g47, g48, g49, Int.toNat_natCast, Nat.zero_add, st_bls hcs4 hyl, hap, wrap64, S, S1, S2, S3, S4, S5, ST, eq_self, reduceIte, reduceCtorEq, Nat.reduceEqDiff, Nat.reduceAdd]
            have f1 : st.2 <+: st'.2 ++ [(y : Int)] := hpre.trans (List.prefix_append _ _)
            have f2 : (st'.2 ++ [(y : Int)]).length = st'.2.length + 1 := by simp
            have aw : ∀ {o z}, o ≠ A.length → o ≠ op' → G2[o]? = some z → ((G2.set A.length (.cells (bls (st'.1.set y true)) 4 false)).set op' .dead ++ [AObj.cells [.int .i64 (y : Int)] 3 false, .cells (ints (st'.2 ++ [(y : Int)])) 3 false])[o]? = some z := by
              intro o z ho1 ho2 hz
              have := at_lt hz
              rw [List.getElem?_append_left (by simp; omega), List.getElem?_set_ne (fun e => ho2 e.symm), List.getElem?_set_ne (fun e => ho1 e.symm)]
              exact hz
            have f3 : ((G2.set A.length (.cells (bls (st'.1.set y true)) 4 false)).set op' .dead ++ [AObj.cells [.int .i64 (y : Int)] 3 false, .cells (ints (st'.2 ++ [(y : Int)])) 3 false])[A.length]? = some (.cells (bls (st'.1.set y true)) 4 false) := by
              rw [List.getElem?_append_left (by simp; omega), List.getElem?_set_ne (by omega), List.getElem?_set_self hlt4]
            have f4 : ((G2.set A.length (.cells (bls (st'.1.set y true)) 4 false)).set op' .dead ++ [AObj.cells [.int .i64 (y : Int)] 3 false, .cells (ints (st'.2 ++ [(y : Int)])) 3 false])[(G2.set A.length (.cells (bls (st'.1.set y true)) 4 false)).length + 1]? = some (.cells (ints (st'.2 ++ [(y : Int)])) 3 false) := by
              rw [List.getElem?_append_right (by simp)]; simp
            have f5 : InU H.length H'.length 32 3 ((G2.set A.length (.cells (bls (st'.1.set y true)) 4 false)).set op' .dead ++ [AObj.cells [.int .i64 (y : Int)] 3 false, .cells (ints (st'.2 ++ [(y : Int)])) 3 false]) oo vs Ps := by
              have q1 := hin4.moveq haw (H' := G2.set A.length (.cells (bls (st'.1.set y true)) 4 false)) fun j z hj hz => by rw [List.getElem?_set_ne (fun e => hj e.symm)]; exact hz
              refine q1.move fun j z hj1 hj2 hz => ?_
              have := at_lt hz
              rw [List.getElem?_append_left (by simpa using this), List.getElem?_set_ne (by omega)]
              exact hz
            have f6 : H <+: (G2.set A.length (.cells (bls (st'.1.set y true)) 4 false)).set op' .dead ++ [AObj.cells [.int .i64 (y : Int)] 3 false, .cells (ints (st'.2 ++ [(y : Int)])) 3 false] := pre_app (pre_set (pre_set hpp4 (by omega) _) (by omega) _) _
            have f7 : H'.length ≤ (G2.set A.length (.cells (bls (st'.1.set y true)) 4 false)).length + 1 := by simp; omega
            refine ⟨m' - 1, by omega, j + 1, (st'.1.set y true, st'.2 ++ [(y : Int)]), (G2.set A.length (.cells (bls (st'.1.set y true)) 4 false)).length + 1, ?_⟩
            simp only [f2]
            (repeat' first | exact f3 | exact f4 | exact f5 | exact f6 | exact f7 | exact f1 | exact hb2 | exact hD | apply And.intro) <;> first | (simp only [Value.int.injEq, true_and]; omega) | omega | rfl | assumption | (simp; done) | (simp; omega)
        · simp (maxSteps := 1000000) (disch := omega) only [g0, g5, g6, g8, g9, g22, g23, g47, g48, g49, wrap64, S, S1, S2, S3, S4, S5, ST, eq_self, reduceIte, reduceCtorEq, Nat.reduceEqDiff, Nat.reduceAdd]
          rw [List.drop_of_length_le (by omega)] at hD
          have hD' : st' = ptIn l st := hD
          rw [← hD'] at hF
          have hm1 : mk - 1 + 1 = mk := by omega
          rw [← hm1] at hF
          have hkl' : k + 1 ≤ st'.2.length := by have := hpre.length_le; omega
          refine ⟨mk - 1, by omega, st', k + 1, op', ?_⟩
          (repeat' first | exact hcs4 | exact hcp4 | exact hop4 | exact hin4 | exact hpi4 | exact hF | exact hkl' | exact hpp4 | apply And.intro) <;> first | (simp only [Value.int.injEq, true_and]; omega) | omega | rfl | assumption | (simp; done) | (simp; omega)
    · rw [ptF_done L _ st k (by omega)] at hF
      rw [← hF] at hstep
      have hnd := hpi.nd
      have hltp := at_lt hcp
      simp (maxSteps := 1000000) (disch := omega) only [h0, h5, h6, h8, h9, h22, h23, S, S1, S2, S3, S4, S5, ST, eq_self, reduceIte, reduceCtorEq, Nat.reduceEqDiff, Nat.reduceAdd]
      refine CallH.by (Sort_c (.slice (some ⟨op, 0, none⟩) st.2.length st.2.length) st.2 H G' (.inr ⟨op, rfl, by omega, hcp⟩) (by omega)) ?_
      rintro _ K ⟨ys, hys, hperm, hasc, hel⟩
      have hyl : ys.length = st.2.length := hperm.length_eq
      have hyeq := inOrd_eq hnd (fun x hx => (hpi.q x hx).1) hperm hasc
      have hKl : K.length = G'.length := hel.1
      have hke : ∀ {o z}, o ≠ op → G'[o]? = some z → K[o]? = some z := fun ho hz => hel.2 _ _ (.inr ho) hz
      have hcsK := hke (by omega) hcs3
      have hinK : InU H.length H'.length 32 3 K oo vs Ps := hin3.move fun j z hj1 hj2 hz => hke (by omega) hz
      have hcpK : K[op]? = some (.cells (ints ys) 3 false) := by
        rcases hys with ⟨q, _⟩ | ⟨o, q, _, hc⟩
        · cases q
        · simp only [Value.slice.injEq, Option.some.injEq, Addr.mk.injEq, and_true] at q
          obtain ⟨q1, _⟩ := q
          have q2 : o = op := by
            first
            | exact q1.symm
            | exact q1
            | exact q1.1.symm
            | exact q1.1
          rw [← q2]; exact hc
      have hppK : H <+: K := prefix_of fun o z hz => hke (by have := at_lt hz; omega) (pre_at hpp3 hz)
      have hltG := hpp3.length_le
      have hGH : H'.length ≤ G'.length := by omega
      have hinw : InI H'.length K.length 3 K (.slice (some ⟨op, 0, none⟩) st.2.length st.2.length) ys := .inr ⟨op, ys, by rw [hyl], hop, by omega, hcpK, List.take_of_length_le (Nat.le_refl _)⟩
      obtain ⟨K2, k1, k2, k3, k4⟩ := hinK.app1 (P := Try.prog) (t2 := 38) Try.underlying38 cs32 (by rw [by32]; decide) zk32 hinw lH' (by omega) (Nat.le_refl _) (by omega)
      simp (maxSteps := 1000000) (disch := omega) only [h0, h5, h6, h8, h9, h22, h23, k1, wrap64, S, S1, S2, S3, S4, S5, ST, eq_self, reduceIte, reduceCtorEq, Nat.reduceEqDiff, Nat.reduceAdd]
      have g1 : (prF L s0 (i + 1)).1 = st.1 := by rw [hstep]
      have g2 : (prF L s0 (i + 1)).2 = Ps ++ [ys] := by rw [hstep, hyeq]
      have g3 : (Ps ++ [ys]).length = Ps.length + 1 := by simp
      have c1 : K2[A.length]? = some (.cells (bls st.1) 4 false) := k4 _ _ (fun e => haw.1 e.symm) hcsK
      have c2 : InU H.length K2.length 32 3 K2 (K.length + 1) (vs.take Ps.length ++ [.slice (some ⟨op, 0, none⟩) st.2.length st.2.length]) (Ps ++ [ys]) := by rw [k3]; exact k2
      have c3 : Away A.length (K.length + 1) (vs.take Ps.length ++ [.slice (some ⟨op, 0, none⟩) st.2.length st.2.length]) (Ps ++ [ys]) := by
        refine ⟨by omega, fun j hj => ?_⟩
        rw [g3] at hj
        have hvl := hinK.2.2.2.1
        rw [List.getD_eq_getElem?_getD, List.getElem?_append]
        have hl2 : (vs.take Ps.length).length = Ps.length := by simp; omega
        rw [hl2]
        split
        · rename_i hj2
          rw [List.getElem?_take, if_pos hj2, ← List.getD_eq_getElem?_getD]
          exact haw.2 j hj2
        · have : j - Ps.length = 0 := by omega
          rw [this]
          refine .inr ?_
          show op ≠ A.length
          omega
      have c4 : H <+: K2 := prefix_of fun o z hz => k4 o z (by have := at_lt hz; have := hinK.1; omega) (pre_at hppK hz)
      refine ⟨m - 1, by omega, i + 1, K.length + 1, vs.take Ps.length ++ [.slice (some ⟨op, 0, none⟩) st.2.length st.2.length], ?_⟩
      rw [g1, g2, g3]
      (repeat' first | exact c1 | exact c2 | exact c3 | exact c4 | apply And.intro) <;> first | (simp only [Value.int.injEq, true_and]; omega) | omega | rfl | assumption | (simp; done) | (simp; omega)
end Go.Proofs.Ythhnpchjjbjabaa.Ai
