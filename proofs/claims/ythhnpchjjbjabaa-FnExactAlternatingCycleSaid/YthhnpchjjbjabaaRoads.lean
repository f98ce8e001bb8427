/- The lists of neighbors of all nodes, and distances in a graph, both sides. -/
import Derived.Test.YthhnpchjjbjabaaNear
import Derived.Test.YthhnpchjjbjabaaBfs
import Derived.Test.YthhnpchjjbjabaaProg
import Derived.Test.YthhnpchjjbjabaaAiM2
import Derived.KernelRfl
/- Slim code of this translation. By the kernel. -/
namespace Go.Proofs.Ythhnpchjjbjabaa.Ai
open Go

/- loop.example/g01128/spec.l2Neighbors -/
def ords136 : List (Nat × List (Nat × Bool)) := []
def cd136 : Cd := (.seq (.reg [⟨⟨some 2, Op.box 28 (Operand.tmp 0), none⟩, []⟩,
  ⟨⟨some 4, Op.assign (Operand.const (Value.slice none 0 0)), none⟩, []⟩]) (.seq (.reg [⟨⟨some 7, Op.buildSlice 32 0 #[], none⟩, []⟩,
  ⟨⟨some 5, Op.assign (Operand.tmp 7), none⟩, []⟩]) (.seq (.seq (.reg [⟨⟨some 6, Op.assign (Operand.const (Value.int IntKind.i64 0)), none⟩, []⟩]) (.block 0 (.loop (.seq (.seq (.reg [⟨⟨some 8, Op.move (Operand.tmp 6), none⟩, []⟩,
  ⟨⟨some 9, Op.fieldAddr 28 (Operand.tmp 2) 0, none⟩, []⟩,
  ⟨⟨some 10, Op.load 3 (Operand.tmp 9), none⟩, []⟩,
  ⟨⟨some 11, Op.binOp BinOp.lss 3 (Operand.tmp 8) (Operand.tmp 10) 3, none⟩, []⟩]) (.cond (Operand.tmp 11) .skip (.exit 0))) (.seq (.block 1 (.seq (.reg [⟨⟨some 14, Op.load 28 (Operand.tmp 2), none⟩, []⟩,
  ⟨⟨some 15, Op.move (Operand.tmp 1), none⟩, []⟩,
  ⟨⟨some 16, Op.move (Operand.tmp 6), none⟩, []⟩,
  ⟨⟨some 17, Op.call { callee := (Callee.value (Operand.func 75)), args := #[(Operand.tmp 14), (Operand.tmp 15), (Operand.tmp 16)], argTypes := #[28, 3, 3] }, none⟩, []⟩]) (.cond (Operand.tmp 17) (.reg [⟨⟨some 18, Op.move (Operand.tmp 5), none⟩, []⟩,
  ⟨⟨some 19, Op.move (Operand.tmp 6), none⟩, []⟩,
  ⟨⟨some 20, Op.buildSlice 32 1 #[(0, (Operand.tmp 19))], none⟩, []⟩,
  ⟨⟨some 21, Op.call { callee := (Callee.builtin Builtin.append), args := #[(Operand.tmp 18), (Operand.tmp 20)], argTypes := #[32, 32] }, none⟩, []⟩,
  ⟨⟨some 5, Op.assign (Operand.tmp 21), none⟩, []⟩]) .skip))) (.reg [⟨⟨some 12, Op.move (Operand.tmp 6), none⟩, []⟩,
  ⟨⟨some 13, Op.binOp BinOp.add 3 (Operand.tmp 12) (Operand.const (Value.int IntKind.i64 1)) 3, none⟩, []⟩,
  ⟨⟨some 6, Op.assign (Operand.tmp 13), none⟩, []⟩])))))) (.seq (.reg [⟨⟨some 22, Op.move (Operand.tmp 5), none⟩, []⟩,
  ⟨⟨some 4, Op.assign (Operand.tmp 22), none⟩, []⟩]) .ret))))
theorem sl136 : slim Try.f136.ntmps ords136 (Try.f136.body.getD .skip) = some cd136 := by kernel_rfl
theorem in136 {args : List Value} {H : AH} {R : Value → AH → Prop} (hl : args.length = 2) (h : ∀ (Q : Exit → Sl → AH → Prop), (∀ e s H, endA Try.prog [ResultVar.tmp 4] R e s H → Q e s H) → wpC Try.prog cd136 Q (enterA args) H) : ACalls Try.prog 136 args H R :=
  ACalls.intro (by kernel_rfl) Try.func136 rfl (by kernel_rfl) sl136 hl (of_decide_eq_true (by kernel_rfl)) (by kernel_rfl) h

/- (loop.example/g01128/impl.Graph).roads -/
def ords113 : List (Nat × List (Nat × Bool)) := []
def cd113 : Cd := (.seq (.reg [⟨⟨some 1, Op.box 28 (Operand.tmp 0), none⟩, []⟩,
  ⟨⟨some 2, Op.assign (Operand.const (Value.slice none 0 0)), none⟩, []⟩]) (.seq (.reg [⟨⟨some 5, Op.buildSlice 38 0 #[], none⟩, []⟩,
  ⟨⟨some 3, Op.assign (Operand.tmp 5), none⟩, []⟩]) (.seq (.seq (.reg [⟨⟨some 6, Op.fieldAddr 28 (Operand.tmp 1) 0, none⟩, []⟩,
  ⟨⟨some 7, Op.load 3 (Operand.tmp 6), none⟩, []⟩,
  ⟨⟨some 8, Op.move (Operand.const (Value.int IntKind.i64 0)), none⟩, []⟩]) (.block 0 (.loop (.seq (.reg [⟨⟨some 9, Op.binOp BinOp.lss 3 (Operand.tmp 8) (Operand.tmp 7) 3, none⟩, []⟩]) (.seq (.cond (Operand.tmp 9) .skip (.exit 0)) (.seq (.block 1 (.seq (.reg [⟨⟨some 10, Op.move (Operand.tmp 8), none⟩, []⟩,
  ⟨⟨some 4, Op.assign (Operand.tmp 10), none⟩, []⟩]) (.reg [⟨⟨some 11, Op.move (Operand.tmp 3), none⟩, []⟩,
  ⟨⟨some 12, Op.load 28 (Operand.tmp 1), none⟩, []⟩,
  ⟨⟨some 13, Op.move (Operand.tmp 4), none⟩, []⟩,
  ⟨⟨some 14, Op.call { callee := (Callee.value (Operand.func 148)), args := #[(Operand.tmp 12), (Operand.tmp 13)], argTypes := #[28, 3] }, none⟩, []⟩,
  ⟨⟨some 15, Op.buildSlice 38 1 #[(0, (Operand.tmp 14))], none⟩, []⟩,
  ⟨⟨some 16, Op.call { callee := (Callee.builtin Builtin.append), args := #[(Operand.tmp 11), (Operand.tmp 15)], argTypes := #[38, 38] }, none⟩, []⟩,
  ⟨⟨some 3, Op.assign (Operand.tmp 16), none⟩, []⟩]))) (.reg [⟨⟨some 17, Op.binOp BinOp.add 3 (Operand.tmp 8) (Operand.const (Value.int IntKind.i64 1)) 3, none⟩, []⟩,
  ⟨⟨some 8, Op.move (Operand.tmp 17), none⟩, []⟩]))))))) (.seq (.reg [⟨⟨some 18, Op.move (Operand.tmp 3), none⟩, []⟩,
  ⟨⟨some 2, Op.assign (Operand.tmp 18), none⟩, []⟩]) .ret))))
theorem sl113 : slim Try.f113.ntmps ords113 (Try.f113.body.getD .skip) = some cd113 := by kernel_rfl
theorem in113 {args : List Value} {H : AH} {R : Value → AH → Prop} (hl : args.length = 1) (h : ∀ (Q : Exit → Sl → AH → Prop), (∀ e s H, endA Try.prog [ResultVar.tmp 2] R e s H → Q e s H) → wpC Try.prog cd113 Q (enterA args) H) : ACalls Try.prog 113 args H R :=
  ACalls.intro (by kernel_rfl) Try.func113 rfl (by kernel_rfl) sl113 hl (of_decide_eq_true (by kernel_rfl)) (by kernel_rfl) h
end Go.Proofs.Ythhnpchjjbjabaa.Ai

namespace Go.Proofs.Ythhnpchjjbjabaa.Ai
open Go Go.RowKit
set_option linter.unusedVariables false
set_option linter.unusedSimpArgs false

theorem mk_nils {P : Program} {t e : TypeId} (hu : P.underlying t = some (.slice e)) (hc : P.cellsOf e = 1) (hby : P.bytesOf e ≤ 64) (hz : zeroA P e = some (.slice none 0 0)) {n : Int} (h0 : 0 ≤ n) (h1 : n ≤ 1099511627776) (H : AH) :
    makeSliceA P t (.int .i64 n) (.int .i64 n) H = some (.slice (some ⟨H.length, 0, none⟩) n.toNat n.toNat, H ++ [.cells (List.replicate n.toNat (.slice none 0 0)) e false]) := by
  have hb2 : n.toNat * P.bytesOf e ≤ 281474976710656 := by
    refine Nat.le_trans (Nat.mul_le_mul_left _ hby) ?_
    omega
  have hzc : (Value.slice none 0 0).cells = #[.slice none 0 0] := rfl
  have hzs : zerosA (.slice none 0 0) (n.toNat * 1) = List.replicate n.toNat (.slice none 0 0) := by
    unfold zerosA
    rw [hzc, Nat.mul_one]
    apply List.ext_getElem
    · simp
    · intro i h1 h2
      simp [Nat.mod_one]
  simp only [makeSliceA, hu, hc, hz]
  rw [if_pos ⟨trivial, h0, by omega, hb2, by omega⟩, if_pos ⟨by simp [plainCs, hzc, plainC], by simp [hzc]⟩, hzs]

/-- the lists of neighbors -/
def roadsL (n : Nat) (es : List (Int × Int)) : List (List Int) := (List.range n).map fun x : Nat => nbsU es (x : Int) n
theorem roadsL_len (n : Nat) (es : List (Int × Int)) : (roadsL n es).length = n := by simp [roadsL]
theorem roadsL_at (n : Nat) (es : List (Int × Int)) (i : Nat) (hi : i < n) : (roadsL n es).getD i [] = nbsU es i n := by
  unfold roadsL
  rw [List.getD_eq_getElem?_getD, List.getElem?_map, List.getElem?_range hi]; rfl
theorem roadsL_out (n : Nat) (es : List (Int × Int)) (i : Nat) (hi : ¬ i < n) : (roadsL n es).getD i [] = [] := by
  rw [List.getD_eq_getElem?_getD, List.getElem?_eq_none (by rw [roadsL_len]; omega)]; rfl
theorem roadsL_ok (n : Nat) (es : List (Int × Int)) : LOk (roadsL n es).length (roadsL n es) := by
  intro i y hy
  rw [roadsL_len]
  by_cases hi : i < n
  · rw [roadsL_at n es i hi] at hy
    exact ((nbsU_mem es i n y).1 hy).1
  · rw [roadsL_out n es i hi] at hy
    simp at hy
theorem roadsL_small (n : Nat) (es : List (Int × Int)) (hn : n ≤ 1000000000) (x : Nat) : ((roadsL n es).getD x []).length ≤ 1000000000 := by
  by_cases hi : x < n
  · rw [roadsL_at n es x hi]
    have := nbsU_len es x n
    omega
  · rw [roadsL_out n es x hi]; simp

set_option maxRecDepth 20000 in
set_option maxHeartbeats 1000000 in
theorem l2Neighbors_c (n : Int) (v : Value) (es : List (Int × Int)) (x : Int) (H : AH) (hr : RowP 76 H v es) (hlen : es.length ≤ 1099511627776) (hn : 0 ≤ n ∧ n ≤ 8) :
    ACalls Try.prog 136 [.agg (List.toArray [.int .i64 n, v]), .int .i64 x] H fun r H' => Own 3 H H' r (nbsU es x n.toNat) ∧ H <+: H' := by
  refine in136 rfl ?_
  intro Q hQ
  simp (maxSteps := 1000000) (disch := omega) only [cd136, hr.boxG, S, S1, S2, S3, S4, S5, ST, eq_self, reduceIte, reduceCtorEq, Nat.reduceEqDiff, Nat.reduceAdd]
  generalize hA : H ++ [AObj.cells [.int .i64 n, v] 28 false] = A
  have pA : H <+: A := by rw [← hA]; exact List.prefix_append _ _
  have cA : A[H.length]? = some (.cells [.int .i64 n, v] 28 false) := by rw [← hA]; exact at_new ..
  have rA := hr.pre pA
  try simp (maxSteps := 1000000) (disch := omega) only [S, S1, S2, S3, S4, S5, ST, eq_self, reduceIte, reduceCtorEq, Nat.reduceEqDiff, Nat.reduceAdd]
  refine LoopH.by (fun m s H' => ∃ i, m + i = n.toNat ∧ s 1 = .int .i64 x ∧ s 2 = .pointer (some ⟨H.length, 0, none⟩) ∧ s 6 = .int .i64 ((i : Nat) : Int) ∧ Own 3 A H' (s 5) (nbsU es x i) ∧ A <+: H') n.toNat ?_ ?_
  · exact ⟨0, by simp, rfl, rfl, rfl, .inr ⟨A.length, rfl, Nat.le_refl _, at_new ..⟩, List.prefix_append _ _⟩
  · rintro m s H' ⟨i, hm, h1, h2, h6, ho, hp⟩
    have hr' := rA.pre hp
    have cH := pre_at hp cA
    have hl := nbsU_len es x i
    have hst : nbsU es x (i + 1) = nbsU es x i ++ if nearB es x i = true then [(i : Int)] else [] := rfl
    generalize hw : s 5 = w at *
    simp (maxSteps := 1000000) (disch := omega) only [h1, h2, h6, hw, cell_of cH, S, S1, S2, S3, S4, S5, ST, eq_self, reduceIte, reduceCtorEq, Nat.reduceEqDiff, Nat.reduceAdd]
    refine brD.intro (fun g => ?_) (fun g => ?_)
    · simp (maxSteps := 1000000) (disch := omega) only [h1, h2, h6, hw, ld_agg ag28 cs28 cH, S, S1, S2, S3, S4, S5, ST, eq_self, reduceIte, reduceCtorEq, Nat.reduceEqDiff, Nat.reduceAdd]
      refine CallH.by (l2Near_c n v es x i H' hr' hlen) ?_
      rintro _ B ⟨rfl, pB⟩
      have hoB := ho.pre pB
      have hpB := hp.trans pB
      simp (maxSteps := 1000000) (disch := omega) only [S, S1, S2, S3, S4, S5, ST, eq_self, reduceIte, reduceCtorEq, Nat.reduceEqDiff, Nat.reduceAdd]
      refine brH.intro (fun e2 => ?_) (fun e2 => ?_)
      · obtain ⟨w', H2, k1, k2, k3, k4, k5, k6⟩ := own1_32 hoB hpB (by omega) (i : Int)
        simp (maxSteps := 1000000) (disch := omega) only [e2, h1, h2, h6, hw, k1, wrap64, S, S1, S2, S3, S4, S5, ST, eq_self, reduceIte, reduceCtorEq, Nat.reduceEqDiff, Nat.reduceAdd]
        rw [if_pos e2] at hst
        rw [← hst] at k2
        refine ⟨m - 1, by omega, i + 1, ?_⟩
        (repeat' first | exact k2 | exact k3 | apply And.intro) <;> first | (simp only [Value.int.injEq, true_and]; omega) | omega | rfl | assumption | (simp; done) | (simp; omega)
      · simp (maxSteps := 1000000) (disch := omega) only [e2, h1, h2, h6, hw, wrap64, S, S1, S2, S3, S4, S5, ST, eq_self, reduceIte, reduceCtorEq, Nat.reduceEqDiff, Nat.reduceAdd]
        rw [if_neg (by simpa using e2), List.append_nil] at hst
        rw [← hst] at hoB
        refine ⟨m - 1, by omega, i + 1, ?_⟩
        (repeat' first | exact hoB | exact hpB | apply And.intro) <;> first | (simp only [Value.int.injEq, true_and]; omega) | omega | rfl | assumption | (simp; done) | (simp; omega)
    · simp (maxSteps := 1000000) (disch := omega) only [hw, S, S1, S2, S3, S4, S5, ST, eq_self, reduceIte, reduceCtorEq, Nat.reduceEqDiff, Nat.reduceAdd]
      refine hQ _ _ _ ?_
      simp (maxSteps := 1000000) (disch := omega) only [hw, ho.row.tup, S, S1, S2, S3, S4, S5, ST, eq_self, reduceIte, reduceCtorEq, Nat.reduceEqDiff, Nat.reduceAdd]
      have : i = n.toNat := by omega
      subst this
      exact ⟨ho.base pA, pA.trans hp⟩

set_option maxRecDepth 20000 in
set_option maxHeartbeats 1000000 in
theorem roads_c (n : Int) (v : Value) (es : List (Int × Int)) (H : AH) (hr : RowP 76 H v es) (hlen : es.length ≤ 1099511627776) (hg : Grd n es) :
    ACalls Try.prog 113 [.agg (List.toArray [.int .i64 n, v])] H fun r H' => InL H.length H'.length 32 3 H' r (roadsL n.toNat es) ∧ H <+: H' := by
  have hn := hg.1
  refine in113 rfl ?_
  intro Q hQ
  simp (maxSteps := 1000000) (disch := omega) only [cd113, hr.boxG, S, S1, S2, S3, S4, S5, ST, eq_self, reduceIte, reduceCtorEq, Nat.reduceEqDiff, Nat.reduceAdd]
  generalize hA : H ++ [AObj.cells [.int .i64 n, v] 28 false] = A
  have pA : H <+: A := by rw [← hA]; exact List.prefix_append _ _
  have cA : A[H.length]? = some (.cells [.int .i64 n, v] 28 false) := by rw [← hA]; exact at_new ..
  have rA := hr.pre pA
  simp (maxSteps := 1000000) (disch := omega) only [cell_of (at_app cA _), S, S1, S2, S3, S4, S5, ST, eq_self, reduceIte, reduceCtorEq, Nat.reduceEqDiff, Nat.reduceAdd]
  have u0 := InU.new H.length 32 3 A pA.length_le
  refine LoopH.by (fun m s H' => ∃ i o us, m + i = n.toNat ∧ s 1 = .pointer (some ⟨H.length, 0, none⟩) ∧ s 3 = .slice (some ⟨o, 0, none⟩) i i ∧ s 7 = .int .i64 n ∧ s 8 = .int .i64 ((i : Nat) : Int) ∧ A.length ≤ o ∧ InU H.length H'.length 32 3 H' o us ((List.range i).map fun x : Nat => nbsU es (x : Int) n.toNat) ∧ A <+: H') n.toNat ?_ ?_
  · refine ⟨0, A.length, [], by simp, rfl, rfl, rfl, rfl, Nat.le_refl _, ?_, List.prefix_append _ _⟩
    simpa using u0
  · rintro m s H' ⟨i, o, us, hm, h1, h3, h7, h8, hoA, hin, hp⟩
    have hr' := rA.pre hp
    have cH := pre_at hp cA
    have hbl : ((List.range i).map fun x : Nat => nbsU es (x : Int) n.toNat).length = i := by simp
    have hst : ((List.range (i + 1)).map fun x : Nat => nbsU es (x : Int) n.toNat) = ((List.range i).map fun x : Nat => nbsU es (x : Int) n.toNat) ++ [nbsU es i n.toNat] := by rw [List.range_succ, List.map_append]; rfl
    simp (maxSteps := 1000000) (disch := omega) only [h1, h3, h7, h8, S, S1, S2, S3, S4, S5, ST, eq_self, reduceIte, reduceCtorEq, Nat.reduceEqDiff, Nat.reduceAdd]
    refine brD.intro (fun g => ?_) (fun g => ?_)
    · simp (maxSteps := 1000000) (disch := omega) only [h1, h3, h7, h8, ld_agg ag28 cs28 cH, S, S1, S2, S3, S4, S5, ST, eq_self, reduceIte, reduceCtorEq, Nat.reduceEqDiff, Nat.reduceAdd]
      refine CallH.by (neighbors_c n v es i H' hr' hlen hg) ?_
      rintro b D ⟨hb, pD⟩
      have hinw := InI.of hb.mine
      have pHH := pA.trans hp
      obtain ⟨H3, k1, k2, k3, k4⟩ := (hin.pre pD).app1 (P := Try.prog) (t2 := 38) Try.underlying38 cs32 (by rw [by32]; decide) zk32 hinw pHH.length_le pD.length_le (Nat.le_refl _) (by omega)
      have hbs : buildSliceA Try.prog 38 1 [(0, b)] D = some (.slice (some ⟨D.length, 0, none⟩) 1 1, D ++ [.cells [b] 32 false]) := by
        obtain ⟨q, eq⟩ := hb.row.shape
        rw [eq]
        exact bs1 Try.underlying38 cs32 ze32 ⟨by kernel_rfl, by kernel_rfl⟩ D rfl
      rw [hbl] at k1 k2
      simp (maxSteps := 1000000) (disch := omega) only [h1, h3, h7, h8, hbs, k1, wrap64, S, S1, S2, S3, S4, S5, ST, eq_self, reduceIte, reduceCtorEq, Nat.reduceEqDiff, Nat.reduceAdd]
      have f1 : A <+: H3 := prefix_of fun j x hx' => k4 j x (by have := at_lt hx'; omega) (pre_at (hp.trans pD) hx')
      have f2 : InU H.length H3.length 32 3 H3 (D.length + 1) (us.take i ++ [b]) ((List.range (i + 1)).map fun x : Nat => nbsU es (x : Int) n.toNat) := by
        rw [k3, hst]; exact k2
      have hDl := (hp.trans pD).length_le
      refine ⟨m - 1, by omega, i + 1, D.length + 1, us.take i ++ [b], by omega, ?_⟩
      (repeat' first | exact f1 | exact f2 | apply And.intro) <;> first | (simp only [Value.int.injEq, true_and]; omega) | omega | rfl | assumption | (simp; done) | (simp; omega)
    · simp (maxSteps := 1000000) (disch := omega) only [h3, S, S1, S2, S3, S4, S5, ST, eq_self, reduceIte, reduceCtorEq, Nat.reduceEqDiff, Nat.reduceAdd]
      refine hQ _ _ _ ?_
      simp (maxSteps := 1000000) (disch := omega) only [h3, S, S1, S2, S3, S4, S5, ST, eq_self, reduceIte, reduceCtorEq, Nat.reduceEqDiff, Nat.reduceAdd]
      have : i = n.toNat := by omega
      subst this
      refine ⟨?_, pA.trans hp⟩
      have := hin.inl
      rwa [hbl] at this

end Go.Proofs.Ythhnpchjjbjabaa.Ai
