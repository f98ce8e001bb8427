/- slices.DeleteFunc over lists. -/
import Derived.Test.YthhnpchjjbjabaaMark
import Derived.Test.YthhnpchjjbjabaaIdxL
import Derived.Test.YthhnpchjjbjabaaRep
import Derived.Test.YthhnpchjjbjabaaAppL
import Derived.Test.YthhnpchjjbjabaaGrf
import Derived.Test.YthhnpchjjbjabaaProg
import Derived.Test.YthhnpchjjbjabaaAiM2
import Derived.KernelRfl
/- Slim code of this translation. By the kernel. -/
namespace Go.Proofs.Ythhnpchjjbjabaa.Ai
open Go

/- slices.DeleteFunc[[][]int,[]int] -/
def ords140 : List (Nat × List (Nat × Bool)) := []
def cd140 : Cd := (.seq (.reg [⟨⟨some 4, Op.assign (Operand.const (Value.slice none 0 0)), none⟩, []⟩]) (.seq (.reg [⟨⟨some 8, Op.move (Operand.tmp 0), none⟩, []⟩,
  ⟨⟨some 9, Op.move (Operand.tmp 1), none⟩, []⟩,
  ⟨⟨some 10, Op.call { callee := (Callee.value (Operand.func 101)), args := #[(Operand.tmp 8), (Operand.tmp 9)], argTypes := #[38, 92] }, none⟩, []⟩,
  ⟨⟨some 5, Op.assign (Operand.tmp 10), none⟩, []⟩]) (.seq (.seq (.reg [⟨⟨some 11, Op.move (Operand.tmp 5), none⟩, []⟩,
  ⟨⟨some 12, Op.binOp BinOp.eql 3 (Operand.tmp 11) (Operand.const (Value.int IntKind.i64 (-1))) 3, none⟩, []⟩]) (.cond (Operand.tmp 12) (.seq (.reg [⟨⟨some 13, Op.move (Operand.tmp 0), none⟩, []⟩,
  ⟨⟨some 4, Op.assign (Operand.tmp 13), none⟩, []⟩]) .ret) .skip)) (.seq (.seq (.reg [⟨⟨some 14, Op.move (Operand.tmp 5), none⟩, []⟩,
  ⟨⟨some 15, Op.binOp BinOp.add 3 (Operand.tmp 14) (Operand.const (Value.int IntKind.i64 1)) 3, none⟩, []⟩,
  ⟨⟨some 6, Op.assign (Operand.tmp 15), none⟩, []⟩]) (.block 0 (.loop (.seq (.seq (.reg [⟨⟨some 16, Op.move (Operand.tmp 6), none⟩, []⟩,
  ⟨⟨some 17, Op.move (Operand.tmp 0), none⟩, []⟩,
  ⟨⟨some 18, Op.call { callee := (Callee.builtin Builtin.len), args := #[(Operand.tmp 17)], argTypes := #[38] }, none⟩, []⟩,
  ⟨⟨some 19, Op.binOp BinOp.lss 3 (Operand.tmp 16) (Operand.tmp 18) 3, none⟩, []⟩]) (.cond (Operand.tmp 19) .skip (.exit 0))) (.seq (.block 1 (.seq (.reg [⟨⟨some 22, Op.move (Operand.tmp 0), none⟩, []⟩,
  ⟨⟨some 23, Op.move (Operand.tmp 6), none⟩, []⟩,
  ⟨⟨some 24, Op.indexAddr 38 (Operand.tmp 22) (Operand.tmp 23), none⟩, []⟩,
  ⟨⟨some 25, Op.load 32 (Operand.tmp 24), none⟩, []⟩,
  ⟨⟨some 7, Op.assign (Operand.tmp 25), none⟩, []⟩]) (.seq (.reg [⟨⟨some 26, Op.move (Operand.tmp 1), none⟩, []⟩,
  ⟨⟨some 27, Op.move (Operand.tmp 7), none⟩, []⟩,
  ⟨⟨some 28, Op.call { callee := (Callee.value (Operand.tmp 26)), args := #[(Operand.tmp 27)], argTypes := #[32] }, none⟩, []⟩,
  ⟨⟨some 29, Op.unOp UnOp.not 4 (Operand.tmp 28), none⟩, []⟩]) (.cond (Operand.tmp 29) (.seq (.reg [⟨⟨some 30, Op.move (Operand.tmp 0), none⟩, []⟩,
  ⟨⟨some 31, Op.move (Operand.tmp 5), none⟩, []⟩,
  ⟨⟨some 32, Op.move (Operand.tmp 7), none⟩, []⟩,
  ⟨⟨some 33, Op.indexAddr 38 (Operand.tmp 30) (Operand.tmp 31), none⟩, []⟩,
  ⟨⟨none, Op.store 32 (Operand.tmp 33) (Operand.tmp 32), none⟩, []⟩]) (.reg [⟨⟨some 34, Op.move (Operand.tmp 5), none⟩, []⟩,
  ⟨⟨some 35, Op.binOp BinOp.add 3 (Operand.tmp 34) (Operand.const (Value.int IntKind.i64 1)) 3, none⟩, []⟩,
  ⟨⟨some 5, Op.assign (Operand.tmp 35), none⟩, []⟩])) .skip)))) (.reg [⟨⟨some 20, Op.move (Operand.tmp 6), none⟩, []⟩,
  ⟨⟨some 21, Op.binOp BinOp.add 3 (Operand.tmp 20) (Operand.const (Value.int IntKind.i64 1)) 3, none⟩, []⟩,
  ⟨⟨some 6, Op.assign (Operand.tmp 21), none⟩, []⟩])))))) (.seq (.reg [⟨⟨some 36, Op.move (Operand.tmp 0), none⟩, []⟩,
  ⟨⟨some 37, Op.move (Operand.tmp 5), none⟩, []⟩,
  ⟨⟨some 38, Op.slice 38 (Operand.tmp 36) (some (Operand.tmp 37)) none none, none⟩, []⟩,
  ⟨⟨none, Op.call { callee := (Callee.builtin Builtin.clear), args := #[(Operand.tmp 38)], argTypes := #[38] }, none⟩, []⟩]) (.seq (.reg [⟨⟨some 39, Op.move (Operand.tmp 0), none⟩, []⟩,
  ⟨⟨some 40, Op.move (Operand.tmp 5), none⟩, []⟩,
  ⟨⟨some 41, Op.slice 38 (Operand.tmp 39) none (some (Operand.tmp 40)) none, none⟩, []⟩,
  ⟨⟨some 4, Op.assign (Operand.tmp 41), none⟩, []⟩]) .ret))))))
theorem sl140 : slim Try.f140.ntmps ords140 (Try.f140.body.getD .skip) = some cd140 := by kernel_rfl
theorem in140 {args : List Value} {H : AH} {R : Value → AH → Prop} (hl : args.length = 2) (h : ∀ (Q : Exit → Sl → AH → Prop), (∀ e s H, endA Try.prog [ResultVar.tmp 4] R e s H → Q e s H) → wpC Try.prog cd140 Q (enterA args) H) : ACalls Try.prog 140 args H R :=
  ACalls.intro (by kernel_rfl) Try.func140 rfl (by kernel_rfl) sl140 hl (of_decide_eq_true (by kernel_rfl)) (by kernel_rfl) h
end Go.Proofs.Ythhnpchjjbjabaa.Ai

namespace Go.Proofs.Ythhnpchjjbjabaa.Ai
open Go Go.RowKit
set_option linter.unusedVariables false
set_option linter.unusedSimpArgs false

/-- the places, of the first n, that stay -/
def kiB (bs : List Bool) : Nat → List Nat
  | 0 => []
  | n + 1 => kiB bs n ++ (if bs.getD n false = true then [] else [n])
theorem kiB_lt (bs : List Bool) : ∀ n, ∀ k ∈ kiB bs n, k < n
  | 0, k, h => by simp [kiB] at h
  | n + 1, k, h => by
    simp only [kiB, List.mem_append] at h
    rcases h with h | h
    · have := kiB_lt bs n k h; omega
    · split at h
      · simp at h
      · simp only [List.mem_singleton] at h; omega
theorem kiB_srt (bs : List Bool) : ∀ n, (kiB bs n).Pairwise (· < ·)
  | 0 => .nil
  | n + 1 => by
    simp only [kiB]
    rw [List.pairwise_append]
    refine ⟨kiB_srt bs n, by split <;> simp, fun x hx y hy => ?_⟩
    have := kiB_lt bs n x hx
    split at hy
    · simp at hy
    · simp only [List.mem_singleton] at hy; omega
theorem kiB_len (bs : List Bool) : ∀ n, (kiB bs n).length ≤ n
  | 0 => Nat.le_refl _
  | n + 1 => by
    have := kiB_len bs n
    simp only [kiB, List.length_append]
    split <;> simp <;> omega
theorem kiB_filter (p : List Int → Bool) (ls : List (List Int)) : ∀ n, n ≤ ls.length → (kiB (ls.map p) n).map (fun k => ls.getD k []) = (ls.take n).filter (fun l => !p l)
  | 0, _ => by simp [kiB]
  | n + 1, h => by
    have hn : n < ls.length := by omega
    have e1 : (ls.map p).getD n false = p ls[n] := by simp [hn]
    have e2 : ls.getD n [] = ls[n] := by simp [hn]
    simp only [kiB, List.map_append, kiB_filter p ls n (by omega)]
    rw [List.take_add_one, List.getElem?_eq_getElem hn, List.filter_append, e1]
    congr 1
    cases hp : p ls[n] <;> simp [hp, hn]
theorem kiB_none (bs : List Bool) : ∀ n, (∀ j, j < n → bs.getD j false = false) → kiB bs n = List.range n
  | 0, _ => rfl
  | n + 1, h => by
    simp only [kiB]
    rw [kiB_none bs n (fun j hj => h j (by omega)), h n (by omega), List.range_succ]
    simp
theorem idxB_lt : ∀ (bs : List Bool) (k : Nat), (idxB bs k = -1 ∧ ∀ j, bs.getD j false = false) ∨ ∃ i, idxB bs k = ((k + i : Nat) : Int) ∧ i < bs.length ∧ (∀ j, j < i → bs.getD j false = false) ∧ bs.getD i false = true
  | [], k => .inl ⟨rfl, by simp⟩
  | b :: bs, k => by
    simp only [idxB]
    cases b with
    | true => exact .inr ⟨0, by simp, by simp, fun j h => absurd h (Nat.not_lt_zero j), by simp⟩
    | false =>
      rcases idxB_lt bs (k + 1) with ⟨e, h⟩ | ⟨i, e1, e2, e3, e4⟩
      · refine .inl ⟨by simpa using e, fun j => ?_⟩
        cases j with
        | zero => simp
        | succ j => simpa using h j
      · refine .inr ⟨i + 1, by simp only [Bool.false_eq_true, if_false]; rw [e1]; congr 1; omega, by simp; omega, fun j hj => ?_, by simpa using e4⟩
        cases j with
        | zero => simp
        | succ j => simpa using e3 j (by omega)
theorem take_set_V (zs : List Value) (i : Nat) (x : Value) (h : i < zs.length) : (zs.set i x).take (i + 1) = zs.take i ++ [x] := by
  rw [List.take_add_one, List.getElem?_set_self h]
  congr 1
  rw [List.take_set_of_le (Nat.le_refl _)]
theorem clear_vals {P : Program} {t e : TypeId} (hu : P.underlying t = some (.slice e)) (hc : P.cellsOf e = 1) (hz : zeroA P e = some (.slice none 0 0)) {H : AH} {o k n c : Nat} {ys : List Value} (ho : H[o]? = some (.cells ys e false)) (hk : k + n ≤ ys.length) :
    ∃ zs, clearA P t (.slice (some ⟨o, k, none⟩) n c) H = some (undef, H.set o (.cells zs e false)) ∧ zs.take k = ys.take k ∧ zs.length = ys.length := by
  by_cases hn : n = 0
  · refine ⟨ys, ?_, rfl, rfl⟩
    simp only [clearA, hu]
    rw [if_pos hn]
    have : H.set o (.cells ys e false) = H := by
      apply List.ext_getElem?
      intro i
      rw [List.getElem?_set]
      by_cases hi : o = i
      · subst hi
        rw [if_pos rfl, if_pos (at_lt ho), ho]
      · rw [if_neg hi]
    rw [this]
  · have hzc : (Value.slice none 0 0).cells = #[.slice none 0 0] := rfl
    have hzs : zerosA (.slice none 0 0) (n * 1) = List.replicate n (.slice none 0 0) := by
      unfold zerosA
      rw [hzc, Nat.mul_one]
      apply List.ext_getElem
      · simp
      · intro i h1 h2
        simp [Nat.mod_one]
    refine ⟨ys.take k ++ List.replicate n (.slice none 0 0) ++ ys.drop (k + n), ?_, ?_, ?_⟩
    · simp only [clearA, hu, ho, hz, hc, hzs]
      rw [if_neg hn, if_pos ⟨trivial, by simp [plainCs, hzc, plainC], by simp [hzc], by omega, by omega⟩]
      unfold putAt
      simp only [List.length_replicate]
    · rw [List.append_assoc, List.take_append_of_le_length (by simp; omega), List.take_take, Nat.min_self]
    · simp; omega

theorem InL.tup9 {lo hi : Nat} {e2 e : TypeId} {H : AH} {v : Value} {ls : List (List Int)} (h : InL lo hi e2 e H v ls) : isTup v = false := by
  rcases h with ⟨h, _⟩ | ⟨o, us, h, _⟩ <;> rw [h] <;> rfl
set_option maxRecDepth 20000 in
set_option maxHeartbeats 4000000 in
theorem DelL_c {lo hi : Nat} (v : Value) (ls : List (List Int)) (p : List Int → Bool) (g : FuncId) (caps : List Value) (H : AH) (hv : InL lo hi 32 3 H v ls) (hlen : ls.length ≤ 1099511627776)
    (hp : ∀ (w : Value) (l : List Int) (H1 : AH), Row 3 H1 w l → l ∈ ls → Kept v H H1 → ACalls Try.prog g (w :: caps) H1 fun r H' => r = .bool (p l) ∧ H1 = H') :
    ACalls Try.prog 140 [v, .func (.func g) #[] (List.toArray caps)] H fun r H' => InL lo hi 32 3 H' r (ls.filter fun l => !p l) ∧ Kept v H H' ∧ H.length ≤ H'.length := by
  refine in140 rfl ?_
  intro Q hQ
  simp (maxSteps := 1000000) (disch := omega) only [cd140, S, S1, S2, S3, S4, S5, ST, eq_self, reduceIte, reduceCtorEq, Nat.reduceEqDiff, Nat.reduceAdd]
  obtain ⟨us, r1, r2, r3⟩ := hv.parts
  have hbl : (ls.map p).length = us.length := by rw [List.length_map, r2]
  have bat : ∀ i, i < ls.length → (ls.map p).getD i false = p (ls.getD i []) := fun i hi => by simp [hi]
  have kp0 : ∀ H1 : AH, H <+: H1 → Kept v H H1 := fun H1 hp1 j y _ hy => pre_at hp1 hy
  refine CallH.by (IndexFuncL_c v us (ls.map p) g caps H r1 (by omega) hbl (fun i hi H1 hp1 => ?_)) ?_
  · have hi' : i < ls.length := by omega
    have h := hp (us.getD i undef) (ls.getD i []) H1 ((r3 i hi').row.1.pre hp1) (by simp [hi']) (kp0 H1 hp1)
    rw [← bat i hi'] at h
    exact h.mono fun r H' hh => ⟨hh.1, hh.2 ▸ List.prefix_refl _⟩
  rintro _ H1 ⟨rfl, hp1⟩
  have hv1 := hv.pre hp1
  simp (maxSteps := 1000000) (disch := omega) only [S, S1, S2, S3, S4, S5, ST, eq_self, reduceIte, reduceCtorEq, Nat.reduceEqDiff, Nat.reduceAdd]
  rcases idxB_lt (ls.map p) 0 with ⟨e, hno⟩ | ⟨i0, e1, e2, e3, e4⟩
  · have hall : ls.filter (fun l => !p l) = ls := by
      rw [List.filter_eq_self]
      intro l hl
      obtain ⟨i, hi, rfl⟩ := List.getElem_of_mem hl
      have := hno i
      rw [bat i hi] at this
      have e2 : ls.getD i [] = ls[i] := by simp [hi]
      rw [e2] at this; simp [this]
    rw [hall] at hQ
    simp (maxSteps := 1000000) (disch := omega) only [e, S, S1, S2, S3, S4, S5, ST, eq_self, reduceIte, reduceCtorEq, Nat.reduceEqDiff, Nat.reduceAdd]
    refine hQ _ _ _ ?_
    simp (maxSteps := 1000000) (disch := omega) only [hv.tup9, S, S1, S2, S3, S4, S5, ST, eq_self, reduceIte, reduceCtorEq, Nat.reduceEqDiff, Nat.reduceAdd]
    exact ⟨hv1, kp0 H1 hp1, hp1.length_le⟩
  rw [Nat.zero_add] at e1
  have hi0 : i0 < ls.length := by simpa using e2
  rcases hv1 with ⟨_, hn⟩ | ⟨o, us1, rfl, hU⟩
  · rw [hn] at hi0; simp at hi0
  have hU0 := hU
  obtain ⟨u1, u2, u3, u4, u5, u6⟩ := hU0
  have hne : ¬ ((i0 : Nat) : Int) = -1 := by omega
  simp (maxSteps := 1000000) (disch := omega) only [e1, hne, wrap64, S, S1, S2, S3, S4, S5, ST, eq_self, reduceIte, reduceCtorEq, Nat.reduceEqDiff, Nat.reduceAdd]
  have rowOf : ∀ zs : List Value, ls.length ≤ zs.length → RowV 32 (H1.set o (.cells zs 32 false)) (.slice (some ⟨o, 0, none⟩) ls.length ls.length) (zs.take ls.length) := by
    intro zs hz
    refine .inr ⟨o, 0, zs, false, by simp [Nat.min_eq_left hz], at_set u3, by simp; omega, by simp [Nat.min_eq_left hz]⟩
  have kset : ∀ x : AObj, Kept (.slice (some ⟨o, 0, none⟩) ls.length ls.length) H1 (H1.set o x) := fun x => (Else.set (p := 0) (n := ls.length) (c := ls.length) H1 x).2
  refine LoopH.by (fun m s H' => ∃ (j i : Nat) (zs : List Value), m + j = ls.length ∧ s 0 = .slice (some ⟨o, 0, none⟩) ls.length ls.length ∧ s 1 = .func (.func g) #[] (List.toArray caps) ∧ s 5 = .int .i64 ((i : Nat) : Int) ∧ s 6 = .int .i64 ((j : Nat) : Int) ∧ H' = H1.set o (.cells zs 32 false) ∧ zs.length = us1.length ∧ i < j ∧ (kiB (ls.map p) j).length = i ∧ zs.take i = (kiB (ls.map p) j).map (fun k => us1.getD k undef) ∧ zs.drop j = us1.drop j) (ls.length - i0 - 1) ?_ ?_
  · have hk0 : kiB (ls.map p) (i0 + 1) = List.range i0 := by
      simp only [kiB]
      rw [kiB_none _ i0 e3, e4]
      simp
    have hs : H1 = H1.set o (.cells us1 32 false) := by
      apply List.ext_getElem?
      intro j
      rw [List.getElem?_set]
      by_cases hj : o = j
      · subst hj; rw [if_pos rfl, if_pos (at_lt u3), u3]
      · rw [if_neg hj]
    refine ⟨i0 + 1, i0, us1, by omega, rfl, rfl, by simp [S, S1, S2, S3, S4, S5, ST, eq_self, reduceIte, reduceCtorEq, Nat.reduceEqDiff, Nat.reduceAdd], by simp [S, S1, S2, S3, S4, S5, ST, eq_self, reduceIte, reduceCtorEq, Nat.reduceEqDiff, Nat.reduceAdd], hs, rfl, by omega, by rw [hk0]; simp, ?_, rfl⟩
    rw [hk0]
    apply List.ext_getElem
    · simp; omega
    · intro j h1 h2
      simp at h1 h2
      simp [show j < us1.length by omega]
  rintro m s H' ⟨j, i, zs, hm, h0, h1, h5, h6, rfl, hzl, hij, hkl, hzt, hzd⟩
  have hc' : (H1.set o (.cells zs 32 false))[o]? = some (.cells zs 32 false) := at_set u3
  have hjl : i ≤ us1.length := by have := kiB_len (ls.map p) j; omega
  have hrow := rowOf zs (by omega)
  have htl : (zs.take ls.length).length = ls.length := by simp; omega
  simp (maxSteps := 1000000) (disch := omega) only [h0, h1, h5, h6, S, S1, S2, S3, S4, S5, ST, eq_self, reduceIte, reduceCtorEq, Nat.reduceEqDiff, Nat.reduceAdd]
  refine brD.intro (fun gg => ?_) (fun gg => ?_)
  · have hj : j < ls.length := by omega
    have hy : zs.getD j undef = us1.getD j undef := by
      have := congrArg (·[0]?) hzd
      simp only [List.getElem?_drop, Nat.add_zero] at this
      rw [List.getD_eq_getElem?_getD, List.getD_eq_getElem?_getD, this]
    have hcell : cellA (H1.set o (.cells zs 32 false)) o j = some (us1.getD j undef) := by
      rw [cell_of hc', ← hy]
      simp [show j < zs.length by omega]
    obtain ⟨w1, w2⟩ := u5 j hj
    have hrw := w1.row.1
    have hap : Apart (us1.getD j undef) (.slice (some ⟨o, 0, none⟩) ls.length ls.length) := by
      rcases w2 with q | q
      · exact .inr (.inl q)
      · exact .inr (.inr q)
    have hrw2 := hrw.kept hap (kset (.cells zs 32 false))
    have hkk : Kept (.slice (some ⟨o, 0, none⟩) ls.length ls.length) H (H1.set o (.cells zs 32 false)) := fun q y hq hy => kset _ q y hq (pre_at hp1 hy)
    simp (maxSteps := 1000000) (disch := omega) only [h0, h1, h5, h6, Int.toNat_natCast, Nat.zero_add, hcell, S, S1, S2, S3, S4, S5, ST, eq_self, reduceIte, reduceCtorEq, Nat.reduceEqDiff, Nat.reduceAdd]
    refine CallH.by (hp (us1.getD j undef) (ls.getD j []) _ hrw2 (by simp [hj]) hkk) ?_
    rintro _ _ ⟨rfl, rfl⟩
    have hstep : kiB (ls.map p) (j + 1) = kiB (ls.map p) j ++ (if p (ls.getD j []) = true then [] else [j]) := by simp only [kiB]; rw [bat j hj]
    obtain ⟨pu, hpu⟩ := hrw.shape
    cases q : p (ls.getD j []) with
    | true =>
      simp (maxSteps := 1000000) (disch := omega) only [h0, h1, h5, h6, wrap64, S, S1, S2, S3, S4, S5, ST, eq_self, reduceIte, reduceCtorEq, Nat.reduceEqDiff, Nat.reduceAdd]
      rw [q, if_pos rfl, List.append_nil] at hstep
      have f1 : (kiB (ls.map p) (j + 1)).length = i := by rw [hstep]; exact hkl
      have f2 : zs.take i = (kiB (ls.map p) (j + 1)).map (fun k => us1.getD k undef) := by rw [hstep]; exact hzt
      have f3 : zs.drop (j + 1) = us1.drop (j + 1) := by rw [← List.drop_drop, hzd, List.drop_drop]
      refine ⟨m - 1, by omega, j + 1, i, zs, ?_⟩
      (repeat' apply And.intro) <;> first | rfl | trivial | assumption | omega | (simp only [Value.int.injEq, true_and]; omega) | (simp; done) | (simp; omega) | exact f1 | exact f2 | exact f3
    | false =>
      have hst := st_at (P := Try.prog) (t := 32) (i := i) (y := us1.getD j undef) cs32 hc' (by omega) (by rw [hpu]; rfl) (by rw [hpu]; rfl)
      rw [List.set_set] at hst
      rw [q, if_neg (by decide)] at hstep
      simp (maxSteps := 1000000) (disch := omega) only [h0, h1, h5, h6, Int.toNat_natCast, Nat.zero_add, hcell, hst, wrap64, S, S1, S2, S3, S4, S5, ST, eq_self, reduceIte, reduceCtorEq, Nat.reduceEqDiff, Nat.reduceAdd]
      have f1 : (kiB (ls.map p) (j + 1)).length = i + 1 := by rw [hstep, List.length_append, hkl]; rfl
      have f2 : (zs.set i (us1.getD j undef)).take (i + 1) = (kiB (ls.map p) (j + 1)).map (fun k => us1.getD k undef) := by rw [take_set_V zs i _ (by omega), hstep, hzt, List.map_append]; rfl
      have f3 : (zs.set i (us1.getD j undef)).drop (j + 1) = us1.drop (j + 1) := by rw [List.drop_set_of_lt (by omega), ← List.drop_drop, hzd, List.drop_drop]
      have f4 : (zs.set i (us1.getD j undef)).length = us1.length := by simp [hzl]
      refine ⟨m - 1, by omega, j + 1, i + 1, zs.set i (us1.getD j undef), ?_⟩
      (repeat' apply And.intro) <;> first | rfl | trivial | assumption | omega | (simp only [Value.int.injEq, true_and]; omega) | (simp; done) | (simp; omega) | exact f1 | exact f2 | exact f3 | exact f4
  · have hj : j = ls.length := by omega
    subst hj
    have hs1 := sl_own (P := Try.prog) (t := 38) (k := 0) (n := ls.length) (c := ls.length) Try.underlying38 cs32 hc' (lo := some (.int .i64 ((i : Nat) : Int))) (hi := none) (bound_some (by omega) _) (hi_none _) (by omega) (Nat.le_refl _)
    simp only [Int.toNat_natCast, Nat.zero_add] at hs1
    obtain ⟨zs2, hz1, hz2, hz3⟩ := clear_vals (P := Try.prog) (k := i) (n := ls.length - i) (c := ls.length - i) Try.underlying38 cs32 ze32 hc' (by omega)
    rw [List.set_set] at hz1
    simp (maxSteps := 1000000) (disch := omega) only [h0, h1, h5, h6, hs1, hz1, S, S1, S2, S3, S4, S5, ST, eq_self, reduceIte, reduceCtorEq, Nat.reduceEqDiff, Nat.reduceAdd]
    have hc2 : (H1.set o (.cells zs2 32 false))[o]? = some (.cells zs2 32 false) := at_set u3
    have hs2 := sl_own (P := Try.prog) (t := 38) (k := 0) (n := ls.length) (c := ls.length) Try.underlying38 cs32 hc2 (lo := none) (hi := some (.int .i64 ((i : Nat) : Int))) lo_none (bound_some (by omega) _) (by omega) (by simp; omega)
    simp only [Int.toNat_natCast, Nat.add_zero, Nat.sub_zero] at hs2
    simp (maxSteps := 1000000) (disch := omega) only [h0, h1, h5, h6, hs2, S, S1, S2, S3, S4, S5, ST, eq_self, reduceIte, reduceCtorEq, Nat.reduceEqDiff, Nat.reduceAdd]
    refine hQ _ _ _ ?_
    simp (maxSteps := 1000000) (disch := omega) only [S, S1, S2, S3, S4, S5, ST, eq_self, reduceIte, reduceCtorEq, Nat.reduceEqDiff, Nat.reduceAdd]
    have hfl : ls.filter (fun l => !p l) = (kiB (ls.map p) ls.length).map (fun k => ls.getD k []) := by
      rw [kiB_filter p ls ls.length (Nat.le_refl _), List.take_length]
    have hfn : (ls.filter fun l => !p l).length = i := by rw [hfl, List.length_map, hkl]
    have hget : ∀ t, t < i → zs2.getD t undef = us1.getD ((kiB (ls.map p) ls.length).getD t 0) undef ∧ (ls.filter fun l => !p l).getD t [] = ls.getD ((kiB (ls.map p) ls.length).getD t 0) [] ∧ (kiB (ls.map p) ls.length).getD t 0 < ls.length := by
      intro t ht
      have ht2 : t < (kiB (ls.map p) ls.length).length := by omega
      have hkm : (kiB (ls.map p) ls.length)[t] ∈ kiB (ls.map p) ls.length := List.getElem_mem _
      have e0 : (kiB (ls.map p) ls.length).getD t 0 = (kiB (ls.map p) ls.length)[t] := by simp [ht2]
      refine ⟨?_, ?_, by rw [e0]; exact kiB_lt _ _ _ hkm⟩
      · have h := congrArg (·[t]?) (hz2.trans hzt)
        simp only [List.getElem?_take, if_pos ht, List.getElem?_map] at h
        rw [List.getD_eq_getElem?_getD, h, e0, List.getElem?_eq_getElem ht2]; rfl
      · rw [hfl, List.getD_eq_getElem?_getD, List.getElem?_map, List.getElem?_eq_getElem ht2, e0]; rfl
    have kset2 := kset (.cells zs2 32 false)
    refine ⟨.inr ⟨o, zs2, by rw [hfn], u1, u2, hc2, by omega, fun t ht => ?_, fun a b hab ha hb => ?_⟩, fun q y hq hy => kset2 q y hq (pre_at hp1 hy), by simpa using hp1.length_le⟩
    · rw [hfn] at ht
      obtain ⟨g1, g2, g3⟩ := hget t ht
      rw [g1, g2]
      obtain ⟨w1, w2⟩ := u5 _ g3
      refine ⟨w1.move fun y hn hy => ?_, w2⟩
      rcases w2 with q | q
      · exact absurd q hn
      · rw [List.getElem?_set_ne (fun e => q e.symm)]; exact hy
    · rw [hfn] at ha hb
      obtain ⟨g1, _, g3⟩ := hget a ha
      obtain ⟨k1, _, k3⟩ := hget b hb
      rw [g1, k1]
      refine u6 _ _ ?_ g3 k3
      have hs := kiB_srt (ls.map p) ls.length
      rw [List.pairwise_iff_getElem] at hs
      have ea : (kiB (ls.map p) ls.length).getD a 0 = (kiB (ls.map p) ls.length)[a]'(by omega) := by simp [show a < (kiB (ls.map p) ls.length).length by omega]
      have eb : (kiB (ls.map p) ls.length).getD b 0 = (kiB (ls.map p) ls.length)[b]'(by omega) := by simp [show b < (kiB (ls.map p) ls.length).length by omega]
      rw [ea, eb]
      rcases Nat.lt_trichotomy a b with h | h | h
      · have := hs a b (by omega) (by omega) h; omega
      · exact absurd h hab
      · have := hs b a (by omega) (by omega) h; omega
end Go.Proofs.Ythhnpchjjbjabaa.Ai
