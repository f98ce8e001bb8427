/- Texts of this claim, joined: DelL, Lig, App9, Lgs, LLgs. -/
import Derived.Test.YtlcipphiflcaiaaProg
import Derived.KernelRfl
import Derived.Test.YtlcipphiflcaiaaMgLawLgs6
namespace Go.Proofs.Ytlcipphiflcaiaa.Ai
open Go
def ords28 : List (Nat × List (Nat × Bool)) := []
def cd28 : Cd := (.seq (.reg [⟨⟨some 4, Op.assign (Operand.const (Value.slice none 0 0)), none⟩, []⟩]) (.seq (.reg [⟨⟨some 8, Op.move (Operand.tmp 0), none⟩, []⟩,
  ⟨⟨some 9, Op.move (Operand.tmp 1), none⟩, []⟩,
  ⟨⟨some 10, Op.call { callee := (Callee.value (Operand.func 56)), args := #[(Operand.tmp 8), (Operand.tmp 9)], argTypes := #[27, 56] }, none⟩, []⟩,
  ⟨⟨some 5, Op.assign (Operand.tmp 10), none⟩, []⟩]) (.seq (.seq (.reg [⟨⟨some 11, Op.move (Operand.tmp 5), none⟩, []⟩,
  ⟨⟨some 12, Op.binOp BinOp.eql 3 (Operand.tmp 11) (Operand.const (Value.int IntKind.i64 (-1))) 3, none⟩, []⟩]) (.cond (Operand.tmp 12) (.seq (.reg [⟨⟨some 13, Op.move (Operand.tmp 0), none⟩, []⟩,
  ⟨⟨some 4, Op.assign (Operand.tmp 13), none⟩, []⟩]) .ret) .skip)) (.seq (.seq (.reg [⟨⟨some 14, Op.move (Operand.tmp 5), none⟩, []⟩,
  ⟨⟨some 15, Op.binOp BinOp.add 3 (Operand.tmp 14) (Operand.const (Value.int IntKind.i64 1)) 3, none⟩, []⟩,
  ⟨⟨some 6, Op.assign (Operand.tmp 15), none⟩, []⟩]) (.block 0 (.loop (.seq (.seq (.reg [⟨⟨some 16, Op.move (Operand.tmp 6), none⟩, []⟩,
  ⟨⟨some 17, Op.move (Operand.tmp 0), none⟩, []⟩,
  ⟨⟨some 18, Op.call { callee := (Callee.builtin Builtin.len), args := #[(Operand.tmp 17)], argTypes := #[27] }, none⟩, []⟩,
  ⟨⟨some 19, Op.binOp BinOp.lss 3 (Operand.tmp 16) (Operand.tmp 18) 3, none⟩, []⟩]) (.cond (Operand.tmp 19) .skip (.exit 0))) (.seq (.block 1 (.seq (.reg [⟨⟨some 22, Op.move (Operand.tmp 0), none⟩, []⟩,
  ⟨⟨some 23, Op.move (Operand.tmp 6), none⟩, []⟩,
  ⟨⟨some 24, Op.indexAddr 27 (Operand.tmp 22) (Operand.tmp 23), none⟩, []⟩,
  ⟨⟨some 25, Op.load 25 (Operand.tmp 24), none⟩, []⟩,
  ⟨⟨some 7, Op.assign (Operand.tmp 25), none⟩, []⟩]) (.seq (.reg [⟨⟨some 26, Op.move (Operand.tmp 1), none⟩, []⟩,
  ⟨⟨some 27, Op.move (Operand.tmp 7), none⟩, []⟩,
  ⟨⟨some 28, Op.call { callee := (Callee.value (Operand.tmp 26)), args := #[(Operand.tmp 27)], argTypes := #[25] }, none⟩, []⟩,
  ⟨⟨some 29, Op.unOp UnOp.not 4 (Operand.tmp 28), none⟩, []⟩]) (.cond (Operand.tmp 29) (.seq (.reg [⟨⟨some 30, Op.move (Operand.tmp 0), none⟩, []⟩,
  ⟨⟨some 31, Op.move (Operand.tmp 5), none⟩, []⟩,
  ⟨⟨some 32, Op.move (Operand.tmp 7), none⟩, []⟩,
  ⟨⟨some 33, Op.indexAddr 27 (Operand.tmp 30) (Operand.tmp 31), none⟩, []⟩,
  ⟨⟨none, Op.store 25 (Operand.tmp 33) (Operand.tmp 32), none⟩, []⟩]) (.reg [⟨⟨some 34, Op.move (Operand.tmp 5), none⟩, []⟩,
  ⟨⟨some 35, Op.binOp BinOp.add 3 (Operand.tmp 34) (Operand.const (Value.int IntKind.i64 1)) 3, none⟩, []⟩,
  ⟨⟨some 5, Op.assign (Operand.tmp 35), none⟩, []⟩])) .skip)))) (.reg [⟨⟨some 20, Op.move (Operand.tmp 6), none⟩, []⟩,
  ⟨⟨some 21, Op.binOp BinOp.add 3 (Operand.tmp 20) (Operand.const (Value.int IntKind.i64 1)) 3, none⟩, []⟩,
  ⟨⟨some 6, Op.assign (Operand.tmp 21), none⟩, []⟩])))))) (.seq (.reg [⟨⟨some 36, Op.move (Operand.tmp 0), none⟩, []⟩,
  ⟨⟨some 37, Op.move (Operand.tmp 5), none⟩, []⟩,
  ⟨⟨some 38, Op.slice 27 (Operand.tmp 36) (some (Operand.tmp 37)) none none, none⟩, []⟩,
  ⟨⟨none, Op.call { callee := (Callee.builtin Builtin.clear), args := #[(Operand.tmp 38)], argTypes := #[27] }, none⟩, []⟩]) (.seq (.reg [⟨⟨some 39, Op.move (Operand.tmp 0), none⟩, []⟩,
  ⟨⟨some 40, Op.move (Operand.tmp 5), none⟩, []⟩,
  ⟨⟨some 41, Op.slice 27 (Operand.tmp 39) none (some (Operand.tmp 40)) none, none⟩, []⟩,
  ⟨⟨some 4, Op.assign (Operand.tmp 41), none⟩, []⟩]) .ret))))))
theorem sl28 : slim Try.f28.ntmps ords28 (Try.f28.body.getD .skip) = some cd28 := by kernel_rfl
theorem in28 {args : List Value} {H : AH} {R : Value → AH → Prop} (hl : args.length = 2) (h : ∀ (Q : Exit → Sl → AH → Prop), (∀ e s H, endA Try.prog [ResultVar.tmp 4] R e s H → Q e s H) → wpC Try.prog cd28 Q (enterA args) H) : ACalls Try.prog 28 args H R :=
  ACalls.intro (by kernel_rfl) Try.func28 rfl (by kernel_rfl) sl28 hl (of_decide_eq_true (by kernel_rfl)) (by kernel_rfl) h
end Go.Proofs.Ytlcipphiflcaiaa.Ai
namespace Go.Proofs.Ytlcipphiflcaiaa.Ai
open Go Go.RowKit
set_option linter.unusedVariables false
set_option linter.unusedSimpArgs false
/-- the places, of the first n, that stay -/
def kiB (bs : List Bool) : Nat → List Nat
  | 0 => []
  | n + 1 => kiB bs n ++ (if bs.getD n false = true then [] else [n])
theorem kiB_lt (bs : List Bool) : ∀ n, ∀ k ∈ kiB bs n, k < n
  | 0, k, h => by simp [kiB] at h
  | n + 1, k, h => by
    simp only [kiB, List.mem_append] at h
    rcases h with h | h
    · have := kiB_lt bs n k h; omega
    · split at h
      · simp at h
      · simp only [List.mem_singleton] at h; omega
theorem kiB_srt (bs : List Bool) : ∀ n, (kiB bs n).Pairwise (· < ·)
  | 0 => .nil
  | n + 1 => by
    simp only [kiB]
    rw [List.pairwise_append]
    refine ⟨kiB_srt bs n, by split <;> simp, fun x hx y hy => ?_⟩
    have := kiB_lt bs n x hx
    split at hy
    · simp at hy
    · simp only [List.mem_singleton] at hy; omega
theorem kiB_len (bs : List Bool) : ∀ n, (kiB bs n).length ≤ n
  | 0 => Nat.le_refl _
  | n + 1 => by
    have := kiB_len bs n
    simp only [kiB, List.length_append]
    split <;> simp <;> omega
theorem kiB_filter (p : List Int → Bool) (ls : List (List Int)) : ∀ n, n ≤ ls.length → (kiB (ls.map p) n).map (fun k => ls.getD k []) = (ls.take n).filter (fun l => !p l)
  | 0, _ => by simp [kiB]
  | n + 1, h => by
    have hn : n < ls.length := by omega
    have e1 : (ls.map p).getD n false = p ls[n] := by simp [hn]
    have e2 : ls.getD n [] = ls[n] := by simp [hn]
    simp only [kiB, List.map_append, kiB_filter p ls n (by omega)]
    rw [List.take_add_one, List.getElem?_eq_getElem hn, List.filter_append, e1]
    congr 1
    cases hp : p ls[n] <;> simp [hp, hn]
theorem kiB_none (bs : List Bool) : ∀ n, (∀ j, j < n → bs.getD j false = false) → kiB bs n = List.range n
  | 0, _ => rfl
  | n + 1, h => by
    simp only [kiB]
    rw [kiB_none bs n (fun j hj => h j (by omega)), h n (by omega), List.range_succ]
    simp
theorem idxB_lt : ∀ (bs : List Bool) (k : Nat), (idxB bs k = -1 ∧ ∀ j, bs.getD j false = false) ∨ ∃ i, idxB bs k = ((k + i : Nat) : Int) ∧ i < bs.length ∧ (∀ j, j < i → bs.getD j false = false) ∧ bs.getD i false = true
  | [], k => .inl ⟨rfl, by simp⟩
  | b :: bs, k => by
    simp only [idxB]
    cases b with
    | true => exact .inr ⟨0, by simp, by simp, fun j h => absurd h (Nat.not_lt_zero j), by simp⟩
    | false =>
      rcases idxB_lt bs (k + 1) with ⟨e, h⟩ | ⟨i, e1, e2, e3, e4⟩
      · refine .inl ⟨by simpa using e, fun j => ?_⟩
        cases j with
        | zero => simp
        | succ j => simpa using h j
      · refine .inr ⟨i + 1, by simp only [Bool.false_eq_true, if_false]; rw [e1]; congr 1; omega, by simp; omega, fun j hj => ?_, by simpa using e4⟩
        cases j with
        | zero => simp
        | succ j => simpa using e3 j (by omega)
theorem take_set_V (zs : List Value) (i : Nat) (x : Value) (h : i < zs.length) : (zs.set i x).take (i + 1) = zs.take i ++ [x] := by
  rw [List.take_add_one, List.getElem?_set_self h]
  congr 1
  rw [List.take_set_of_le (Nat.le_refl _)]
theorem clear_vals {P : Program} {t e : TypeId} (hu : P.underlying t = some (.slice e)) (hc : P.cellsOf e = 1) (hz : zeroA P e = some (.slice none 0 0)) {H : AH} {o k n c : Nat} {ys : List Value} (ho : H[o]? = some (.cells ys e false)) (hk : k + n ≤ ys.length) :
    ∃ zs, clearA P t (.slice (some ⟨o, k, none⟩) n c) H = some (undef, H.set o (.cells zs e false)) ∧ zs.take k = ys.take k ∧ zs.length = ys.length := by
  by_cases hn : n = 0
  · refine ⟨ys, ?_, rfl, rfl⟩
    simp only [clearA, hu]
    rw [if_pos hn]
    have : H.set o (.cells ys e false) = H := by
      apply List.ext_getElem?
      intro i
      rw [List.getElem?_set]
      by_cases hi : o = i
      · subst hi
        rw [if_pos rfl, if_pos (at_lt ho), ho]
      · rw [if_neg hi]
    rw [this]
  · have hzc : (Value.slice none 0 0).cells = #[.slice none 0 0] := rfl
    have hzs : zerosA (.slice none 0 0) (n * 1) = List.replicate n (.slice none 0 0) := by
      unfold zerosA
      rw [hzc, Nat.mul_one]
      apply List.ext_getElem
      · simp
      · intro i h1 h2
        simp [Nat.mod_one]
    refine ⟨ys.take k ++ List.replicate n (.slice none 0 0) ++ ys.drop (k + n), ?_, ?_, ?_⟩
    · simp only [clearA, hu, ho, hz, hc, hzs]
      rw [if_neg hn, if_pos ⟨trivial, by simp [plainCs, hzc, plainC], by simp [hzc], by omega, by omega⟩]
      unfold putAt
      simp only [List.length_replicate]
    · rw [List.append_assoc, List.take_append_of_le_length (by simp; omega), List.take_take, Nat.min_self]
    · simp; omega
theorem InL.tup9 {lo hi : Nat} {e2 e : TypeId} {H : AH} {v : Value} {ls : List (List Int)} (h : InL lo hi e2 e H v ls) : isTup v = false := by
  rcases h with ⟨h, _⟩ | ⟨o, us, h, _⟩ <;> rw [h] <;> rfl
set_option maxRecDepth 20000 in
set_option maxHeartbeats 4000000 in
theorem DelL_c {lo hi : Nat} (v : Value) (ls : List (List Int)) (p : List Int → Bool) (g : FuncId) (caps : List Value) (H : AH) (hv : InL lo hi 25 3 H v ls) (hlen : ls.length ≤ 1099511627776)
    (hp : ∀ (w : Value) (l : List Int) (H1 : AH), Row 3 H1 w l → l ∈ ls → Kept v H H1 → ACalls Try.prog g (w :: caps) H1 fun r H' => r = .bool (p l) ∧ H1 = H') :
    ACalls Try.prog 28 [v, .func (.func g) #[] (List.toArray caps)] H fun r H' => InL lo hi 25 3 H' r (ls.filter fun l => !p l) ∧ Kept v H H' ∧ H.length ≤ H'.length := by
  refine in28 rfl ?_
  intro Q hQ
  simp (maxSteps := 1000000) (disch := omega) only [cd28, S, S1, S2, S3, S4, S5, ST, eq_self, reduceIte, reduceCtorEq, Nat.reduceEqDiff, Nat.reduceAdd]
  obtain ⟨us, r1, r2, r3⟩ := hv.parts
  have hbl : (ls.map p).length = us.length := by rw [List.length_map, r2]
  have bat : ∀ i, i < ls.length → (ls.map p).getD i false = p (ls.getD i []) := fun i hi => by simp [hi]
  have kp0 : ∀ H1 : AH, H <+: H1 → Kept v H H1 := fun H1 hp1 j y _ hy => pre_at hp1 hy
  refine CallH.by (IndexFuncL_c v us (ls.map p) g caps H r1 (by omega) hbl (fun i hi H1 hp1 => ?_)) ?_
  · have hi' : i < ls.length := by omega
    have h := hp (us.getD i undef) (ls.getD i []) H1 ((r3 i hi').row.1.pre hp1) (by simp [hi']) (kp0 H1 hp1)
    rw [← bat i hi'] at h
    exact h.mono fun r H' hh => ⟨hh.1, hh.2 ▸ List.prefix_refl _⟩
  rintro _ H1 ⟨rfl, hp1⟩
  have hv1 := hv.pre hp1
  simp (maxSteps := 1000000) (disch := omega) only [S, S1, S2, S3, S4, S5, ST, eq_self, reduceIte, reduceCtorEq, Nat.reduceEqDiff, Nat.reduceAdd]
  rcases idxB_lt (ls.map p) 0 with ⟨e, hno⟩ | ⟨i0, e1, e2, e3, e4⟩
  · have hall : ls.filter (fun l => !p l) = ls := by
      rw [List.filter_eq_self]
      intro l hl
      obtain ⟨i, hi, rfl⟩ := List.getElem_of_mem hl
      have := hno i
      rw [bat i hi] at this
      have e2 : ls.getD i [] = ls[i] := by simp [hi]
      rw [e2] at this; simp [this]
    rw [hall] at hQ
    simp (maxSteps := 1000000) (disch := omega) only [e, S, S1, S2, S3, S4, S5, ST, eq_self, reduceIte, reduceCtorEq, Nat.reduceEqDiff, Nat.reduceAdd]
    refine hQ _ _ _ ?_
    simp (maxSteps := 1000000) (disch := omega) only [hv.tup9, S, S1, S2, S3, S4, S5, ST, eq_self, reduceIte, reduceCtorEq, Nat.reduceEqDiff, Nat.reduceAdd]
    exact ⟨hv1, kp0 H1 hp1, hp1.length_le⟩
  rw [Nat.zero_add] at e1
  have hi0 : i0 < ls.length := by simpa using e2
  rcases hv1 with ⟨_, hn⟩ | ⟨o, us1, rfl, hU⟩
  · rw [hn] at hi0; simp at hi0
  have hU0 := hU
  obtain ⟨u1, u2, u3, u4, u5, u6⟩ := hU0
  have hne : ¬ ((i0 : Nat) : Int) = -1 := by omega
  simp (maxSteps := 1000000) (disch := omega) only [e1, hne, wrap64, S, S1, S2, S3, S4, S5, ST, eq_self, reduceIte, reduceCtorEq, Nat.reduceEqDiff, Nat.reduceAdd]
  have rowOf : ∀ zs : List Value, ls.length ≤ zs.length → RowV 25 (H1.set o (.cells zs 25 false)) (.slice (some ⟨o, 0, none⟩) ls.length ls.length) (zs.take ls.length) := by
    intro zs hz
    refine .inr ⟨o, 0, zs, false, by simp [Nat.min_eq_left hz], at_set u3, by simp; omega, by simp [Nat.min_eq_left hz]⟩
  have kset : ∀ x : AObj, Kept (.slice (some ⟨o, 0, none⟩) ls.length ls.length) H1 (H1.set o x) := fun x => (Else.set (p := 0) (n := ls.length) (c := ls.length) H1 x).2
  refine LoopH.by (fun m s H' => ∃ (j i : Nat) (zs : List Value), m + j = ls.length ∧ s 0 = .slice (some ⟨o, 0, none⟩) ls.length ls.length ∧ s 1 = .func (.func g) #[] (List.toArray caps) ∧ s 5 = .int .i64 ((i : Nat) : Int) ∧ s 6 = .int .i64 ((j : Nat) : Int) ∧ H' = H1.set o (.cells zs 25 false) ∧ zs.length = us1.length ∧ i < j ∧ (kiB (ls.map p) j).length = i ∧ zs.take i = (kiB (ls.map p) j).map (fun k => us1.getD k undef) ∧ zs.drop j = us1.drop j) (ls.length - i0 - 1) ?_ ?_
  · have hk0 : kiB (ls.map p) (i0 + 1) = List.range i0 := by
      simp only [kiB]
      rw [kiB_none _ i0 e3, e4]
      simp
    have hs : H1 = H1.set o (.cells us1 25 false) := by
      apply List.ext_getElem?
      intro j
      rw [List.getElem?_set]
      by_cases hj : o = j
      · subst hj; rw [if_pos rfl, if_pos (at_lt u3), u3]
      · rw [if_neg hj]
    refine ⟨i0 + 1, i0, us1, by omega, rfl, rfl, by simp [S, S1, S2, S3, S4, S5, ST, eq_self, reduceIte, reduceCtorEq, Nat.reduceEqDiff, Nat.reduceAdd], by simp [S, S1, S2, S3, S4, S5, ST, eq_self, reduceIte, reduceCtorEq, Nat.reduceEqDiff, Nat.reduceAdd], hs, rfl, by omega, by rw [hk0]; simp, ?_, rfl⟩
    rw [hk0]
    apply List.ext_getElem
    · simp; omega
    · intro j h1 h2
      simp at h1 h2
      simp [show j < us1.length by omega]
  rintro m s H' ⟨j, i, zs, hm, h0, h1, h5, h6, rfl, hzl, hij, hkl, hzt, hzd⟩
  have hc' : (H1.set o (.cells zs 25 false))[o]? = some (.cells zs 25 false) := at_set u3
  have hjl : i ≤ us1.length := by have := kiB_len (ls.map p) j; omega
  have hrow := rowOf zs (by omega)
  have htl : (zs.take ls.length).length = ls.length := by simp; omega
  simp (maxSteps := 1000000) (disch := omega) only [h0, h1, h5, h6, S, S1, S2, S3, S4, S5, ST, eq_self, reduceIte, reduceCtorEq, Nat.reduceEqDiff, Nat.reduceAdd]
  refine brD.intro (fun gg => ?_) (fun gg => ?_)
  · have hj : j < ls.length := by omega
    have hy : zs.getD j undef = us1.getD j undef := by
      have := congrArg (·[0]?) hzd
      simp only [List.getElem?_drop, Nat.add_zero] at this
      rw [List.getD_eq_getElem?_getD, List.getD_eq_getElem?_getD, this]
    have hcell : cellA (H1.set o (.cells zs 25 false)) o j = some (us1.getD j undef) := by
      rw [cell_of hc', ← hy]
      simp [show j < zs.length by omega]
    obtain ⟨w1, w2⟩ := u5 j hj
    have hrw := w1.row.1
    have hap : Apart (us1.getD j undef) (.slice (some ⟨o, 0, none⟩) ls.length ls.length) := by
      rcases w2 with q | q
      · exact .inr (.inl q)
      · exact .inr (.inr q)
    have hrw2 := hrw.kept hap (kset (.cells zs 25 false))
    have hkk : Kept (.slice (some ⟨o, 0, none⟩) ls.length ls.length) H (H1.set o (.cells zs 25 false)) := fun q y hq hy => kset _ q y hq (pre_at hp1 hy)
    simp (maxSteps := 1000000) (disch := omega) only [h0, h1, h5, h6, Int.toNat_natCast, Nat.zero_add, hcell, S, S1, S2, S3, S4, S5, ST, eq_self, reduceIte, reduceCtorEq, Nat.reduceEqDiff, Nat.reduceAdd]
    refine CallH.by (hp (us1.getD j undef) (ls.getD j []) _ hrw2 (by simp [hj]) hkk) ?_
    rintro _ _ ⟨rfl, rfl⟩
    have hstep : kiB (ls.map p) (j + 1) = kiB (ls.map p) j ++ (if p (ls.getD j []) = true then [] else [j]) := by simp only [kiB]; rw [bat j hj]
    obtain ⟨pu, hpu⟩ := hrw.shape
    cases q : p (ls.getD j []) with
    | true =>
      simp (maxSteps := 1000000) (disch := omega) only [h0, h1, h5, h6, wrap64, S, S1, S2, S3, S4, S5, ST, eq_self, reduceIte, reduceCtorEq, Nat.reduceEqDiff, Nat.reduceAdd]
      rw [q, if_pos rfl, List.append_nil] at hstep
      have f1 : (kiB (ls.map p) (j + 1)).length = i := by rw [hstep]; exact hkl
      have f2 : zs.take i = (kiB (ls.map p) (j + 1)).map (fun k => us1.getD k undef) := by rw [hstep]; exact hzt
      have f3 : zs.drop (j + 1) = us1.drop (j + 1) := by rw [← List.drop_drop, hzd, List.drop_drop]
      refine ⟨m - 1, by omega, j + 1, i, zs, ?_⟩
      (repeat' apply And.intro) <;> first | rfl | trivial | assumption | omega | (simp only [Value.int.injEq, true_and]; omega) | (simp; done) | (simp; omega) | exact f1 | exact f2 | exact f3
    | false =>
      have hst := st_at (P := Try.prog) (t := 25) (i := i) (y := us1.getD j undef) cs25 hc' (by omega) (by rw [hpu]; rfl) (by rw [hpu]; rfl)
      rw [List.set_set] at hst
      rw [q, if_neg (by decide)] at hstep
      simp (maxSteps := 1000000) (disch := omega) only [h0, h1, h5, h6, Int.toNat_natCast, Nat.zero_add, hcell, hst, wrap64, S, S1, S2, S3, S4, S5, ST, eq_self, reduceIte, reduceCtorEq, Nat.reduceEqDiff, Nat.reduceAdd]
      have f1 : (kiB (ls.map p) (j + 1)).length = i + 1 := by rw [hstep, List.length_append, hkl]; rfl
      have f2 : (zs.set i (us1.getD j undef)).take (i + 1) = (kiB (ls.map p) (j + 1)).map (fun k => us1.getD k undef) := by rw [take_set_V zs i _ (by omega), hstep, hzt, List.map_append]; rfl
      have f3 : (zs.set i (us1.getD j undef)).drop (j + 1) = us1.drop (j + 1) := by rw [List.drop_set_of_lt (by omega), ← List.drop_drop, hzd, List.drop_drop]
      have f4 : (zs.set i (us1.getD j undef)).length = us1.length := by simp [hzl]
      refine ⟨m - 1, by omega, j + 1, i + 1, zs.set i (us1.getD j undef), ?_⟩
      (repeat' apply And.intro) <;> first | rfl | trivial | assumption | omega | (simp only [Value.int.injEq, true_and]; omega) | (simp; done) | (simp; omega) | exact f1 | exact f2 | exact f3 | exact f4
  · have hj : j = ls.length := by omega
    subst hj
    have hs1 := sl_own (P := Try.prog) (t := 27) (k := 0) (n := ls.length) (c := ls.length) Try.underlying27 cs25 hc' (lo := some (.int .i64 ((i : Nat) : Int))) (hi := none) (bound_some (by omega) _) (hi_none _) (by omega) (Nat.le_refl _)
    simp only [Int.toNat_natCast, Nat.zero_add] at hs1
    obtain ⟨zs2, hz1, hz2, hz3⟩ := clear_vals (P := Try.prog) (k := i) (n := ls.length - i) (c := ls.length - i) Try.underlying27 cs25 ze25 hc' (by omega)
    rw [List.set_set] at hz1
    simp (maxSteps := 1000000) (disch := omega) only [h0, h1, h5, h6, hs1, hz1, S, S1, S2, S3, S4, S5, ST, eq_self, reduceIte, reduceCtorEq, Nat.reduceEqDiff, Nat.reduceAdd]
    have hc2 : (H1.set o (.cells zs2 25 false))[o]? = some (.cells zs2 25 false) := at_set u3
    have hs2 := sl_own (P := Try.prog) (t := 27) (k := 0) (n := ls.length) (c := ls.length) Try.underlying27 cs25 hc2 (lo := none) (hi := some (.int .i64 ((i : Nat) : Int))) lo_none (bound_some (by omega) _) (by omega) (by simp; omega)
    simp only [Int.toNat_natCast, Nat.add_zero, Nat.sub_zero] at hs2
    simp (maxSteps := 1000000) (disch := omega) only [h0, h1, h5, h6, hs2, S, S1, S2, S3, S4, S5, ST, eq_self, reduceIte, reduceCtorEq, Nat.reduceEqDiff, Nat.reduceAdd]
    refine hQ _ _ _ ?_
    simp (maxSteps := 1000000) (disch := omega) only [S, S1, S2, S3, S4, S5, ST, eq_self, reduceIte, reduceCtorEq, Nat.reduceEqDiff, Nat.reduceAdd]
    have hfl : ls.filter (fun l => !p l) = (kiB (ls.map p) ls.length).map (fun k => ls.getD k []) := by
      rw [kiB_filter p ls ls.length (Nat.le_refl _), List.take_length]
    have hfn : (ls.filter fun l => !p l).length = i := by rw [hfl, List.length_map, hkl]
    have hget : ∀ t, t < i → zs2.getD t undef = us1.getD ((kiB (ls.map p) ls.length).getD t 0) undef ∧ (ls.filter fun l => !p l).getD t [] = ls.getD ((kiB (ls.map p) ls.length).getD t 0) [] ∧ (kiB (ls.map p) ls.length).getD t 0 < ls.length := by
      intro t ht
      have ht2 : t < (kiB (ls.map p) ls.length).length := by omega
      have hkm : (kiB (ls.map p) ls.length)[t] ∈ kiB (ls.map p) ls.length := List.getElem_mem _
      have e0 : (kiB (ls.map p) ls.length).getD t 0 = (kiB (ls.map p) ls.length)[t] := by simp [ht2]
      refine ⟨?_, ?_, by rw [e0]; exact kiB_lt _ _ _ hkm⟩
      · have h := congrArg (·[t]?) (hz2.trans hzt)
        simp only [List.getElem?_take, if_pos ht, List.getElem?_map] at h
        rw [List.getD_eq_getElem?_getD, h, e0, List.getElem?_eq_getElem ht2]; rfl
      · rw [hfl, List.getD_eq_getElem?_getD, List.getElem?_map, List.getElem?_eq_getElem ht2, e0]; rfl
    have kset2 := kset (.cells zs2 25 false)
    refine ⟨.inr ⟨o, zs2, by rw [hfn], u1, u2, hc2, by omega, fun t ht => ?_, fun a b hab ha hb => ?_⟩, fun q y hq hy => kset2 q y hq (pre_at hp1 hy), by simpa using hp1.length_le⟩
    · rw [hfn] at ht
      obtain ⟨g1, g2, g3⟩ := hget t ht
      rw [g1, g2]
      obtain ⟨w1, w2⟩ := u5 _ g3
      refine ⟨w1.move fun y hn hy => ?_, w2⟩
      rcases w2 with q | q
      · exact absurd q hn
      · rw [List.getElem?_set_ne (fun e => q e.symm)]; exact hy
    · rw [hfn] at ha hb
      obtain ⟨g1, _, g3⟩ := hget a ha
      obtain ⟨k1, _, k3⟩ := hget b hb
      rw [g1, k1]
      refine u6 _ _ ?_ g3 k3
      have hs := kiB_srt (ls.map p) ls.length
      rw [List.pairwise_iff_getElem] at hs
      have ea : (kiB (ls.map p) ls.length).getD a 0 = (kiB (ls.map p) ls.length)[a]'(by omega) := by simp [show a < (kiB (ls.map p) ls.length).length by omega]
      have eb : (kiB (ls.map p) ls.length).getD b 0 = (kiB (ls.map p) ls.length)[b]'(by omega) := by simp [show b < (kiB (ls.map p) ls.length).length by omega]
      rw [ea, eb]
      rcases Nat.lt_trichotomy a b with h | h | h
      · have := hs a b (by omega) (by omega) h; omega
      · exact absurd h hab
      · have := hs b a (by omega) (by omega) h; omega
end Go.Proofs.Ytlcipphiflcaiaa.Ai
namespace Go.Proofs.Ytlcipphiflcaiaa.Ai
open Go
def ords8 : List (Nat × List (Nat × Bool)) := []
def cd8 : Cd := (.seq (.reg [⟨⟨some 2, Op.box 32 (Operand.tmp 0), none⟩, []⟩,
  ⟨⟨some 3, Op.box 25 (Operand.tmp 1), none⟩, []⟩,
  ⟨⟨some 4, Op.alloc 29, none⟩, []⟩,
  ⟨⟨some 5, Op.assign (Operand.const (Value.bool false)), none⟩, []⟩]) (.seq (.seq (.reg [⟨⟨some 10, Op.load 32 (Operand.tmp 2), none⟩, []⟩,
  ⟨⟨some 11, Op.load 25 (Operand.tmp 3), none⟩, []⟩,
  ⟨⟨some 12, Op.call { callee := (Callee.value (Operand.func 23)), args := #[(Operand.tmp 10), (Operand.tmp 11)], argTypes := #[32, 25] }, none⟩, []⟩,
  ⟨⟨some 13, Op.unOp UnOp.not 4 (Operand.tmp 12), none⟩, []⟩]) (.cond (Operand.tmp 13) (.seq (.reg [⟨⟨some 14, Op.build 29 #[], none⟩, []⟩,
  ⟨⟨none, Op.store 29 (Operand.tmp 4) (Operand.tmp 14), none⟩, []⟩,
  ⟨⟨some 5, Op.assign (Operand.const (Value.bool false)), none⟩, []⟩]) .ret) .skip)) (.seq (.reg [⟨⟨some 16, Op.load 32 (Operand.tmp 2), none⟩, []⟩,
  ⟨⟨some 17, Op.call { callee := (Callee.value (Operand.func 24)), args := #[(Operand.tmp 16)], argTypes := #[32] }, none⟩, []⟩,
  ⟨⟨some 15, Op.move (Operand.tmp 17), none⟩, []⟩,
  ⟨⟨some 18, Op.extract (Operand.tmp 15) 0, none⟩, []⟩,
  ⟨⟨some 19, Op.extract (Operand.tmp 15) 1, none⟩, []⟩,
  ⟨⟨some 6, Op.assign (Operand.tmp 18), none⟩, []⟩,
  ⟨⟨some 7, Op.assign (Operand.tmp 19), none⟩, []⟩]) (.seq (.seq (.reg [⟨⟨some 20, Op.move (Operand.tmp 7), none⟩, []⟩,
  ⟨⟨some 21, Op.unOp UnOp.not 4 (Operand.tmp 20), none⟩, []⟩]) (.cond (Operand.tmp 21) (.seq (.reg [⟨⟨some 22, Op.build 29 #[], none⟩, []⟩,
  ⟨⟨none, Op.store 29 (Operand.tmp 4) (Operand.tmp 22), none⟩, []⟩,
  ⟨⟨some 5, Op.assign (Operand.const (Value.bool false)), none⟩, []⟩]) .ret) .skip)) (.seq (.reg [⟨⟨some 24, Op.load 32 (Operand.tmp 2), none⟩, []⟩,
  ⟨⟨some 25, Op.load 25 (Operand.tmp 3), none⟩, []⟩,
  ⟨⟨some 26, Op.call { callee := (Callee.value (Operand.func 25)), args := #[(Operand.tmp 24), (Operand.tmp 25), (Operand.const (Value.slice none 0 0))], argTypes := #[32, 25, 25] }, none⟩, []⟩,
  ⟨⟨some 23, Op.move (Operand.tmp 26), none⟩, []⟩,
  ⟨⟨some 27, Op.extract (Operand.tmp 23) 0, none⟩, []⟩,
  ⟨⟨some 28, Op.extract (Operand.tmp 23) 1, none⟩, []⟩,
  ⟨⟨some 8, Op.alloc 3, none⟩, []⟩,
  ⟨⟨none, Op.store 3 (Operand.tmp 8) (Operand.tmp 27), none⟩, []⟩,
  ⟨⟨some 9, Op.assign (Operand.tmp 28), none⟩, []⟩]) (.seq (.reg [⟨⟨some 29, Op.move (Operand.tmp 6), none⟩, []⟩,
  ⟨⟨some 30, Op.makeFunc (Fn.func 29) #[] #[(Operand.tmp 3), (Operand.tmp 8)], none⟩, []⟩,
  ⟨⟨some 31, Op.call { callee := (Callee.value (Operand.func 28)), args := #[(Operand.tmp 29), (Operand.tmp 30)], argTypes := #[27, 56] }, none⟩, []⟩,
  ⟨⟨some 32, Op.call { callee := (Callee.value (Operand.func 27)), args := #[(Operand.tmp 31), (Operand.func 30)], argTypes := #[27, 37] }, none⟩, []⟩,
  ⟨⟨some 33, Op.call { callee := (Callee.value (Operand.func 26)), args := #[(Operand.tmp 32)], argTypes := #[29] }, none⟩, []⟩,
  ⟨⟨some 34, Op.extract (Operand.tmp 33) 0, none⟩, []⟩,
  ⟨⟨some 35, Op.extract (Operand.tmp 33) 1, none⟩, []⟩,
  ⟨⟨none, Op.store 29 (Operand.tmp 4) (Operand.tmp 34), none⟩, []⟩,
  ⟨⟨some 5, Op.assign (Operand.tmp 35), none⟩, []⟩]) .ret))))))
theorem sl8 : slim Try.f8.ntmps ords8 (Try.f8.body.getD .skip) = some cd8 := by kernel_rfl
set_option maxRecDepth 20000 in
theorem in8 {args : List Value} {H : AH} {R : Value → AH → Prop} (hl : args.length = 2) (h : ∀ (Q : Exit → Sl → AH → Prop), (∀ e s H, endA Try.prog [ResultVar.cell 4 29, ResultVar.tmp 5] R e s H → Q e s H) → wpC Try.prog cd8 Q (enterA args) H) : ACalls Try.prog 8 args H R :=
  ACalls.intro (by kernel_rfl) Try.func8 rfl (by kernel_rfl) sl8 hl (of_decide_eq_true (by kernel_rfl)) (by kernel_rfl) h
end Go.Proofs.Ytlcipphiflcaiaa.Ai
namespace Go.Proofs.Ytlcipphiflcaiaa.Ai
open Go Go.RowKit
set_option linter.unusedVariables false
set_option linter.unusedSimpArgs false
theorem Row.boxI9 {e : TypeId} {G : AH} {v : Value} {xs : List Int} (h : Row e G v xs) (H : AH) : boxA Try.prog 25 v H = some (.pointer (some ⟨H.length, 0, none⟩), H ++ [.cells [v] 25 false]) := by
  obtain ⟨q, rfl⟩ := h.shape
  kernel_rfl
theorem alloc_int9 (H : AH) : allocA Try.prog 3 H = some (.pointer (some ⟨H.length, 0, none⟩), H ++ [.cells [.int .i64 0] 3 false]) := by kernel_rfl
theorem store_int9 (H : AH) (x y : Int) : storeA Try.prog 3 (.pointer (some ⟨H.length, 0, none⟩)) (.int .i64 y) (H ++ [.cells [.int .i64 x] 3 false]) = some (H ++ [.cells [.int .i64 y] 3 false]) := by
  rw [st_at (P := Try.prog) (t := 3) (i := 0) (y := .int .i64 y) cs3 (at_new ..) (by show 0 < 1; decide) (by kernel_rfl) rfl]
  simp
set_option maxRecDepth 20000 in
set_option maxHeartbeats 8000000 in
theorem LigI_c (n : Int) (v w : Value) (es : List (Int × Int)) (ws : List Int) (H : AH) (hr : RowP 65 H v es) (hlen : es.length ≤ 1099511627776) (hes : ∀ y ∈ es, I64 y.1 ∧ I64 y.2) (hw : Row 3 H w ws) (hlw : ws.length ≤ 1099511627776) (hwi : ∀ y ∈ ws, I64 y) (hn : I64 n) :
    ACalls Try.prog 8 [.agg (List.toArray [.int .i64 n, v]), w] H fun r H' => ∃ a b, r = .tuple (List.toArray [.agg (List.toArray [a, b]), .bool (lgB n es ws)]) ∧ SpIn H.length H'.length H' a b (lgL n es ws) (lgS n es ws) ∧ H <+: H' := by
  refine in8 rfl ?_
  intro Q hQ
  simp (maxSteps := 1000000) (disch := omega) only [cd8, hr.boxG, S, S1, S2, S3, S4, S5, ST, eq_self, reduceIte, reduceCtorEq, Nat.reduceEqDiff, Nat.reduceAdd]
  generalize hA0 : H ++ [AObj.cells [.int .i64 n, v] 32 false] = A0
  have pA0 : H <+: A0 := by rw [← hA0]; exact List.prefix_append _ _
  have cA0 : A0[H.length]? = some (.cells [.int .i64 n, v] 32 false) := by rw [← hA0]; exact at_new ..
  have rA0 := hr.pre pA0
  simp (maxSteps := 1000000) (disch := omega) only [hw.boxI9, S, S1, S2, S3, S4, S5, ST, eq_self, reduceIte, reduceCtorEq, Nat.reduceEqDiff, Nat.reduceAdd]
  generalize hA1 : A0 ++ [AObj.cells [w] 25 false] = A1
  have pA1 : A0 <+: A1 := by rw [← hA1]; exact List.prefix_append _ _
  have cW : A1[A0.length]? = some (.cells [w] 25 false) := by rw [← hA1]; exact at_new ..
  have lA1 : A1.length = A0.length + 1 := by rw [← hA1]; simp
  simp (maxSteps := 1000000) (disch := omega) only [alloc_sp, S, S1, S2, S3, S4, S5, ST, eq_self, reduceIte, reduceCtorEq, Nat.reduceEqDiff, Nat.reduceAdd]
  generalize hA : A1 ++ [AObj.cells [.slice none 0 0, .slice none 0 0] 29 false] = A
  have pA2 : A1 <+: A := by rw [← hA]; exact List.prefix_append _ _
  have lA0 : A0.length = H.length + 1 := by rw [← hA0]; simp
  have cS : A[A1.length]? = some (.cells [.slice none 0 0, .slice none 0 0] 29 false) := by rw [← hA]; exact at_new ..
  have lA : A.length = A1.length + 1 := by rw [← hA]; simp
  have pA := pA0.trans (pA1.trans pA2)
  have cA := pre_at (pA1.trans pA2) cA0
  have rA := rA0.pre (pA1.trans pA2)
  have wA := hw.pre pA
  have cWA := pre_at pA2 cW
  simp (maxSteps := 1000000) (disch := omega) only [ld_agg ag32 cs32 cA, cell_of cWA, S, S1, S2, S3, S4, S5, ST, eq_self, reduceIte, reduceCtorEq, Nat.reduceEqDiff, Nat.reduceAdd]
  refine CallH.by (isWeighted_c n v w es ws A rA hlen wA hlw) ?_
  rintro _ B ⟨rfl, pB⟩
  have cB := pre_at pB cA
  have cWB := pre_at pB cWA
  have lB := pB.length_le
  have no : ∀ {G : AH}, A <+: G → lgL n es ws = [] → lgB n es ws = false → ∀ sl : Sl, sl 4 = .pointer (some ⟨A1.length, 0, none⟩) → sl 5 = .bool false → endA Try.prog [.cell 4 29, .tmp 5] (fun r H' => ∃ a b, r = .tuple (List.toArray [.agg (List.toArray [a, b]), .bool (lgB n es ws)]) ∧ SpIn H.length H'.length H' a b (lgL n es ws) (lgS n es ws) ∧ H <+: H') .ret sl (G.set A1.length (.cells [.slice none 0 0, .slice none 0 0] 29 false)) := by
    intro G pG h hb sl s2 s3
    have cSG := pre_at pG cS
    have lG := pG.length_le
    have d4 := at_set (d := .cells [.slice none 0 0, .slice none 0 0] 29 false) cSG
    have hS : lgS n es ws = [] := by unfold lgS; rw [h]; rfl
    refine end_cell2 _ _ _ _ _ _ _ (.agg (List.toArray [.slice none 0 0, .slice none 0 0])) (.bool false) ?_ rfl s3 rfl ⟨_, _, by rw [hb], ⟨H.length, Nat.le_refl _, by simp; omega, ?_, ?_⟩, ?_⟩
    · simp (maxSteps := 1000000) (disch := omega) only [s2, ld_agg ag29 cs29 d4, S, S1, S2, S3, S4, S5, ST, eq_self, reduceIte, reduceCtorEq, Nat.reduceEqDiff, Nat.reduceAdd]
    · rw [h]; exact .inl ⟨rfl, rfl⟩
    · rw [hS]; exact .inl ⟨rfl, rfl⟩
    · exact pre_set (pA.trans pG) (by omega) _
  by_cases e : WtOk n es ws
  rotate_left
  · have hstore0 := st_ss (pre_at pB cS) rfl none none 0 0 0 0
    simp (maxSteps := 1000000) (disch := omega) only [decide_eq_false e, bld_sp0, hstore0, S, S1, S2, S3, S4, S5, ST, eq_self, reduceIte, reduceCtorEq, Nat.reduceEqDiff, Nat.reduceAdd]
    refine hQ _ _ _ (no pB (by unfold lgL; rw [if_neg e]) (by unfold lgB; rw [decide_eq_false e]; rfl) _ ?_ ?_) <;> simp (maxSteps := 1000000) (disch := omega) only [S, S1, S2, S3, S4, S5, ST, eq_self, reduceIte, reduceCtorEq, Nat.reduceEqDiff, Nat.reduceAdd]
  have hg := e.2.1.1
  have h8 := hg.1
  obtain ⟨N, rfl⟩ : ∃ N : Nat, n = N := ⟨n.toNat, by omega⟩
  have hN : 1 ≤ N := by have := e.2.1.2; omega
  simp (maxSteps := 1000000) (disch := omega) only [decide_eq_true e, ld_agg ag32 cs32 cB, S, S1, S2, S3, S4, S5, ST, eq_self, reduceIte, reduceCtorEq, Nat.reduceEqDiff, Nat.reduceAdd]
  refine CallH.by (trees_c N hN v es B (rA.pre pB) hg) ?_
  rintro _ C ⟨a, rfl, hL, pC⟩
  have hiff : (decide ((treA N es).length ≤ 300) && decide (0 < (treA N es).length)) = decide (TsOk (N : Int) es) := by
    rw [Bool.eq_iff_iff, Bool.and_eq_true, decide_eq_true_eq, decide_eq_true_eq, decide_eq_true_eq]
    unfold TsOk
    rw [Int.toNat_natCast]
    exact ⟨fun h => ⟨e.2.1, h.2, h.1⟩, fun h => ⟨h.2.2, h.2.1⟩⟩
  rw [hiff]
  have htp := hL.tup9
  have pBC := pB.trans pC
  have cSC := pre_at pBC cS
  have cC := pre_at pBC cA
  have cWC := pre_at pBC cWA
  have lC := pC.length_le
  by_cases ok : TsOk (N : Int) es
  rotate_left
  · have hstore0 := st_ss cSC rfl none none 0 0 0 0
    simp (maxSteps := 1000000) (disch := omega) only [htp, decide_eq_false ok, bld_sp0, hstore0, S, S1, S2, S3, S4, S5, ST, eq_self, reduceIte, reduceCtorEq, Nat.reduceEqDiff, Nat.reduceAdd]
    have z : tsL (N : Int) es = [] := if_neg ok
    refine hQ _ _ _ (no pBC (by unfold lgL; rw [z]; split <;> rfl) (by unfold lgB; rw [decide_eq_false ok, Bool.and_false]) _ ?_ ?_) <;> simp (maxSteps := 1000000) (disch := omega) only [htp, S, S1, S2, S3, S4, S5, ST, eq_self, reduceIte, reduceCtorEq, Nat.reduceEqDiff, Nat.reduceAdd]
  clear no
  have hl := ok.2.2
  rw [Int.toNat_natCast] at hl
  have e301 : (treA N es).take 301 = treA N es := List.take_of_length_le (by omega)
  have hts : treA N es = tsL (N : Int) es := by unfold tsL; rw [if_pos ok, Int.toNat_natCast]
  rw [e301, hts] at hL
  simp (maxSteps := 1000000) (disch := omega) only [htp, decide_eq_true ok, ld_agg ag32 cs32 cC, cell_of cWC, S, S1, S2, S3, S4, S5, ST, eq_self, reduceIte, reduceCtorEq, Nat.reduceEqDiff, Nat.reduceAdd]
  refine CallH.by (lightest_c N hN v w es ws C (rA.pre pBC) hg (wA.pre pBC) e.2.2 e.1) ?_
  rintro _ D ⟨bb, rfl, pD⟩
  simp (maxSteps := 1000000) (disch := omega) only [alloc_int9, store_int9, S, S1, S2, S3, S4, S5, ST, eq_self, reduceIte, reduceCtorEq, Nat.reduceEqDiff, Nat.reduceAdd]
  generalize hE : D ++ [AObj.cells [.int .i64 (swL ws (krW N es ws 100))] 3 false] = E
  have pE : D <+: E := by rw [← hE]; exact List.prefix_append _ _
  have cL : E[D.length]? = some (.cells [.int .i64 (swL ws (krW N es ws 100))] 3 false) := by rw [← hE]; exact at_new ..
  have pCE := pD.trans pE
  have lD := pD.length_le
  have lE := pE.length_le
  have hLE := hL.pre pCE
  have hra : a = .slice none 0 0 ∨ (B.length ≤ rowO a ∧ rowO a < C.length) := by
    rcases hL with ⟨q, _⟩ | ⟨o, us, q1, q2⟩
    · exact .inl q
    · right; rw [q1]; exact ⟨q2.1, q2.2.1⟩
  simp (maxSteps := 1000000) (disch := omega) only [mkf_2T, htp, S, S1, S2, S3, S4, S5, ST, eq_self, reduceIte, reduceCtorEq, Nat.reduceEqDiff, Nat.reduceAdd]
  refine CallH.by (DelL_c a (tsL (N : Int) es) (fun T => decide (swL ws (krW N es ws 100) < swL ws T)) 29 [.pointer (some ⟨A0.length, 0, none⟩), .pointer (some ⟨D.length, 0, none⟩)] E hLE (by have := tsL_len (N : Int) es; omega) (fun w' l H1 hrow hl hk => ?_)) ?_
  · have hin := tsL_in l hl
    have h28 := grd_len hg
    have hrng : ∀ x ∈ l, 0 ≤ x ∧ x < ws.length := by
      intro x hx
      rw [← hts] at hl
      have := ((treA_iff hN hg l).1 hl).2.2.1 x hx
      have := e.2.2
      omega
    have hap : Apart w a := by
      rcases hra with q | ⟨q, _⟩
      · exact .inl q
      · exact Apart.new hw (by omega)
    exact heavy_c w w' A0.length D.length ws l _ H1 ((wA.pre (pBC.trans pCE)).kept hap hk) hrow (hk _ _ (hra.imp id fun q => by omega) (pre_at pCE cWC)) (hk _ _ (hra.imp id fun q => by omega) cL) e.1 hrng (by omega) (by have := e.2.2; omega)
  rintro r Z ⟨hL2, hkZ, lZ⟩
  have hfil : (tsL (N : Int) es).filter (fun l => !(fun T : List Int => decide (swL ws (krW N es ws 100) < swL ws T)) l) = lgL (N : Int) es ws := by
    unfold lgL
    rw [if_pos e]
    exact List.filter_congr fun T hT => lg_light e hT
  rw [hfil] at hL2
  have pAZ : A <+: Z := prefix_of fun j y hy => hkZ j y (hra.imp id fun q => by have := at_lt hy; omega) (pre_at (pBC.trans pCE) hy)
  have hB : lgB (N : Int) es ws = true := by unfold lgB; rw [decide_eq_true e, decide_eq_true ok]; rfl
  have hS : lgS (N : Int) es ws = steps jmpB (lgL (N : Int) es ws) := rfl
  have hin : ∀ x ∈ lgL (N : Int) es ws, x.length ≤ 28 ∧ (∀ y ∈ x, 0 ≤ y ∧ y < 28) ∧ x.Pairwise (· < ·) := fun x hx => tsL_in x (lgL_sub x hx)
  have hsrt := lgL_srt (N : Int) es ws
  have h300 := lgL_len (N : Int) es ws
  have hjmp := lgS_len (N : Int) es ws
  rw [hB, hS] at hQ
  rw [hS] at hjmp
  have cSZ := pre_at pAZ cS
  have lAZ := pAZ.length_le
  have lA9 := pA.length_le
  generalize lgL (N : Int) es ws = ls at *
  obtain ⟨us, r1, r2, r3⟩ := hL2.parts
  have htp2 := hL2.tup9
  have hsts : Sts Z r us ls := ⟨r1, r2, fun i hi => (r3 i hi).row.1, fun i hi => by
    have : ls.getD i [] ∈ ls := by simp [hi]
    have := (hin _ this).1; omega, by omega, hsrt⟩
  have hSt : StepFn Z 30 [] ls jmpB := fun va vb x y H2 hp2 hv hw hx hy => (isJumpG_c va vb x y H2 hv hw (hin x hx).1 (hin y hy).1 (hin x hx).2.1 (hin y hy).2.1 (hin x hx).2.2 (hin y hy).2.2).mono fun r H' hh => ⟨hh.1, hh.2 ▸ List.prefix_refl _⟩
  simp (maxSteps := 1000000) (disch := omega) only [htp2, S, S1, S2, S3, S4, S5, ST, eq_self, reduceIte, reduceCtorEq, Nat.reduceEqDiff, Nat.reduceAdd]
  refine CallH.by (spaceOf_c hsts (by omega) 30 [] jmpB hSt (List.prefix_refl _)) ?_
  rintro _ D2 ⟨st, rfl, hst, pD2⟩
  have hrowD : SpRow D2 r st ls (steps jmpB ls) := ⟨⟨_, (hL2.row).pre pD2⟩, hst.row⟩
  simp (maxSteps := 1000000) (disch := omega) only [S, S1, S2, S3, S4, S5, ST, eq_self, reduceIte, reduceCtorEq, Nat.reduceEqDiff, Nat.reduceAdd]
  refine CallH.by (orNone_c r st _ _ D2 hrowD (by omega) hjmp) ?_
  rintro _ E2 ⟨rfl, pE2⟩
  have hrowE := hrowD.pre pE2
  have cSE := pre_at (pD2.trans pE2) cSZ
  have hstore := hrowE.store cSE rfl
  simp (maxSteps := 1000000) (disch := omega) only [hstore, S, S1, S2, S3, S4, S5, ST, eq_self, reduceIte, reduceCtorEq, Nat.reduceEqDiff, Nat.reduceAdd]
  have d4 := at_set (d := .cells [r, st] 29 false) cSE
  have lD2 := pD2.length_le
  have lE2 := pE2.length_le
  refine hQ _ _ _ (end_cell2 _ _ _ _ _ _ _ (.agg (List.toArray [r, st])) (.bool true) ?_ rfl ?_ rfl ⟨r, st, rfl, ⟨Z.length, by omega, by simp; omega, ?_, ?_⟩, ?_⟩)
  · simp (maxSteps := 1000000) (disch := omega) only [ld_agg ag29 cs29 d4, S, S1, S2, S3, S4, S5, ST, eq_self, reduceIte, reduceCtorEq, Nat.reduceEqDiff, Nat.reduceAdd]
  · simp (maxSteps := 1000000) (disch := omega) only [S, S1, S2, S3, S4, S5, ST, eq_self, reduceIte, reduceCtorEq, Nat.reduceEqDiff, Nat.reduceAdd]
  · rcases hL2.pre (pD2.trans pE2) with q | ⟨o, us', q1, q2⟩
    · exact .inl q
    · refine .inr ⟨o, us', q1, (q2.move fun j y hj1 hj2 hy => ?_).wide (by omega) (by omega)⟩
      rw [List.getElem?_set_ne (by omega)]; exact hy
  · have hI := InP.of (hst.pre pE2)
    rcases hI with q | ⟨o, zs, q1, q2, q3, q4, q5⟩
    · exact .inl q
    · exact .inr ⟨o, zs, q1, q2, by simpa using q3, by rw [List.getElem?_set_ne (by omega)]; exact q4, q5⟩
  · exact pre_set (pA.trans (pAZ.trans (pD2.trans pE2))) (by omega) _
end Go.Proofs.Ytlcipphiflcaiaa.Ai
namespace Go.Proofs.Ytlcipphiflcaiaa.Ai
open Go Go.RowKit
set_option linter.unusedVariables false
set_option linter.unusedSimpArgs false
theorem bsRowS {H0 : AH} {v : Value} {xs : List Int} (h : Row 3 H0 v xs) (K : AH) : buildSliceA Try.prog 27 1 [(0, v)] K = some (.slice (some ⟨K.length, 0, none⟩) 1 1, K ++ [.cells [v] 25 false]) := by
  obtain ⟨q, eq⟩ := h.shape
  rw [eq]
  exact bs1 Try.underlying27 cs25 ze25 ⟨by kernel_rfl, by kernel_rfl⟩ K rfl
theorem InU.app1w {P : Program} {t2 e2 e : TypeId} (hu : P.underlying t2 = some (.slice e2)) (hc : P.cellsOf e2 = 1) (hby : P.bytesOf e2 ≤ 64) (hz : zeroOk P e2 = true) {lo hi hi2 : Nat} {H : AH} {o : Nat} {us : List Value} {w : Value} {ls : List (List Int)} {l : List Int}
    (h : InU lo hi e2 e H o us ls) (hw : InI lo hi2 e H w l) (hwo : w = .slice none 0 0 ∨ rowO w ≠ o) (aw : ∀ i, i < ls.length → Apart (us.getD i undef) w) (hl2 : hi ≤ H.length) (hl3 : hi2 ≤ H.length) (hb : ls.length ≤ 1099511627775) :
    ∃ H', appendA P t2 t2 (.slice (some ⟨o, 0, none⟩) ls.length ls.length) (.slice (some ⟨H.length, 0, none⟩) 1 1) (H ++ [.cells [w] e2 false]) = some (.slice (some ⟨H.length + 1, 0, none⟩) (ls.length + 1) (ls.length + 1), H') ∧
      InU lo (H.length + 2) e2 e H' (H.length + 1) (us.take ls.length ++ [w]) (ls ++ [l]) ∧ H'.length = H.length + 2 ∧ (∀ (j : Nat) (y : AObj), j ≠ o → H[j]? = some y → H'[j]? = some y) := by
  have bb : ∀ n : Nat, n ≤ 1099511627776 → n * P.bytesOf e2 ≤ 140737488355328 := fun n hn => by
    refine Nat.le_trans (Nat.mul_le_mul_left _ hby) ?_
    omega
  have hsc : sliceCells P e2 (.slice (some ⟨H.length, 0, none⟩) 1 1) (H ++ [.cells [w] e2 false]) = some (1, [w]) := by
    simp only [sliceCells, at_new, hc]; simp
  obtain ⟨h2, h3, h4, h5, h6, h7⟩ := h
  have ho := at_lt h4
  have hlt : o < (H ++ [AObj.cells [w] e2 false]).length := by simp; omega
  have keep : ∀ (j : Nat) (y : AObj), j ≠ o → H[j]? = some y → ((H ++ [AObj.cells [w] e2 false]).set o AObj.dead ++ [AObj.cells (us.take ls.length ++ [w]) e2 false])[j]? = some y := by
    intro j y hj hy
    exact at_old (at_app hy _) (fun e => hj e.symm) _
  refine ⟨(H ++ [AObj.cells [w] e2 false]).set o AObj.dead ++ [AObj.cells (us.take ls.length ++ [w]) e2 false], ?_, ?_, by simp, keep⟩
  · have ho2 : (H ++ [AObj.cells [w] e2 false])[o]? = some (.cells us e2 false) := at_app h4 _
    simp only [appendA, hu, hc, hsc, hz, ho2]
    rw [if_pos (by simp), if_neg (by simp), if_pos ⟨trivial, by omega, bb _ (by omega), by omega, trivial⟩]
    simp
  · have hul : (us.take ls.length).length = ls.length := by simp; omega
    have uat : ∀ i, i < ls.length → (us.take ls.length ++ [w]).getD i undef = us.getD i undef := by
      intro i hi'
      rw [List.getD_eq_getElem?_getD, List.getD_eq_getElem?_getD, List.getElem?_append_left (by omega), List.getElem?_take, if_pos hi']
    have ulast : (us.take ls.length ++ [w]).getD ls.length undef = w := by
      rw [List.getD_eq_getElem?_getD, List.getElem?_append_right (by omega), hul]; simp
    have lat : ∀ i, i < ls.length → (ls ++ [l]).getD i [] = ls.getD i [] := by
      intro i hi'
      rw [List.getD_eq_getElem?_getD, List.getD_eq_getElem?_getD, List.getElem?_append_left hi']
    have llast : (ls ++ [l]).getD ls.length [] = l := by
      rw [List.getD_eq_getElem?_getD, List.getElem?_append_right (by omega)]; simp
    refine ⟨by omega, by omega, ?_, by simp; omega, ?_, ?_⟩
    · rw [List.getElem?_append_right (by simp)]; simp
    · intro i hi'
      simp only [List.length_append, List.length_cons, List.length_nil] at hi'
      by_cases hc' : i < ls.length
      · rw [uat i hc', lat i hc']
        obtain ⟨k1, k2⟩ := h6 i hc'
        refine ⟨(k1.move fun y hn hy => ?_).wide (Nat.le_refl _) (by omega), ?_⟩
        · rcases k2 with g | g
          · exact absurd g hn
          · exact keep _ _ g hy
        · rcases k1.at_ with g | g
          · exact .inl g
          · exact .inr (by omega)
      · obtain rfl : i = ls.length := by omega
        rw [ulast, llast]
        refine ⟨(hw.move fun y hn hy => ?_).wide (Nat.le_refl _) (by omega), ?_⟩
        · rcases hwo with g | g
          · exact absurd g hn
          · exact keep _ _ g hy
        · rcases hw.at_ with g | g
          · exact .inl g
          · exact .inr (by omega)
    · intro i j hij hi' hj'
      simp only [List.length_append, List.length_cons, List.length_nil] at hi' hj'
      by_cases ci : i < ls.length <;> by_cases cj : j < ls.length
      · rw [uat i ci, uat j cj]; exact h7 i j hij ci cj
      · obtain rfl : j = ls.length := by omega
        rw [uat i ci, ulast]; exact aw i ci
      · obtain rfl : i = ls.length := by omega
        rw [uat j cj, ulast]
        rcases aw j cj with g | g | g
        · exact .inr (.inl g)
        · exact .inl g
        · exact .inr (.inr fun e => g e.symm)
      · omega
end Go.Proofs.Ytlcipphiflcaiaa.Ai
namespace Go.Proofs.Ytlcipphiflcaiaa.Ai
open Go
def ords5 : List (Nat × List (Nat × Bool)) := []
def cd5 : Cd := (.seq (.reg [⟨⟨some 2, Op.box 32 (Operand.tmp 0), none⟩, []⟩,
  ⟨⟨some 4, Op.alloc 29, none⟩, []⟩,
  ⟨⟨some 5, Op.assign (Operand.const (Value.bool false)), none⟩, []⟩]) (.seq (.seq (.reg [⟨⟨some 10, Op.load 32 (Operand.tmp 2), none⟩, []⟩,
  ⟨⟨some 11, Op.move (Operand.tmp 1), none⟩, []⟩,
  ⟨⟨some 12, Op.call { callee := (Callee.value (Operand.func 17)), args := #[(Operand.tmp 10), (Operand.tmp 11)], argTypes := #[32, 25] }, none⟩, []⟩,
  ⟨⟨some 13, Op.unOp UnOp.not 4 (Operand.tmp 12), none⟩, []⟩]) (.cond (Operand.tmp 13) (.seq (.reg [⟨⟨some 14, Op.build 29 #[], none⟩, []⟩,
  ⟨⟨none, Op.store 29 (Operand.tmp 4) (Operand.tmp 14), none⟩, []⟩,
  ⟨⟨some 5, Op.assign (Operand.const (Value.bool false)), none⟩, []⟩]) .ret) .skip)) (.seq (.reg [⟨⟨some 15, Op.load 32 (Operand.tmp 2), none⟩, []⟩,
  ⟨⟨some 16, Op.call { callee := (Callee.value (Operand.func 18)), args := #[(Operand.tmp 15)], argTypes := #[32] }, none⟩, []⟩,
  ⟨⟨some 6, Op.assign (Operand.tmp 16), none⟩, []⟩]) (.seq (.seq (.reg [⟨⟨some 17, Op.move (Operand.tmp 6), none⟩, []⟩,
  ⟨⟨some 18, Op.call { callee := (Callee.builtin Builtin.len), args := #[(Operand.tmp 17)], argTypes := #[27] }, none⟩, []⟩,
  ⟨⟨some 19, Op.binOp BinOp.eql 3 (Operand.tmp 18) (Operand.const (Value.int IntKind.i64 0)) 3, none⟩, []⟩]) (.cond (Operand.tmp 19) (.seq (.reg [⟨⟨some 20, Op.build 29 #[], none⟩, []⟩,
  ⟨⟨none, Op.store 29 (Operand.tmp 4) (Operand.tmp 20), none⟩, []⟩,
  ⟨⟨some 5, Op.assign (Operand.const (Value.bool false)), none⟩, []⟩]) .ret) .skip)) (.seq (.reg [⟨⟨some 21, Op.move (Operand.tmp 1), none⟩, []⟩,
  ⟨⟨some 22, Op.load 32 (Operand.tmp 2), none⟩, []⟩,
  ⟨⟨some 23, Op.move (Operand.tmp 1), none⟩, []⟩,
  ⟨⟨some 24, Op.call { callee := (Callee.value (Operand.func 20)), args := #[(Operand.tmp 22), (Operand.tmp 23)], argTypes := #[32, 25] }, none⟩, []⟩,
  ⟨⟨some 25, Op.call { callee := (Callee.value (Operand.func 19)), args := #[(Operand.tmp 21), (Operand.tmp 24)], argTypes := #[25, 25] }, none⟩, []⟩,
  ⟨⟨some 7, Op.assign (Operand.tmp 25), none⟩, []⟩]) (.seq (.reg [⟨⟨some 26, Op.buildSlice 27 0 #[], none⟩, []⟩,
  ⟨⟨some 8, Op.assign (Operand.tmp 26), none⟩, []⟩]) (.seq (.seq (.reg [⟨⟨some 9, Op.assign (Operand.const (Value.int IntKind.i64 0)), none⟩, []⟩]) (.block 0 (.loop (.seq (.seq (.reg [⟨⟨some 27, Op.move (Operand.tmp 9), none⟩, []⟩,
  ⟨⟨some 28, Op.move (Operand.tmp 6), none⟩, []⟩,
  ⟨⟨some 29, Op.call { callee := (Callee.builtin Builtin.len), args := #[(Operand.tmp 28)], argTypes := #[27] }, none⟩, []⟩,
  ⟨⟨some 30, Op.binOp BinOp.lss 3 (Operand.tmp 27) (Operand.tmp 29) 3, none⟩, []⟩]) (.cond (Operand.tmp 30) .skip (.exit 0))) (.seq (.block 1 (.seq (.reg [⟨⟨some 33, Op.move (Operand.tmp 1), none⟩, []⟩,
  ⟨⟨some 34, Op.move (Operand.tmp 6), none⟩, []⟩,
  ⟨⟨some 35, Op.move (Operand.tmp 9), none⟩, []⟩,
  ⟨⟨some 36, Op.indexAddr 27 (Operand.tmp 34) (Operand.tmp 35), none⟩, []⟩,
  ⟨⟨some 37, Op.load 25 (Operand.tmp 36), none⟩, []⟩,
  ⟨⟨some 38, Op.call { callee := (Callee.value (Operand.func 19)), args := #[(Operand.tmp 33), (Operand.tmp 37)], argTypes := #[25, 25] }, none⟩, []⟩,
  ⟨⟨some 39, Op.move (Operand.tmp 7), none⟩, []⟩,
  ⟨⟨some 40, Op.binOp BinOp.eql 3 (Operand.tmp 38) (Operand.tmp 39) 3, none⟩, []⟩]) (.cond (Operand.tmp 40) (.reg [⟨⟨some 41, Op.move (Operand.tmp 8), none⟩, []⟩,
  ⟨⟨some 42, Op.move (Operand.tmp 6), none⟩, []⟩,
  ⟨⟨some 43, Op.move (Operand.tmp 9), none⟩, []⟩,
  ⟨⟨some 44, Op.indexAddr 27 (Operand.tmp 42) (Operand.tmp 43), none⟩, []⟩,
  ⟨⟨some 45, Op.load 25 (Operand.tmp 44), none⟩, []⟩,
  ⟨⟨some 46, Op.buildSlice 27 1 #[(0, (Operand.tmp 45))], none⟩, []⟩,
  ⟨⟨some 47, Op.call { callee := (Callee.builtin Builtin.append), args := #[(Operand.tmp 41), (Operand.tmp 46)], argTypes := #[27, 27] }, none⟩, []⟩,
  ⟨⟨some 8, Op.assign (Operand.tmp 47), none⟩, []⟩]) .skip))) (.reg [⟨⟨some 31, Op.move (Operand.tmp 9), none⟩, []⟩,
  ⟨⟨some 32, Op.binOp BinOp.add 3 (Operand.tmp 31) (Operand.const (Value.int IntKind.i64 1)) 3, none⟩, []⟩,
  ⟨⟨some 9, Op.assign (Operand.tmp 32), none⟩, []⟩])))))) (.seq (.reg [⟨⟨some 48, Op.load 32 (Operand.tmp 2), none⟩, []⟩,
  ⟨⟨some 49, Op.move (Operand.tmp 8), none⟩, []⟩,
  ⟨⟨some 50, Op.call { callee := (Callee.value (Operand.func 21)), args := #[(Operand.tmp 48), (Operand.tmp 49)], argTypes := #[32, 27] }, none⟩, []⟩,
  ⟨⟨none, Op.store 29 (Operand.tmp 4) (Operand.tmp 50), none⟩, []⟩,
  ⟨⟨some 5, Op.assign (Operand.const (Value.bool true)), none⟩, []⟩]) .ret))))))))
theorem sl5 : slim Try.f5.ntmps ords5 (Try.f5.body.getD .skip) = some cd5 := by kernel_rfl
set_option maxRecDepth 20000 in
theorem in5 {args : List Value} {H : AH} {R : Value → AH → Prop} (hl : args.length = 2) (h : ∀ (Q : Exit → Sl → AH → Prop), (∀ e s H, endA Try.prog [ResultVar.cell 4 29, ResultVar.tmp 5] R e s H → Q e s H) → wpC Try.prog cd5 Q (enterA args) H) : ACalls Try.prog 5 args H R :=
  ACalls.intro (by kernel_rfl) Try.func5 rfl (by kernel_rfl) sl5 hl (of_decide_eq_true (by kernel_rfl)) (by kernel_rfl) h
end Go.Proofs.Ytlcipphiflcaiaa.Ai
namespace Go.Proofs.Ytlcipphiflcaiaa.Ai
open Go Go.RowKit
set_option linter.unusedVariables false
set_option linter.unusedSimpArgs false
theorem swL_perm {ws l m : List Int} (h : l.Perm m) : swL ws l = swL ws m := by
  unfold swL
  induction h with
  | nil => rfl
  | cons x _ ih => simp only [List.map_cons, List.sum_cons, ih]
  | swap x y l => simp only [List.map_cons, List.sum_cons]; omega
  | trans _ _ i1 i2 => exact i1.trans i2
set_option maxRecDepth 20000 in
set_option maxHeartbeats 8000000 in
theorem LigS_c (n : Int) (v w : Value) (es : List (Int × Int)) (ws : List Int) (H : AH) (hr : RowP 65 H v es) (hlen : es.length ≤ 1099511627776) (hes : ∀ y ∈ es, I64 y.1 ∧ I64 y.2) (hw : Row 3 H w ws) (hlw : ws.length ≤ 1099511627776) (hwi : ∀ y ∈ ws, I64 y) (hn : I64 n) :
    ACalls Try.prog 5 [.agg (List.toArray [.int .i64 n, v]), w] H fun r H' => ∃ a b, r = .tuple (List.toArray [.agg (List.toArray [a, b]), .bool (lgB n es ws)]) ∧ SpIn H.length H'.length H' a b (lgL n es ws) (lgS n es ws) ∧ H <+: H' := by
  refine in5 rfl ?_
  intro Q hQ
  simp (maxSteps := 1000000) (disch := omega) only [cd5, hr.boxG, S, S1, S2, S3, S4, S5, ST, eq_self, reduceIte, reduceCtorEq, Nat.reduceEqDiff, Nat.reduceAdd]
  generalize hA1 : H ++ [AObj.cells [.int .i64 n, v] 32 false] = A1
  have pA1 : H <+: A1 := by rw [← hA1]; exact List.prefix_append _ _
  have cA1 : A1[H.length]? = some (.cells [.int .i64 n, v] 32 false) := by rw [← hA1]; exact at_new ..
  have rA1 := hr.pre pA1
  simp (maxSteps := 1000000) (disch := omega) only [alloc_sp, S, S1, S2, S3, S4, S5, ST, eq_self, reduceIte, reduceCtorEq, Nat.reduceEqDiff, Nat.reduceAdd]
  generalize hA : A1 ++ [AObj.cells [.slice none 0 0, .slice none 0 0] 29 false] = A
  have pA2 : A1 <+: A := by rw [← hA]; exact List.prefix_append _ _
  have lA1 : A1.length = H.length + 1 := by rw [← hA1]; simp
  have cS : A[A1.length]? = some (.cells [.slice none 0 0, .slice none 0 0] 29 false) := by rw [← hA]; exact at_new ..
  have lA : A.length = A1.length + 1 := by rw [← hA]; simp
  have pA := pA1.trans pA2
  have cA := pre_at pA2 cA1
  have rA := rA1.pre pA2
  have wA := hw.pre pA
  simp (maxSteps := 1000000) (disch := omega) only [ld_agg ag32 cs32 cA, S, S1, S2, S3, S4, S5, ST, eq_self, reduceIte, reduceCtorEq, Nat.reduceEqDiff, Nat.reduceAdd]
  refine CallH.by (l7Weights_c n v w es ws A rA hlen wA hlw) ?_
  rintro _ B ⟨rfl, pB⟩
  have cB := pre_at pB cA
  have lB := pB.length_le
  have no : ∀ {G : AH}, A <+: G → lgL n es ws = [] → lgB n es ws = false → ∀ sl : Sl, sl 4 = .pointer (some ⟨A1.length, 0, none⟩) → sl 5 = .bool false → endA Try.prog [.cell 4 29, .tmp 5] (fun r H' => ∃ a b, r = .tuple (List.toArray [.agg (List.toArray [a, b]), .bool (lgB n es ws)]) ∧ SpIn H.length H'.length H' a b (lgL n es ws) (lgS n es ws) ∧ H <+: H') .ret sl (G.set A1.length (.cells [.slice none 0 0, .slice none 0 0] 29 false)) := by
    intro G pG h hb sl s2 s3
    have cSG := pre_at pG cS
    have lG := pG.length_le
    have d4 := at_set (d := .cells [.slice none 0 0, .slice none 0 0] 29 false) cSG
    have hS : lgS n es ws = [] := by unfold lgS; rw [h]; rfl
    refine end_cell2 _ _ _ _ _ _ _ (.agg (List.toArray [.slice none 0 0, .slice none 0 0])) (.bool false) ?_ rfl s3 rfl ⟨_, _, by rw [hb], ⟨H.length, Nat.le_refl _, by simp; omega, ?_, ?_⟩, ?_⟩
    · simp (maxSteps := 1000000) (disch := omega) only [s2, ld_agg ag29 cs29 d4, S, S1, S2, S3, S4, S5, ST, eq_self, reduceIte, reduceCtorEq, Nat.reduceEqDiff, Nat.reduceAdd]
    · rw [h]; exact .inl ⟨rfl, rfl⟩
    · rw [hS]; exact .inl ⟨rfl, rfl⟩
    · exact pre_set (pA.trans pG) (by omega) _
  by_cases e : WtOk n es ws
  rotate_left
  · have hstore0 := st_ss (pre_at pB cS) rfl none none 0 0 0 0
    simp (maxSteps := 1000000) (disch := omega) only [decide_eq_false e, bld_sp0, hstore0, S, S1, S2, S3, S4, S5, ST, eq_self, reduceIte, reduceCtorEq, Nat.reduceEqDiff, Nat.reduceAdd]
    refine hQ _ _ _ (no pB (by unfold lgL; rw [if_neg e]) (by unfold lgB; rw [decide_eq_false e]; rfl) _ ?_ ?_) <;> simp (maxSteps := 1000000) (disch := omega) only [S, S1, S2, S3, S4, S5, ST, eq_self, reduceIte, reduceCtorEq, Nat.reduceEqDiff, Nat.reduceAdd]
  have hg := e.2.1.1
  have h8 := hg.1
  obtain ⟨N, rfl⟩ : ∃ N : Nat, n = N := ⟨n.toNat, by omega⟩
  have hN : 1 ≤ N := by have := e.2.1.2; omega
  simp (maxSteps := 1000000) (disch := omega) only [decide_eq_true e, ld_agg ag32 cs32 cB, S, S1, S2, S3, S4, S5, ST, eq_self, reduceIte, reduceCtorEq, Nat.reduceEqDiff, Nat.reduceAdd]
  refine CallH.by (l7Trees_c N hN v es B (rA.pre pB) hg) ?_
  rintro _ C ⟨o, us, rfl, hU, pC⟩
  have pBC := pB.trans pC
  have cSC := pre_at pBC cS
  have cC := pre_at pBC cA
  have lC := pC.length_le
  by_cases e2 : (trsR N es).length = 0
  · have hno : ¬ TsOk (N : Int) es := by
      intro h
      have h1 := h.2.1
      have h2 := h.2.2
      rw [Int.toNat_natCast] at h1 h2
      unfold trsR at e2
      rw [if_neg (by omega)] at e2
      omega
    have e3 : (((trsR N es).length : Nat) : Int) = 0 := by omega
    have z : tsL (N : Int) es = [] := if_neg hno
    have hstore0 := st_ss cSC rfl none none 0 0 0 0
    simp (maxSteps := 1000000) (disch := omega) only [decide_eq_true e3, bld_sp0, hstore0, S, S1, S2, S3, S4, S5, ST, eq_self, reduceIte, reduceCtorEq, Nat.reduceEqDiff, Nat.reduceAdd]
    refine hQ _ _ _ (no pBC (by unfold lgL; rw [z]; split <;> rfl) (by unfold lgB; rw [decide_eq_false hno, Bool.and_false]) _ ?_ ?_) <;> simp (maxSteps := 1000000) (disch := omega) only [S, S1, S2, S3, S4, S5, ST, eq_self, reduceIte, reduceCtorEq, Nat.reduceEqDiff, Nat.reduceAdd]
  clear no
  have e3 : ¬ (((trsR N es).length : Nat) : Int) = 0 := by omega
  simp (maxSteps := 1000000) (disch := omega) only [decide_eq_false e3, ld_agg ag32 cs32 cC, S, S1, S2, S3, S4, S5, ST, eq_self, reduceIte, reduceCtorEq, Nat.reduceEqDiff, Nat.reduceAdd]
  refine CallH.by (l7Light_c N hN v w es ws C (rA.pre pBC) hg (wA.pre pBC) e.2.2 e.1) ?_
  rintro k D ⟨hk, pD⟩
  have hkr := krW_ok hg (fun x hx => (e.1 _ (show ws.getD x 0 ∈ ws by have := e.2.2; simp [show x < ws.length by omega])).1) 100
  have hpp := puts_perm _ (krW N es ws 100) rfl hkr.nd
  have hfew := hkr.fst.few hN hg hkr.ed
  have hpl := hpp.1.length_eq
  simp (maxSteps := 1000000) (disch := omega) only [hk.row.tup, S, S1, S2, S3, S4, S5, ST, eq_self, reduceIte, reduceCtorEq, Nat.reduceEqDiff, Nat.reduceAdd]
  refine CallH.by (l7Weight_c w k ws _ D (wA.pre (pBC.trans pD)) hk.row e.1 (fun x hx => by
    have := hkr.ed x (hpp.1.mem_iff.1 hx)
    have := e.2.2
    omega) (by omega) (by have := e.2.2; have := grd_len hg; omega)) ?_
  rintro _ _ ⟨rfl, rfl⟩
  rw [swL_perm hpp.1]
  simp (maxSteps := 1000000) (disch := omega) only [S, S1, S2, S3, S4, S5, ST, eq_self, reduceIte, reduceCtorEq, Nat.reduceEqDiff, Nat.reduceAdd]
  have ok : TsOk (N : Int) es := by
    refine ⟨e.2.1, ?_⟩
    rw [Int.toNat_natCast]
    unfold trsR at e2
    split at e2
    · exact absurd rfl e2
    · omega
  have hR : trsR N es = tsL (N : Int) es := by
    unfold trsR tsL
    have h2 := ok.2.2
    rw [if_pos ok, if_neg (by rw [Int.toNat_natCast] at h2; omega), Int.toNat_natCast]
  have hB : lgB (N : Int) es ws = true := by unfold lgB; rw [decide_eq_true e, decide_eq_true ok]; rfl
  have h300 := tsL_len (N : Int) es
  have hin : ∀ x ∈ tsL (N : Int) es, x.length ≤ 28 ∧ (∀ y ∈ x, 0 ≤ y ∧ y < 28) ∧ x.Pairwise (· < ·) := tsL_in
  have hrg : ∀ x ∈ tsL (N : Int) es, ∀ y ∈ x, 0 ≤ y ∧ y < ws.length := by
    intro x hx y hy
    rw [← hR] at hx
    have := (trsR_tree hN hg x hx).2.2.1 y hy
    have := e.2.2
    omega
  have hlg : lgL (N : Int) es ws = (tsL (N : Int) es).filter fun T => decide (swL ws T = swL ws (krW N es ws 100)) := by unfold lgL; rw [if_pos e, Int.toNat_natCast]
  rw [hR] at hU ⊢
  generalize hE : D ++ [AObj.cells [] 25 false] = E
  have pE : D <+: E := by rw [← hE]; exact List.prefix_append _ _
  have lE : E.length = D.length + 1 := by rw [← hE]; simp
  have lD := pD.length_le
  have u0 : InU B.length E.length 25 3 E D.length [] [] := by
    have := InU.new B.length 25 3 D (by omega)
    rw [hE] at this
    exact this.wide (Nat.le_refl _) (by omega)
  generalize hls : tsL (N : Int) es = ls at *
  generalize hle : swL ws (krW N es ws 100) = least at *
  have hL : InL B.length C.length 25 3 C (.slice (some ⟨o, 0, none⟩) ls.length ls.length) ls := .inr ⟨o, us, rfl, hU⟩
  obtain ⟨q2, q3, q4, q5, q6, q7⟩ := hU
  obtain ⟨us2, r1, r2, r3⟩ := hL.parts
  refine LoopH.by (fun m s H' => ∃ (i o' : Nat) (us' : List Value), m + i = ls.length ∧ s 1 = w ∧ s 2 = .pointer (some ⟨H.length, 0, none⟩) ∧ s 4 = .pointer (some ⟨A1.length, 0, none⟩) ∧ s 6 = .slice (some ⟨o, 0, none⟩) ls.length ls.length ∧ s 7 = .int .i64 least ∧ s 9 = .int .i64 ((i : Nat) : Int) ∧ s 8 = .slice (some ⟨o', 0, none⟩) ((ls.take i).filter fun T => decide (swL ws T = least)).length ((ls.take i).filter fun T => decide (swL ws T = least)).length ∧ InU B.length H'.length 25 3 H' o' us' ((ls.take i).filter fun T => decide (swL ws T = least)) ∧ (∀ k, k < ((ls.take i).filter fun T => decide (swL ws T = least)).length → ∃ i', i' < i ∧ us'.getD k undef = us.getD i' undef) ∧ D.length ≤ o' ∧ D <+: H') ls.length ?_ ?_
  · refine ⟨0, D.length, [], by omega, rfl, rfl, rfl, rfl, rfl, rfl, rfl, u0, fun k hk => absurd hk (Nat.not_lt_zero k), Nat.le_refl _, pE⟩
  rintro m s H' ⟨i, o', us', hm, s1, s2, s4, s6, s7, s9, s8, hU', hsub, ho', pp⟩
  have pCH := pD.trans pp
  have r1H := r1.pre pCH
  have cH := pre_at pCH cC
  have wH := wA.pre (pBC.trans pCH)
  have lH := pp.length_le
  simp (maxSteps := 1000000) (disch := omega) only [s1, s2, s4, s6, s7, s8, s9, r1H.len Try.underlying27, S, S1, S2, S3, S4, S5, ST, eq_self, reduceIte, reduceCtorEq, Nat.reduceEqDiff, Nat.reduceAdd]
  refine brD.intro (fun g => ?_) (fun g => ?_)
  · have hi : i < ls.length := by omega
    have hme : ls.getD i [] ∈ ls := by simp [hi]
    obtain ⟨k1, k2⟩ := q6 i hi
    have k1H : InI B.length H'.length 3 H' (us.getD i undef) (ls.getD i []) := (k1.move fun y _ hy => pre_at pCH hy).wide (Nat.le_refl _) (by omega)
    have hc4 := pre_at pCH q4
    have hld : cellA H' o (0 + i) = some (us.getD i undef) := by
      rw [Nat.zero_add, cell_of hc4, List.getD_eq_getElem?_getD, List.getElem?_eq_getElem (by omega)]; rfl
    have htk : ls.take (i + 1) = ls.take i ++ [ls.getD i []] := by
      rw [List.take_add_one, List.getElem?_eq_getElem hi]
      simp [hi]
    have hld0 : cellA H' o i = some (us.getD i undef) := by rw [← hld, Nat.zero_add]
    have ix := ix_one (P := Try.prog) (t := 27) Try.underlying27 cs25 ⟨o, 0, none⟩ ls.length ls.length .i64 (i := (i : Int)) (by omega) (by omega)
    have h28i := hin _ hme
    simp (maxSteps := 1000000) (disch := omega) only [s1, s2, s4, s6, s7, s8, s9, ix, Int.toNat_natCast, hld, hld0, S, S1, S2, S3, S4, S5, ST, eq_self, reduceIte, reduceCtorEq, Nat.reduceEqDiff, Nat.reduceAdd]
    refine CallH.by (l7Weight_c w _ ws (ls.getD i []) H' wH k1H.row.1 e.1 (hrg _ hme) (by omega) (by have := e.2.2; have := grd_len hg; omega)) ?_
    rintro _ _ ⟨rfl, rfl⟩
    by_cases q : swL ws (ls.getD i []) = least
    · have hfs : (ls.take (i + 1)).filter (fun T => decide (swL ws T = least)) = (ls.take i).filter (fun T => decide (swL ws T = least)) ++ [ls.getD i []] := by
        rw [htk, List.filter_append, List.filter_cons_of_pos (by rw [decide_eq_true_eq]; exact q)]; rfl
      have hls' : ((ls.take i).filter fun T => decide (swL ws T = least)).length ≤ 300 := by
        have := List.length_filter_le (fun T => decide (swL ws T = least)) (ls.take i)
        rw [List.length_take] at this; omega
      have hoo := hU'.2.1
      obtain ⟨H3, a1, a2, a3, a4⟩ := hU'.app1w (P := Try.prog) (t2 := 27) Try.underlying27 cs25 (by rw [by25]; decide) zk25 k1H (by
        rcases k1.at_ with z | z
        · exact .inl z
        · exact .inr (by omega)) (fun k hk => by
        obtain ⟨i', hi', hk2⟩ := hsub k hk
        rw [hk2]; exact q7 i' i (by omega) (by omega) hi) (Nat.le_refl _) (Nat.le_refl _) (by omega)
      simp (maxSteps := 1000000) (disch := omega) only [decide_eq_true q, s1, s2, s4, s6, s7, s8, s9, ix, Int.toNat_natCast, hld, hld0, bsRowS k1H.row.1 H', a1, wrap64, S, S1, S2, S3, S4, S5, ST, eq_self, reduceIte, reduceCtorEq, Nat.reduceEqDiff, Nat.reduceAdd]
      have f1 : ∀ k, k < ((ls.take i).filter (fun T => decide (swL ws T = least)) ++ [ls.getD i []]).length → ∃ i', i' < i + 1 ∧ (us'.take ((ls.take i).filter fun T => decide (swL ws T = least)).length ++ [us.getD i undef]).getD k undef = us.getD i' undef := fun k hk => by
        rw [List.length_append] at hk
        have hul : (us'.take ((ls.take i).filter fun T => decide (swL ws T = least)).length).length = ((ls.take i).filter fun T => decide (swL ws T = least)).length := by
          have := hU'.2.2.2.1
          rw [List.length_take]; omega
        by_cases z : k < ((ls.take i).filter fun T => decide (swL ws T = least)).length
        · obtain ⟨i', z1, z2⟩ := hsub k z
          refine ⟨i', by omega, ?_⟩
          rw [← z2, List.getD_eq_getElem?_getD, List.getD_eq_getElem?_getD, List.getElem?_append_left (by rw [hul]; exact z), List.getElem?_take]
          simp [z]
        · refine ⟨i, by omega, ?_⟩
          have hk2 : k = ((ls.take i).filter fun T => decide (swL ws T = least)).length := by simp only [List.length_cons, List.length_nil] at hk; omega
          rw [List.getD_eq_getElem?_getD, List.getElem?_append_right (by omega), hul, hk2, Nat.sub_self]; rfl
      have f2 : D <+: H3 := prefix_of fun j y hy => a4 j y (by have := at_lt hy; omega) (pre_at pp hy)
      have f3 : D.length ≤ H'.length + 1 := by omega
      rw [← a3] at a2
      refine ⟨m - 1, by omega, i + 1, H'.length + 1, us'.take ((ls.take i).filter fun T => decide (swL ws T = least)).length ++ [us.getD i undef], ?_⟩
      rw [hfs]
      refine ⟨by omega, by simp, by simp, a2, f1, f3, f2⟩
    · have hfs : (ls.take (i + 1)).filter (fun T => decide (swL ws T = least)) = (ls.take i).filter (fun T => decide (swL ws T = least)) := by
        rw [htk, List.filter_append, List.filter_cons_of_neg (by rw [decide_eq_true_eq]; exact q)]; simp
      simp (maxSteps := 1000000) (disch := omega) only [decide_eq_false q, s1, s2, s4, s6, s7, s8, s9, wrap64, S, S1, S2, S3, S4, S5, ST, eq_self, reduceIte, reduceCtorEq, Nat.reduceEqDiff, Nat.reduceAdd]
      have f1 : ∀ k, k < ((ls.take i).filter fun T => decide (swL ws T = least)).length → ∃ i', i' < i + 1 ∧ us'.getD k undef = us.getD i' undef := fun k hk => by
        obtain ⟨i', z1, z2⟩ := hsub k hk; exact ⟨i', by omega, z2⟩
      refine ⟨m - 1, by omega, i + 1, o', us', ?_⟩
      rw [hfs]
      (repeat' first | exact hU' | exact f1 | exact ho' | exact pp | apply And.intro) <;> first | (simp only [Value.int.injEq, true_and]; omega) | omega | rfl | assumption | (simp; done) | (simp; omega)
  · have hi : i = ls.length := by omega
    subst hi
    rw [List.take_length, ← hlg] at s8 hU'
    have hin2 : ∀ x ∈ lgL (N : Int) es ws, x.length ≤ 28 := fun x hx => by
      rw [hlg] at hx; exact (hin x (List.mem_filter.1 hx).1).1
    have h300b := lgL_len (N : Int) es ws
    have hS : lgS (N : Int) es ws = steps jmpB (lgL (N : Int) es ws) := rfl
    rw [hB, hS] at hQ
    generalize lgL (N : Int) es ws = ks at *
    have hLk : InL B.length H'.length 25 3 H' (.slice (some ⟨o', 0, none⟩) ks.length ks.length) ks := .inr ⟨o', us', rfl, hU'⟩
    generalize hav : Value.slice (some ⟨o', 0, none⟩) ks.length ks.length = a at *
    have pAH := pBC.trans pCH
    simp (maxSteps := 1000000) (disch := omega) only [s2, s4, s8, ld_agg ag32 cs32 cH, S, S1, S2, S3, S4, S5, ST, eq_self, reduceIte, reduceCtorEq, Nat.reduceEqDiff, Nat.reduceAdd]
    refine CallH.by (l7Exchanges_c (N : Int) v es (rA.pre pAH) hlen hLk (by omega) (fun l hl => by have := hin2 l hl; omega)) ?_
    rintro _ Z ⟨b, rfl, hp, pZ⟩
    have lZ := pZ.length_le
    have cSZ := pre_at (pAH.trans pZ) cS
    have lA9 := pA.length_le
    have lAH := pAH.length_le
    have hrow : SpRow Z a b ks (steps jmpB ks) := ⟨⟨_, (hLk.row).pre pZ⟩, by
      rcases hp with ⟨q1, q2⟩ | ⟨o, zs, q1, q2, q3, q4, q5⟩
      · exact (show MineP 65 Z Z b (steps jmpB ks) from .inl ⟨q1, q2⟩).row
      · exact (show MineP 65 H' Z b (steps jmpB ks) from .inr ⟨o, zs, q1, q2, q4, q5⟩).row⟩
    have hstore := hrow.store cSZ rfl
    simp (maxSteps := 1000000) (disch := omega) only [s4, hstore, S, S1, S2, S3, S4, S5, ST, eq_self, reduceIte, reduceCtorEq, Nat.reduceEqDiff, Nat.reduceAdd]
    have d4 := at_set (d := .cells [a, b] 29 false) cSZ
    refine hQ _ _ _ (end_cell2 _ _ _ _ _ _ _ (.agg (List.toArray [a, b])) (.bool true) ?_ rfl ?_ rfl ⟨a, b, rfl, ⟨H'.length, by omega, by simp; omega, ?_, ?_⟩, ?_⟩)
    · simp (maxSteps := 1000000) (disch := omega) only [s4, ld_agg ag29 cs29 d4, S, S1, S2, S3, S4, S5, ST, eq_self, reduceIte, reduceCtorEq, Nat.reduceEqDiff, Nat.reduceAdd]
    · simp (maxSteps := 1000000) (disch := omega) only [S, S1, S2, S3, S4, S5, ST, eq_self, reduceIte, reduceCtorEq, Nat.reduceEqDiff, Nat.reduceAdd]
    · rcases hLk.pre pZ with q | ⟨o, us', q1, q2⟩
      · exact .inl q
      · refine .inr ⟨o, us', q1, (q2.move fun j y hj1 hj2 hy => ?_).wide (by omega) (Nat.le_refl _)⟩
        rw [List.getElem?_set_ne (by omega)]; exact hy
    · rcases hp with q | ⟨o, zs, q1, q2, q3, q4, q5⟩
      · exact .inl q
      · exact .inr ⟨o, zs, q1, q2, by simpa using q3, by rw [List.getElem?_set_ne (by omega)]; exact q4, q5⟩
    · exact pre_set (pA.trans (pAH.trans pZ)) (by omega) _
end Go.Proofs.Ytlcipphiflcaiaa.Ai
namespace Go.Proofs.Ytlcipphiflcaiaa.Ai
open Go
def ords3 : List (Nat × List (Nat × Bool)) := [(13, [(0, false), (1, false), (2, true), (3, true), (4, false)])]
def cd3 : Cd := (.seq (.reg [⟨⟨some 2, Op.box 24 (Operand.tmp 0), none⟩, []⟩,
  ⟨⟨some 4, Op.assign (Operand.const (Value.bool false)), none⟩, []⟩]) (.seq (.seq (.reg [⟨⟨some 17, Op.move (Operand.tmp 1), none⟩, []⟩,
  ⟨⟨some 18, Op.call { callee := (Callee.builtin Builtin.len), args := #[(Operand.tmp 17)], argTypes := #[25] }, none⟩, []⟩,
  ⟨⟨some 19, Op.binOp BinOp.gtr 3 (Operand.tmp 18) (Operand.const (Value.int IntKind.i64 1048576)) 3, none⟩, []⟩]) (.cond (Operand.tmp 19) (.seq (.reg [⟨⟨some 4, Op.assign (Operand.const (Value.bool true)), none⟩, []⟩]) .ret) .skip)) (.seq (.reg [⟨⟨some 5, Op.assign (Operand.const (Value.int IntKind.i64 1048576)), none⟩, []⟩]) (.seq (.reg [⟨⟨some 20, Op.load 24 (Operand.tmp 2), none⟩, []⟩,
  ⟨⟨some 21, Op.move (Operand.tmp 5), none⟩, []⟩,
  ⟨⟨some 22, Op.call { callee := (Callee.value (Operand.func 4)), args := #[(Operand.tmp 20), (Operand.tmp 21)], argTypes := #[24, 3] }, none⟩, []⟩,
  ⟨⟨some 5, Op.assign (Operand.tmp 22), none⟩, []⟩]) (.seq (.seq (.reg [⟨⟨some 23, Op.move (Operand.tmp 5), none⟩, []⟩,
  ⟨⟨some 24, Op.binOp BinOp.lss 3 (Operand.tmp 23) (Operand.const (Value.int IntKind.i64 0)) 3, none⟩, []⟩]) (.cond (Operand.tmp 24) (.seq (.reg [⟨⟨some 4, Op.assign (Operand.const (Value.bool true)), none⟩, []⟩]) .ret) .skip)) (.seq (.reg [⟨⟨some 26, Op.load 24 (Operand.tmp 2), none⟩, []⟩,
  ⟨⟨some 27, Op.call { callee := (Callee.value (Operand.func 6)), args := #[(Operand.tmp 26)], argTypes := #[24] }, none⟩, []⟩,
  ⟨⟨some 28, Op.move (Operand.tmp 1), none⟩, []⟩,
  ⟨⟨some 29, Op.call { callee := (Callee.value (Operand.func 7)), args := #[(Operand.tmp 28)], argTypes := #[25] }, none⟩, []⟩,
  ⟨⟨some 30, Op.call { callee := (Callee.value (Operand.func 5)), args := #[(Operand.tmp 27), (Operand.tmp 29)], argTypes := #[32, 25] }, none⟩, []⟩,
  ⟨⟨some 25, Op.move (Operand.tmp 30), none⟩, []⟩,
  ⟨⟨some 31, Op.extract (Operand.tmp 25) 0, none⟩, []⟩,
  ⟨⟨some 32, Op.extract (Operand.tmp 25) 1, none⟩, []⟩,
  ⟨⟨some 6, Op.alloc 29, none⟩, []⟩,
  ⟨⟨none, Op.store 29 (Operand.tmp 6) (Operand.tmp 31), none⟩, []⟩,
  ⟨⟨some 7, Op.assign (Operand.tmp 32), none⟩, []⟩]) (.seq (.reg [⟨⟨some 33, Op.load 24 (Operand.tmp 2), none⟩, []⟩,
  ⟨⟨some 34, Op.call { callee := (Callee.value (Operand.func 6)), args := #[(Operand.tmp 33)], argTypes := #[24] }, none⟩, []⟩,
  ⟨⟨some 8, Op.alloc 32, none⟩, []⟩,
  ⟨⟨none, Op.store 32 (Operand.tmp 8) (Operand.tmp 34), none⟩, []⟩]) (.seq (.reg [⟨⟨some 35, Op.move (Operand.tmp 1), none⟩, []⟩,
  ⟨⟨some 36, Op.call { callee := (Callee.value (Operand.func 7)), args := #[(Operand.tmp 35)], argTypes := #[25] }, none⟩, []⟩,
  ⟨⟨some 9, Op.assign (Operand.tmp 36), none⟩, []⟩]) (.seq (.reg [⟨⟨some 38, Op.load 32 (Operand.tmp 8), none⟩, []⟩,
  ⟨⟨some 39, Op.move (Operand.tmp 9), none⟩, []⟩,
  ⟨⟨some 40, Op.call { callee := (Callee.value (Operand.func 8)), args := #[(Operand.tmp 38), (Operand.tmp 39)], argTypes := #[32, 25] }, none⟩, []⟩,
  ⟨⟨some 37, Op.move (Operand.tmp 40), none⟩, []⟩,
  ⟨⟨some 41, Op.extract (Operand.tmp 37) 0, none⟩, []⟩,
  ⟨⟨some 42, Op.extract (Operand.tmp 37) 1, none⟩, []⟩,
  ⟨⟨some 10, Op.alloc 29, none⟩, []⟩,
  ⟨⟨none, Op.store 29 (Operand.tmp 10) (Operand.tmp 41), none⟩, []⟩,
  ⟨⟨some 11, Op.assign (Operand.tmp 42), none⟩, []⟩]) (.seq (.seq (.reg [⟨⟨some 43, Op.load 29 (Operand.tmp 10), none⟩, []⟩,
  ⟨⟨some 44, Op.load 29 (Operand.tmp 6), none⟩, []⟩,
  ⟨⟨some 45, Op.call { callee := (Callee.value (Operand.func 9)), args := #[(Operand.tmp 43), (Operand.tmp 44)], argTypes := #[29, 29] }, none⟩, []⟩,
  ⟨⟨some 46, Op.unOp UnOp.not 4 (Operand.tmp 45), none⟩, []⟩,
  ⟨⟨some 47, Op.move (Operand.tmp 46), none⟩, []⟩,
  ⟨⟨some 48, Op.move (Operand.tmp 11), some (47, false)⟩, []⟩,
  ⟨⟨some 49, Op.move (Operand.tmp 7), some (47, false)⟩, []⟩,
  ⟨⟨some 50, Op.binOp BinOp.neq 4 (Operand.tmp 48) (Operand.tmp 49) 4, some (47, false)⟩, []⟩,
  ⟨⟨some 51, Op.pick (Operand.tmp 47) (Operand.const (Value.bool true)) (Operand.tmp 50), none⟩, []⟩]) (.cond (Operand.tmp 51) (.seq (.reg [⟨⟨some 4, Op.assign (Operand.const (Value.bool false)), none⟩, []⟩]) .ret) .skip)) (.seq (.seq (.reg [⟨⟨some 52, Op.load 32 (Operand.tmp 8), none⟩, []⟩,
  ⟨⟨some 53, Op.load 24 (Operand.tmp 2), none⟩, []⟩,
  ⟨⟨some 54, Op.call { callee := (Callee.value (Operand.func 6)), args := #[(Operand.tmp 53)], argTypes := #[24] }, none⟩, [⟨some 52, Op.load 32 (Operand.tmp 8), none⟩]⟩,
  ⟨⟨some 55, Op.call { callee := (Callee.value (Operand.func 10)), args := #[(Operand.tmp 52), (Operand.tmp 54)], argTypes := #[32, 32] }, none⟩, []⟩,
  ⟨⟨some 56, Op.unOp UnOp.not 4 (Operand.tmp 55), none⟩, []⟩]) (.cond (Operand.tmp 56) (.seq (.reg [⟨⟨some 4, Op.assign (Operand.const (Value.bool false)), none⟩, []⟩]) .ret) .skip)) (.seq (.seq (.reg [⟨⟨some 57, Op.move (Operand.tmp 9), none⟩, []⟩,
  ⟨⟨some 58, Op.move (Operand.tmp 1), none⟩, []⟩,
  ⟨⟨some 59, Op.call { callee := (Callee.value (Operand.func 7)), args := #[(Operand.tmp 58)], argTypes := #[25] }, none⟩, []⟩,
  ⟨⟨some 60, Op.call { callee := (Callee.value (Operand.func 11)), args := #[(Operand.tmp 57), (Operand.tmp 59)], argTypes := #[25, 25] }, none⟩, []⟩,
  ⟨⟨some 61, Op.unOp UnOp.not 4 (Operand.tmp 60), none⟩, []⟩]) (.cond (Operand.tmp 61) (.seq (.reg [⟨⟨some 4, Op.assign (Operand.const (Value.bool false)), none⟩, []⟩]) .ret) .skip)) (.seq (.reg [⟨⟨some 12, Op.assign (Operand.const (Value.int IntKind.i64 1)), none⟩, []⟩]) (.seq (.reg [⟨⟨some 62, Op.load 32 (Operand.tmp 8), none⟩, []⟩,
  ⟨⟨some 63, Op.move (Operand.tmp 12), none⟩, []⟩,
  ⟨⟨some 64, Op.call { callee := (Callee.value (Operand.func 12)), args := #[(Operand.tmp 62), (Operand.tmp 63)], argTypes := #[32, 3] }, none⟩, []⟩,
  ⟨⟨some 12, Op.assign (Operand.tmp 64), none⟩, []⟩]) (.seq (.reg [⟨⟨some 65, Op.move (Operand.tmp 9), none⟩, []⟩,
  ⟨⟨some 66, Op.move (Operand.tmp 12), none⟩, []⟩,
  ⟨⟨some 67, Op.call { callee := (Callee.value (Operand.func 13)), args := #[(Operand.tmp 65), (Operand.tmp 66)], argTypes := #[25, 3] }, none⟩, []⟩,
  ⟨⟨some 12, Op.assign (Operand.tmp 67), none⟩, []⟩]) (.seq (.seq (.reg [⟨⟨some 68, Op.move (Operand.tmp 12), none⟩, []⟩,
  ⟨⟨some 69, Op.binOp BinOp.lss 3 (Operand.tmp 68) (Operand.const (Value.int IntKind.i64 0)) 3, none⟩, []⟩,
  ⟨⟨some 70, Op.move (Operand.tmp 69), none⟩, []⟩,
  ⟨⟨some 71, Op.load 29 (Operand.tmp 10), some (70, false)⟩, []⟩,
  ⟨⟨some 72, Op.load 29 (Operand.tmp 6), some (70, false)⟩, []⟩,
  ⟨⟨some 73, Op.call { callee := (Callee.value (Operand.func 9)), args := #[(Operand.tmp 71), (Operand.tmp 72)], argTypes := #[29, 29] }, some (70, false)⟩, []⟩,
  ⟨⟨some 74, Op.unOp UnOp.not 4 (Operand.tmp 73), some (70, false)⟩, []⟩,
  ⟨⟨some 75, Op.pick (Operand.tmp 70) (Operand.const (Value.bool true)) (Operand.tmp 74), none⟩, []⟩,
  ⟨⟨some 76, Op.move (Operand.tmp 75), none⟩, []⟩,
  ⟨⟨some 77, Op.move (Operand.tmp 11), some (76, false)⟩, []⟩,
  ⟨⟨some 78, Op.move (Operand.tmp 7), some (76, false)⟩, []⟩,
  ⟨⟨some 79, Op.binOp BinOp.neq 4 (Operand.tmp 77) (Operand.tmp 78) 4, some (76, false)⟩, []⟩,
  ⟨⟨some 80, Op.pick (Operand.tmp 76) (Operand.const (Value.bool true)) (Operand.tmp 79), none⟩, []⟩]) (.cond (Operand.tmp 80) (.seq (.reg [⟨⟨some 4, Op.assign (Operand.const (Value.bool false)), none⟩, []⟩]) .ret) .skip)) (.seq (.reg [⟨⟨some 13, Op.assign (Operand.const (Value.int IntKind.i64 1)), none⟩, []⟩]) (.seq (.reg [⟨⟨some 81, Op.load 29 (Operand.tmp 10), none⟩, []⟩,
  ⟨⟨some 82, Op.move (Operand.tmp 13), none⟩, []⟩,
  ⟨⟨some 83, Op.call { callee := (Callee.value (Operand.func 14)), args := #[(Operand.tmp 81), (Operand.tmp 82)], argTypes := #[29, 3] }, none⟩, []⟩,
  ⟨⟨some 13, Op.assign (Operand.tmp 83), none⟩, []⟩]) (.seq (.reg [⟨⟨some 14, Op.assign (Operand.const (Value.int IntKind.i64 1)), none⟩, []⟩]) (.seq (.reg [⟨⟨some 84, Op.load 29 (Operand.tmp 10), none⟩, []⟩,
  ⟨⟨some 85, Op.move (Operand.tmp 14), none⟩, []⟩,
  ⟨⟨some 86, Op.call { callee := (Callee.value (Operand.func 15)), args := #[(Operand.tmp 84), (Operand.tmp 85)], argTypes := #[29, 3] }, none⟩, []⟩,
  ⟨⟨some 14, Op.assign (Operand.tmp 86), none⟩, []⟩]) (.seq (.seq (.reg [⟨⟨some 87, Op.move (Operand.tmp 14), none⟩, []⟩,
  ⟨⟨some 88, Op.binOp BinOp.lss 3 (Operand.tmp 87) (Operand.const (Value.int IntKind.i64 0)) 3, none⟩, []⟩]) (.cond (Operand.tmp 88) (.seq (.reg [⟨⟨some 4, Op.assign (Operand.const (Value.bool false)), none⟩, []⟩]) .ret) .skip)) (.seq (.seq (.reg [⟨⟨some 89, Op.move (Operand.tmp 14), none⟩, []⟩,
  ⟨⟨some 90, Op.move (Operand.tmp 13), none⟩, []⟩,
  ⟨⟨some 91, Op.binOp BinOp.neq 3 (Operand.tmp 89) (Operand.tmp 90) 3, none⟩, []⟩]) (.cond (Operand.tmp 91) (.seq (.reg [⟨⟨some 4, Op.assign (Operand.const (Value.bool false)), none⟩, []⟩]) .ret) .skip)) (.seq (.reg [⟨⟨some 93, Op.load 24 (Operand.tmp 2), none⟩, []⟩,
  ⟨⟨some 94, Op.call { callee := (Callee.value (Operand.func 6)), args := #[(Operand.tmp 93)], argTypes := #[24] }, none⟩, []⟩,
  ⟨⟨some 95, Op.move (Operand.tmp 1), none⟩, []⟩,
  ⟨⟨some 96, Op.call { callee := (Callee.value (Operand.func 7)), args := #[(Operand.tmp 95)], argTypes := #[25] }, none⟩, []⟩,
  ⟨⟨some 97, Op.call { callee := (Callee.value (Operand.func 8)), args := #[(Operand.tmp 94), (Operand.tmp 96)], argTypes := #[32, 25] }, none⟩, []⟩,
  ⟨⟨some 92, Op.move (Operand.tmp 97), none⟩, []⟩,
  ⟨⟨some 98, Op.extract (Operand.tmp 92) 0, none⟩, []⟩,
  ⟨⟨some 99, Op.extract (Operand.tmp 92) 1, none⟩, []⟩,
  ⟨⟨some 15, Op.alloc 29, none⟩, []⟩,
  ⟨⟨none, Op.store 29 (Operand.tmp 15) (Operand.tmp 98), none⟩, []⟩,
  ⟨⟨some 16, Op.assign (Operand.tmp 99), none⟩, []⟩]) (.seq (.seq (.reg [⟨⟨some 100, Op.load 29 (Operand.tmp 15), none⟩, []⟩,
  ⟨⟨some 101, Op.load 29 (Operand.tmp 6), none⟩, []⟩,
  ⟨⟨some 102, Op.call { callee := (Callee.value (Operand.func 9)), args := #[(Operand.tmp 100), (Operand.tmp 101)], argTypes := #[29, 29] }, none⟩, []⟩,
  ⟨⟨some 103, Op.unOp UnOp.not 4 (Operand.tmp 102), none⟩, []⟩,
  ⟨⟨some 104, Op.move (Operand.tmp 103), none⟩, []⟩,
  ⟨⟨some 105, Op.move (Operand.tmp 16), some (104, false)⟩, []⟩,
  ⟨⟨some 106, Op.move (Operand.tmp 7), some (104, false)⟩, []⟩,
  ⟨⟨some 107, Op.binOp BinOp.neq 4 (Operand.tmp 105) (Operand.tmp 106) 4, some (104, false)⟩, []⟩,
  ⟨⟨some 108, Op.pick (Operand.tmp 104) (Operand.const (Value.bool true)) (Operand.tmp 107), none⟩, []⟩]) (.cond (Operand.tmp 108) (.seq (.reg [⟨⟨some 4, Op.assign (Operand.const (Value.bool false)), none⟩, []⟩]) .ret) .skip)) (.seq (.reg [⟨⟨some 14, Op.assign (Operand.const (Value.int IntKind.i64 1)), none⟩, []⟩]) (.seq (.reg [⟨⟨some 109, Op.load 29 (Operand.tmp 10), none⟩, []⟩,
  ⟨⟨some 110, Op.move (Operand.tmp 14), none⟩, []⟩,
  ⟨⟨some 111, Op.call { callee := (Callee.value (Operand.func 15)), args := #[(Operand.tmp 109), (Operand.tmp 110)], argTypes := #[29, 3] }, none⟩, []⟩,
  ⟨⟨some 14, Op.assign (Operand.tmp 111), none⟩, []⟩]) (.seq (.seq (.reg [⟨⟨some 112, Op.move (Operand.tmp 14), none⟩, []⟩,
  ⟨⟨some 113, Op.binOp BinOp.lss 3 (Operand.tmp 112) (Operand.const (Value.int IntKind.i64 0)) 3, none⟩, []⟩]) (.cond (Operand.tmp 113) (.seq (.reg [⟨⟨some 4, Op.assign (Operand.const (Value.bool false)), none⟩, []⟩]) .ret) .skip)) (.seq (.seq (.reg [⟨⟨some 114, Op.move (Operand.tmp 14), none⟩, []⟩,
  ⟨⟨some 115, Op.move (Operand.tmp 13), none⟩, []⟩,
  ⟨⟨some 116, Op.binOp BinOp.neq 3 (Operand.tmp 114) (Operand.tmp 115) 3, none⟩, []⟩]) (.cond (Operand.tmp 116) (.seq (.reg [⟨⟨some 4, Op.assign (Operand.const (Value.bool false)), none⟩, []⟩]) .ret) .skip)) (.seq (.reg [⟨⟨some 4, Op.assign (Operand.const (Value.bool true)), none⟩, []⟩]) .ret)))))))))))))))))))))))))))))
theorem sl3 : slim Try.f3.ntmps ords3 (Try.f3.body.getD .skip) = some cd3 := by kernel_rfl
theorem in3 {args : List Value} {H : AH} {R : Value → AH → Prop} (hl : args.length = 2) (h : ∀ (Q : Exit → Sl → AH → Prop), (∀ e s H, endA Try.prog [ResultVar.tmp 4] R e s H → Q e s H) → wpC Try.prog cd3 Q (enterA args) H) : ACalls Try.prog 3 args H R :=
  ACalls.intro (by kernel_rfl) Try.func3 rfl (by kernel_rfl) sl3 hl (of_decide_eq_true (by kernel_rfl)) (by kernel_rfl) h
end Go.Proofs.Ytlcipphiflcaiaa.Ai
namespace Go.Proofs.Ytlcipphiflcaiaa.Ai
open Go Go.RowKit
set_option linter.unusedVariables false
set_option linter.unusedSimpArgs false
set_option maxRecDepth 20000 in
set_option maxHeartbeats 8000000 in
theorem lgsLaw_c  (n0 : Int) (v0 : Value) (v1 : Value) (xs0 : List (Int × Int)) (xs1 : List Int) (H0 : AH) (r0 : RowP 65 H0 v0 xs0) (b0 : (∀ y ∈ xs0, I64 y.1 ∧ I64 y.2) ∧ (xs0.length : Int) ≤ 9223372036854775807) (r1 : Row 3 H0 v1 xs1) (b1 : ∀ y ∈ xs1, I64 y) (bn0 : I64 n0) :
    ACalls Try.prog 3 [.agg (List.toArray [.int .i64 n0, v0]), v1] H0 fun r H' => r = .bool true := by
  refine in3 rfl ?_
  intro Q hQ
  simp (maxSteps := 4000000) (disch := omega) only [cd3, r1.len Try.underlying25, r0.boxL, S, S1, S2, S3, S4, S5, ST, eq_self, reduceIte, reduceCtorEq, Nat.reduceEqDiff, Nat.reduceAdd]
  generalize hG0 : H0 ++ [AObj.cells [.int .i64 n0, v0] 24 false] = H1
  have p1 : H0 <+: H1 := by rw [← hG0]; exact List.prefix_append _ _
  have CB0_1 : H1[H0.length]? = some (.cells [.int .i64 n0, v0] 24 false) := by rw [← hG0]; exact at_new ..
  have L1 := p1.length_le
  have Lb := at_lt CB0_1
  try simp (maxSteps := 4000000) (disch := omega) only [r1.len Try.underlying25, ld_agg ag24 cs24 CB0_1, S, S1, S2, S3, S4, S5, ST, eq_self, reduceIte, reduceCtorEq, Nat.reduceEqDiff, Nat.reduceAdd]
  refine brD.intro (fun g1 => ?_) (fun g1 => ?_) <;> simp (maxSteps := 4000000) (disch := omega) only [r1.len Try.underlying25, ld_agg ag24 cs24 CB0_1, S, S1, S2, S3, S4, S5, ST, eq_self, reduceIte, reduceCtorEq, Nat.reduceEqDiff, Nat.reduceAdd]
  · refine hQ _ _ _ ?_
    simp (maxSteps := 4000000) (disch := omega) only [ld_agg ag24 cs24 CB0_1, S, S1, S2, S3, S4, S5, ST, eq_self, reduceIte, reduceCtorEq, Nat.reduceEqDiff, Nat.reduceAdd]
  have l1 : xs1.length ≤ 1048576 := by omega
  have Ra0_0 := r0.b
  have Ra0_1 := Ra0_0.pre p1
  have Ra1_0 := r1.b
  have Ra1_1 := Ra1_0.pre p1
  refine CallH.by (szGraph_c n0 v0 xs0 (1048576) H1 Ra0_1.1 (by omega) b0.2) ?_
  rintro _ H2 ⟨rfl, p2⟩
  have Ra0_2 := Ra0_1.pre p2
  have Ra1_2 := Ra1_1.pre p2
  have CB0_2 := pre_at p2 CB0_1
  have L2 := p2.length_le
  simp (maxSteps := 4000000) (disch := omega) only [ld_agg ag24 cs24 CB0_2, S, S1, S2, S3, S4, S5, ST, eq_self, reduceIte, reduceCtorEq, Nat.reduceEqDiff, Nat.reduceAdd]
  by_cases g0 : 1048576 - (xs0.length : Int) < 0
  · rw [if_pos g0]
    try simp (maxSteps := 4000000) (disch := omega) only [ld_agg ag24 cs24 CB0_2, S, S1, S2, S3, S4, S5, ST, eq_self, reduceIte, reduceCtorEq, Nat.reduceEqDiff, Nat.reduceAdd]
    try (refine brD.intro (fun _ => ?_) (fun h => absurd h (by omega)))
    try simp (maxSteps := 4000000) (disch := omega) only [ld_agg ag24 cs24 CB0_2, S, S1, S2, S3, S4, S5, ST, eq_self, reduceIte, reduceCtorEq, Nat.reduceEqDiff, Nat.reduceAdd]
    refine hQ _ _ _ ?_
    simp (maxSteps := 4000000) (disch := omega) only [ld_agg ag24 cs24 CB0_2, S, S1, S2, S3, S4, S5, ST, eq_self, reduceIte, reduceCtorEq, Nat.reduceEqDiff, Nat.reduceAdd]
  rw [if_neg g0]
  try simp (maxSteps := 4000000) (disch := omega) only [g0, ld_agg ag24 cs24 CB0_2, S, S1, S2, S3, S4, S5, ST, eq_self, reduceIte, reduceCtorEq, Nat.reduceEqDiff, Nat.reduceAdd]
  try refine brD.intro (fun h => absurd h (by omega)) (fun _ => ?_)
  try simp (maxSteps := 4000000) (disch := omega) only [g0, ld_agg ag24 cs24 CB0_2, S, S1, S2, S3, S4, S5, ST, eq_self, reduceIte, reduceCtorEq, Nat.reduceEqDiff, Nat.reduceAdd]
  have l0 : xs0.length ≤ 1048576 := by omega
  have L0_big : xs0.length ≤ 1099511627776 := by omega
  have L1_big : xs1.length ≤ 1099511627776 := by omega
  refine CallH.by (toGraph_c n0 v0 xs0 H2 Ra0_2.1 L0_big) ?_
  rintro _ H3 ⟨c0, rfl, qc0, p3⟩
  have Ra0_3 := Ra0_2.pre p3
  have Ra1_3 := Ra1_2.pre p3
  have CB0_3 := pre_at p3 CB0_2
  have L3 := p3.length_le
  have Mc0_3 := InP.of qc0
  have Rc0_3 := Mc0_3.row
  simp (maxSteps := 4000000) (disch := omega) only [ld_agg ag24 cs24 CB0_3, S, S1, S2, S3, S4, S5, ST, eq_self, reduceIte, reduceCtorEq, Nat.reduceEqDiff, Nat.reduceAdd]
  refine CallH.by (toIntS_c v1 xs1 H3 Ra1_3.1 L1_big) ?_
  rintro c1 H4 ⟨qc1, p4⟩
  have Ra0_4 := Ra0_3.pre p4
  have Ra1_4 := Ra1_3.pre p4
  have Rc0_4 := Rc0_3.pre p4
  have Mc0_4 := Mc0_3.pre p4
  have CB0_4 := pre_at p4 CB0_3
  have L4 := p4.length_le
  have Mc1_4 := InI.of qc1.mine
  have Rc1_4 := Mc1_4.row
  simp (maxSteps := 4000000) (disch := omega) only [ld_agg ag24 cs24 CB0_4, S, S1, S2, S3, S4, S5, ST, eq_self, reduceIte, reduceCtorEq, Nat.reduceEqDiff, Nat.reduceAdd]
  refine CallH.by (LigS_c  n0 c0 c1 xs0 xs1 H4 Rc0_4.1 L0_big b0.1 Rc1_4.1 L1_big b1 bn0) ?_
  rintro _ H5 ⟨w0a, w0b, rfl, qw0, p5⟩
  have Ra0_5 := Ra0_4.pre p5
  have Ra1_5 := Ra1_4.pre p5
  have Rc0_5 := Rc0_4.pre p5
  have Rc1_5 := Rc1_4.pre p5
  have Mc0_5 := Mc0_4.pre p5
  have Mc1_5 := Mc1_4.pre p5
  have CB0_5 := pre_at p5 CB0_4
  have L5 := p5.length_le
  have Mw0_5 := qw0
  have Rw0_5 := Mw0_5.row
  have hstw0 := Rw0_5.store (at_new H5 (.cells [.slice none 0 0, .slice none 0 0] 29 false)) rfl
  simp (maxSteps := 4000000) (disch := omega) only [alloc_sp, hstw0, set_new, ld_agg ag24 cs24 CB0_5, S, S1, S2, S3, S4, S5, ST, eq_self, reduceIte, reduceCtorEq, Nat.reduceEqDiff, Nat.reduceAdd]
  generalize hXw0 : H5 ++ [AObj.cells [w0a, w0b] 29 false] = H6
  have p6 : H5 <+: H6 := by rw [← hXw0]; exact List.prefix_append _ _
  have Cw0_6 : H6[H5.length]? = some (.cells [w0a, w0b] 29 false) := by rw [← hXw0]; exact at_new ..
  have Lxw0 := at_lt Cw0_6
  have Ra0_6 := Ra0_5.pre p6
  have Ra1_6 := Ra1_5.pre p6
  have Rc0_6 := Rc0_5.pre p6
  have Rc1_6 := Rc1_5.pre p6
  have Rw0_6 := Rw0_5.pre p6
  have Mc0_6 := Mc0_5.pre p6
  have Mc1_6 := Mc1_5.pre p6
  have Mw0_6 := Mw0_5.pre p6
  have CB0_6 := pre_at p6 CB0_5
  have L6 := p6.length_le
  try simp (maxSteps := 4000000) (disch := omega) only [ld_agg ag24 cs24 CB0_6, ld_agg ag29 cs29 Cw0_6, S, S1, S2, S3, S4, S5, ST, eq_self, reduceIte, reduceCtorEq, Nat.reduceEqDiff, Nat.reduceAdd]
  refine CallH.by (toGraph_c n0 v0 xs0 H6 Ra0_6.1 L0_big) ?_
  rintro _ H7 ⟨d0, rfl, qd0, p7⟩
  have Ra0_7 := Ra0_6.pre p7
  have Ra1_7 := Ra1_6.pre p7
  have Rw0_7 := Rw0_6.pre p7
  have Mw0_7 := Mw0_6.pre p7
  have CB0_7 := pre_at p7 CB0_6
  have Cw0_7 := pre_at p7 Cw0_6
  have L7 := p7.length_le
  have Md0_7 := InP.of qd0
  have Rd0_7 := Md0_7.row
  simp (maxSteps := 4000000) (disch := omega) only [ld_agg ag24 cs24 CB0_7, ld_agg ag29 cs29 Cw0_7, S, S1, S2, S3, S4, S5, ST, eq_self, reduceIte, reduceCtorEq, Nat.reduceEqDiff, Nat.reduceAdd]
  have hst0 := st_G Rd0_7.1 (at_new H7 (.cells [.int .i64 0, .slice none 0 0] 32 false)) rfl n0
  simp (maxSteps := 4000000) (disch := omega) only [alloc_G, hst0, set_new, ld_agg ag24 cs24 CB0_7, ld_agg ag29 cs29 Cw0_7, S, S1, S2, S3, S4, S5, ST, eq_self, reduceIte, reduceCtorEq, Nat.reduceEqDiff, Nat.reduceAdd]
  generalize hX0 : H7 ++ [AObj.cells [.int .i64 n0, d0] 32 false] = H8
  have p8 : H7 <+: H8 := by rw [← hX0]; exact List.prefix_append _ _
  have CX0_8 : H8[H7.length]? = some (.cells [.int .i64 n0, d0] 32 false) := by rw [← hX0]; exact at_new ..
  have Lx := at_lt CX0_8
  have Ra0_8 := Ra0_7.pre p8
  have Ra1_8 := Ra1_7.pre p8
  have Rw0_8 := Rw0_7.pre p8
  have Rd0_8 := Rd0_7.pre p8
  have Mw0_8 := Mw0_7.pre p8
  have Md0_8 := Md0_7.pre p8
  have CB0_8 := pre_at p8 CB0_7
  have Cw0_8 := pre_at p8 Cw0_7
  have L8 := p8.length_le
  try simp (maxSteps := 4000000) (disch := omega) only [ld_agg ag24 cs24 CB0_8, ld_agg ag29 cs29 Cw0_8, ld_agg ag32 cs32 CX0_8, S, S1, S2, S3, S4, S5, ST, eq_self, reduceIte, reduceCtorEq, Nat.reduceEqDiff, Nat.reduceAdd]
  refine CallH.by (toIntS_c v1 xs1 H8 Ra1_8.1 L1_big) ?_
  rintro d1 H9 ⟨qd1, p9⟩
  have Ra0_9 := Ra0_8.pre p9
  have Ra1_9 := Ra1_8.pre p9
  have Rw0_9 := Rw0_8.pre p9
  have Rd0_9 := Rd0_8.pre p9
  have Mw0_9 := Mw0_8.pre p9
  have Md0_9 := Md0_8.pre p9
  have CB0_9 := pre_at p9 CB0_8
  have Cw0_9 := pre_at p9 Cw0_8
  have CX0_9 := pre_at p9 CX0_8
  have L9 := p9.length_le
  have Md1_9 := InI.of qd1.mine
  have Rd1_9 := Md1_9.row
  simp (maxSteps := 4000000) (disch := omega) only [ld_agg ag24 cs24 CB0_9, ld_agg ag29 cs29 Cw0_9, ld_agg ag32 cs32 CX0_9, S, S1, S2, S3, S4, S5, ST, eq_self, reduceIte, reduceCtorEq, Nat.reduceEqDiff, Nat.reduceAdd]
  refine CallH.by (LigI_c  n0 d0 d1 xs0 xs1 H9 Rd0_9.1 L0_big b0.1 Rd1_9.1 L1_big b1 bn0) ?_
  rintro _ H10 ⟨g0a, g0b, rfl, qg0, p10⟩
  have Ra0_10 := Ra0_9.pre p10
  have Ra1_10 := Ra1_9.pre p10
  have Rw0_10 := Rw0_9.pre p10
  have Rd0_10 := Rd0_9.pre p10
  have Rd1_10 := Rd1_9.pre p10
  have Mw0_10 := Mw0_9.pre p10
  have Md0_10 := Md0_9.pre p10
  have Md1_10 := Md1_9.pre p10
  have CB0_10 := pre_at p10 CB0_9
  have Cw0_10 := pre_at p10 Cw0_9
  have CX0_10 := pre_at p10 CX0_9
  have L10 := p10.length_le
  have Mg0_10 := qg0
  have Rg0_10 := Mg0_10.row
  have hstg0 := Rg0_10.store (at_new H10 (.cells [.slice none 0 0, .slice none 0 0] 29 false)) rfl
  simp (maxSteps := 4000000) (disch := omega) only [alloc_sp, hstg0, set_new, ld_agg ag24 cs24 CB0_10, ld_agg ag29 cs29 Cw0_10, ld_agg ag32 cs32 CX0_10, S, S1, S2, S3, S4, S5, ST, eq_self, reduceIte, reduceCtorEq, Nat.reduceEqDiff, Nat.reduceAdd]
  generalize hXg0 : H10 ++ [AObj.cells [g0a, g0b] 29 false] = H11
  have p11 : H10 <+: H11 := by rw [← hXg0]; exact List.prefix_append _ _
  have Cg0_11 : H11[H10.length]? = some (.cells [g0a, g0b] 29 false) := by rw [← hXg0]; exact at_new ..
  have Lxg0 := at_lt Cg0_11
  have Ra0_11 := Ra0_10.pre p11
  have Ra1_11 := Ra1_10.pre p11
  have Rw0_11 := Rw0_10.pre p11
  have Rd0_11 := Rd0_10.pre p11
  have Rd1_11 := Rd1_10.pre p11
  have Rg0_11 := Rg0_10.pre p11
  have Mw0_11 := Mw0_10.pre p11
  have Md0_11 := Md0_10.pre p11
  have Md1_11 := Md1_10.pre p11
  have Mg0_11 := Mg0_10.pre p11
  have CB0_11 := pre_at p11 CB0_10
  have Cw0_11 := pre_at p11 Cw0_10
  have CX0_11 := pre_at p11 CX0_10
  have L11 := p11.length_le
  try simp (maxSteps := 4000000) (disch := omega) only [ld_agg ag24 cs24 CB0_11, ld_agg ag29 cs29 Cw0_11, ld_agg ag32 cs32 CX0_11, ld_agg ag29 cs29 Cg0_11, S, S1, S2, S3, S4, S5, ST, eq_self, reduceIte, reduceCtorEq, Nat.reduceEqDiff, Nat.reduceAdd]
  have hR := lg_ok n0 xs0 xs1
  refine CallH.by (eqSpace_c g0a g0b w0a w0b _ _ _ _ H11 Rg0_11 Rw0_11 hR.1 (Nat.le_trans hR.2.1 (by decide)) hR.2.2) ?_
  rintro _ H12 ⟨rfl, p12⟩
  have Ra0_12 := Ra0_11.pre p12
  have Ra1_12 := Ra1_11.pre p12
  have Rw0_12 := Rw0_11.pre p12
  have Rd0_12 := Rd0_11.pre p12
  have Rd1_12 := Rd1_11.pre p12
  have Rg0_12 := Rg0_11.pre p12
  have Mw0_12 := Mw0_11.pre p12
  have Md0_12 := Md0_11.pre p12
  have Md1_12 := Md1_11.pre p12
  have Mg0_12 := Mg0_11.pre p12
  have CB0_12 := pre_at p12 CB0_11
  have Cw0_12 := pre_at p12 Cw0_11
  have CX0_12 := pre_at p12 CX0_11
  have Cg0_12 := pre_at p12 Cg0_11
  have L12 := p12.length_le
  simp (maxSteps := 4000000) (disch := omega) only [ld_agg ag24 cs24 CB0_12, ld_agg ag29 cs29 Cw0_12, ld_agg ag32 cs32 CX0_12, ld_agg ag29 cs29 Cg0_12, S, S1, S2, S3, S4, S5, ST, eq_self, reduceIte, reduceCtorEq, Nat.reduceEqDiff, Nat.reduceAdd]
  refine CallH.by (toGraph_c n0 v0 xs0 H12 Ra0_12.1 L0_big) ?_
  rintro _ H13 ⟨f0, rfl, qf0, p13⟩
  have Ra0_13 := Ra0_12.pre p13
  have Ra1_13 := Ra1_12.pre p13
  have Rw0_13 := Rw0_12.pre p13
  have Rd0_13 := Rd0_12.pre p13
  have Rd1_13 := Rd1_12.pre p13
  have Rg0_13 := Rg0_12.pre p13
  have Mw0_13 := Mw0_12.pre p13
  have Md0_13 := Md0_12.pre p13
  have Md1_13 := Md1_12.pre p13
  have Mg0_13 := Mg0_12.pre p13
  have CB0_13 := pre_at p13 CB0_12
  have Cw0_13 := pre_at p13 Cw0_12
  have CX0_13 := pre_at p13 CX0_12
  have Cg0_13 := pre_at p13 Cg0_12
  have L13 := p13.length_le
  have Mf0_13 := InP.of qf0
  have Rf0_13 := Mf0_13.row
  simp (maxSteps := 4000000) (disch := omega) only [ld_agg ag24 cs24 CB0_13, ld_agg ag29 cs29 Cw0_13, ld_agg ag32 cs32 CX0_13, ld_agg ag29 cs29 Cg0_13, S, S1, S2, S3, S4, S5, ST, eq_self, reduceIte, reduceCtorEq, Nat.reduceEqDiff, Nat.reduceAdd]
  refine CallH.by (eqGraph_c n0 n0 d0 f0 _ _ H13 Rd0_13.1 Rf0_13.1 L0_big) ?_
  rintro _ H14 ⟨rfl, p14⟩
  have Ra0_14 := Ra0_13.pre p14
  have Ra1_14 := Ra1_13.pre p14
  have Rw0_14 := Rw0_13.pre p14
  have Rd0_14 := Rd0_13.pre p14
  have Rd1_14 := Rd1_13.pre p14
  have Rg0_14 := Rg0_13.pre p14
  have Rf0_14 := Rf0_13.pre p14
  have Mw0_14 := Mw0_13.pre p14
  have Md0_14 := Md0_13.pre p14
  have Md1_14 := Md1_13.pre p14
  have Mg0_14 := Mg0_13.pre p14
  have Mf0_14 := Mf0_13.pre p14
  have CB0_14 := pre_at p14 CB0_13
  have Cw0_14 := pre_at p14 Cw0_13
  have CX0_14 := pre_at p14 CX0_13
  have Cg0_14 := pre_at p14 Cg0_13
  have L14 := p14.length_le
  simp (maxSteps := 4000000) (disch := omega) only [ld_agg ag24 cs24 CB0_14, ld_agg ag29 cs29 Cw0_14, ld_agg ag32 cs32 CX0_14, ld_agg ag29 cs29 Cg0_14, S, S1, S2, S3, S4, S5, ST, eq_self, reduceIte, reduceCtorEq, Nat.reduceEqDiff, Nat.reduceAdd]
  refine CallH.by (toIntS_c v1 xs1 H14 Ra1_14.1 L1_big) ?_
  rintro f1 H15 ⟨qf1, p15⟩
  have Ra0_15 := Ra0_14.pre p15
  have Ra1_15 := Ra1_14.pre p15
  have Rw0_15 := Rw0_14.pre p15
  have Rd0_15 := Rd0_14.pre p15
  have Rd1_15 := Rd1_14.pre p15
  have Rg0_15 := Rg0_14.pre p15
  have Mw0_15 := Mw0_14.pre p15
  have Md0_15 := Md0_14.pre p15
  have Md1_15 := Md1_14.pre p15
  have Mg0_15 := Mg0_14.pre p15
  have CB0_15 := pre_at p15 CB0_14
  have Cw0_15 := pre_at p15 Cw0_14
  have CX0_15 := pre_at p15 CX0_14
  have Cg0_15 := pre_at p15 Cg0_14
  have L15 := p15.length_le
  have Mf1_15 := InI.of qf1.mine
  have Rf1_15 := Mf1_15.row
  simp (maxSteps := 4000000) (disch := omega) only [ld_agg ag24 cs24 CB0_15, ld_agg ag29 cs29 Cw0_15, ld_agg ag32 cs32 CX0_15, ld_agg ag29 cs29 Cg0_15, S, S1, S2, S3, S4, S5, ST, eq_self, reduceIte, reduceCtorEq, Nat.reduceEqDiff, Nat.reduceAdd]
  refine CallH.by (eqIntS_c d1 f1 _ _ H15 Rd1_15.1 Rf1_15.1 L1_big) ?_
  rintro _ _ ⟨rfl, rfl⟩
  simp (maxSteps := 4000000) (disch := omega) only [ld_agg ag24 cs24 CB0_15, ld_agg ag29 cs29 Cw0_15, ld_agg ag32 cs32 CX0_15, ld_agg ag29 cs29 Cg0_15, S, S1, S2, S3, S4, S5, ST, eq_self, reduceIte, reduceCtorEq, Nat.reduceEqDiff, Nat.reduceAdd]
  refine CallH.by (markGraph_B n0 d0 _ _ _ _ H15 Md0_15 L0_big (by omega) (by omega)) ?_
  rintro _ H17 ⟨rfl, H16, n_16, e16, p17⟩
  have L16 := Nat.le_of_eq e16.1.symm
  have Ra0_16 := Ra0_15.keep e16 (by omega)
  have Ra1_16 := Ra1_15.keep e16 (by omega)
  have Mw0_16 := Mw0_15.keep e16 (by omega)
  have Rw0_16 := Mw0_16.row
  have Md1_16 := Md1_15.keep e16 (by omega)
  have Rd1_16 := Md1_16.row
  have Mg0_16 := Mg0_15.keep e16 (by omega)
  have Rg0_16 := Mg0_16.row
  have CB0_16 := e16.2 _ _ (by omega) CB0_15
  have Cw0_16 := e16.2 _ _ (by omega) Cw0_15
  have CX0_16 := e16.2 _ _ (by omega) CX0_15
  have Cg0_16 := e16.2 _ _ (by omega) Cg0_15
  have Ra0_17 := Ra0_16.pre p17
  have Ra1_17 := Ra1_16.pre p17
  have Rw0_17 := Rw0_16.pre p17
  have Rd1_17 := Rd1_16.pre p17
  have Rg0_17 := Rg0_16.pre p17
  have Mw0_17 := Mw0_16.pre p17
  have Md1_17 := Md1_16.pre p17
  have Mg0_17 := Mg0_16.pre p17
  have CB0_17 := pre_at p17 CB0_16
  have Cw0_17 := pre_at p17 Cw0_16
  have CX0_17 := pre_at p17 CX0_16
  have Cg0_17 := pre_at p17 Cg0_16
  have L17 := p17.length_le
  simp (maxSteps := 4000000) (disch := omega) only [ld_agg ag24 cs24 CB0_17, ld_agg ag29 cs29 Cw0_17, ld_agg ag32 cs32 CX0_17, ld_agg ag29 cs29 Cg0_17, S, S1, S2, S3, S4, S5, ST, eq_self, reduceIte, reduceCtorEq, Nat.reduceEqDiff, Nat.reduceAdd]
  refine CallH.by (markIntS_B d1 _ _ _ _ H17 Md1_17 L1_big (by omega)) ?_
  rintro _ H18 ⟨rfl, n_18, e18⟩
  have L18 := Nat.le_of_eq e18.1.symm
  have Ra0_18 := Ra0_17.keep e18 (by omega)
  have Ra1_18 := Ra1_17.keep e18 (by omega)
  have Mw0_18 := Mw0_17.keep e18 (by omega)
  have Rw0_18 := Mw0_18.row
  have Mg0_18 := Mg0_17.keep e18 (by omega)
  have Rg0_18 := Mg0_18.row
  have CB0_18 := e18.2 _ _ (by omega) CB0_17
  have Cw0_18 := e18.2 _ _ (by omega) Cw0_17
  have CX0_18 := e18.2 _ _ (by omega) CX0_17
  have Cg0_18 := e18.2 _ _ (by omega) Cg0_17
  simp (maxSteps := 4000000) (disch := omega) only [ld_agg ag24 cs24 CB0_18, ld_agg ag29 cs29 Cw0_18, ld_agg ag32 cs32 CX0_18, ld_agg ag29 cs29 Cg0_18, S, S1, S2, S3, S4, S5, ST, eq_self, reduceIte, reduceCtorEq, Nat.reduceEqDiff, Nat.reduceAdd]
  refine brD.intro (fun g => absurd g (by omega)) (fun gk => ?_)
  simp (maxSteps := 4000000) (disch := omega) only [gk, ld_agg ag24 cs24 CB0_18, ld_agg ag29 cs29 Cw0_18, ld_agg ag32 cs32 CX0_18, ld_agg ag29 cs29 Cg0_18, S, S1, S2, S3, S4, S5, ST, eq_self, reduceIte, reduceCtorEq, Nat.reduceEqDiff, Nat.reduceAdd]
  refine CallH.by (eqSpace_c g0a g0b w0a w0b _ _ _ _ H18 Rg0_18 Rw0_18 hR.1 (Nat.le_trans hR.2.1 (by decide)) hR.2.2) ?_
  rintro _ H19 ⟨rfl, p19⟩
  have Ra0_19 := Ra0_18.pre p19
  have Ra1_19 := Ra1_18.pre p19
  have Rw0_19 := Rw0_18.pre p19
  have Rg0_19 := Rg0_18.pre p19
  have Mw0_19 := Mw0_18.pre p19
  have Mg0_19 := Mg0_18.pre p19
  have CB0_19 := pre_at p19 CB0_18
  have Cw0_19 := pre_at p19 Cw0_18
  have CX0_19 := pre_at p19 CX0_18
  have Cg0_19 := pre_at p19 Cg0_18
  have L19 := p19.length_le
  simp (maxSteps := 4000000) (disch := omega) only [ld_agg ag24 cs24 CB0_19, ld_agg ag29 cs29 Cw0_19, ld_agg ag32 cs32 CX0_19, ld_agg ag29 cs29 Cg0_19, S, S1, S2, S3, S4, S5, ST, eq_self, reduceIte, reduceCtorEq, Nat.reduceEqDiff, Nat.reduceAdd]
  try simp (maxSteps := 4000000) (disch := omega) only [gk, ld_agg ag24 cs24 CB0_19, ld_agg ag29 cs29 Cw0_19, ld_agg ag32 cs32 CX0_19, ld_agg ag29 cs29 Cg0_19, S, S1, S2, S3, S4, S5, ST, eq_self, reduceIte, reduceCtorEq, Nat.reduceEqDiff, Nat.reduceAdd]
  refine CallH.by (markSpace_B g0a g0b _ _ 1 _ _ H19 Mg0_19 hR.1 hR.2.1 hR.2.2 (by omega) (by omega)) ?_
  rintro _ H21 ⟨rfl, H20, n_20, e20, p21⟩
  have L20 := Nat.le_of_eq e20.1.symm
  have Ra0_20 := Ra0_19.keep e20 (by omega)
  have Ra1_20 := Ra1_19.keep e20 (by omega)
  have Mw0_20 := Mw0_19.keep e20 (by omega)
  have Rw0_20 := Mw0_20.row
  have CB0_20 := e20.2 _ _ (by omega) CB0_19
  have Cw0_20 := e20.2 _ _ (by omega) Cw0_19
  have CX0_20 := e20.2 _ _ (by omega) CX0_19
  have Cg0_20 := e20.2 _ _ (by omega) Cg0_19
  have Mg0_20 := n_20
  have Rg0_20 := n_20.row
  have Ra0_21 := Ra0_20.pre p21
  have Ra1_21 := Ra1_20.pre p21
  have Rw0_21 := Rw0_20.pre p21
  have Rg0_21 := Rg0_20.pre p21
  have Mw0_21 := Mw0_20.pre p21
  have Mg0_21 := Mg0_20.pre p21
  have CB0_21 := pre_at p21 CB0_20
  have Cw0_21 := pre_at p21 Cw0_20
  have CX0_21 := pre_at p21 CX0_20
  have Cg0_21 := pre_at p21 Cg0_20
  have L21 := p21.length_le
  simp (maxSteps := 4000000) (disch := omega) only [ld_agg ag24 cs24 CB0_21, ld_agg ag29 cs29 Cw0_21, ld_agg ag32 cs32 CX0_21, ld_agg ag29 cs29 Cg0_21, S, S1, S2, S3, S4, S5, ST, eq_self, reduceIte, reduceCtorEq, Nat.reduceEqDiff, Nat.reduceAdd]
  refine CallH.by (heldSpace_c g0a g0b _ _ 1 H21 Rg0_21 hR.1 hR.2.1 hR.2.2 (by omega)) ?_
  rintro _ H22 ⟨rfl, p22⟩
  have Ra0_22 := Ra0_21.pre p22
  have Ra1_22 := Ra1_21.pre p22
  have Rw0_22 := Rw0_21.pre p22
  have Rg0_22 := Rg0_21.pre p22
  have Mw0_22 := Mw0_21.pre p22
  have Mg0_22 := Mg0_21.pre p22
  have CB0_22 := pre_at p22 CB0_21
  have Cw0_22 := pre_at p22 Cw0_21
  have CX0_22 := pre_at p22 CX0_21
  have Cg0_22 := pre_at p22 Cg0_21
  have L22 := p22.length_le
  simp (maxSteps := 4000000) (disch := omega) only [ld_agg ag24 cs24 CB0_22, ld_agg ag29 cs29 Cw0_22, ld_agg ag32 cs32 CX0_22, ld_agg ag29 cs29 Cg0_22, S, S1, S2, S3, S4, S5, ST, eq_self, reduceIte, reduceCtorEq, Nat.reduceEqDiff, Nat.reduceAdd]
  refine brD.intro (fun g => absurd g (by omega)) (fun _ => ?_)
  simp (maxSteps := 4000000) (disch := omega) only [ld_agg ag24 cs24 CB0_22, ld_agg ag29 cs29 Cw0_22, ld_agg ag32 cs32 CX0_22, ld_agg ag29 cs29 Cg0_22, S, S1, S2, S3, S4, S5, ST, eq_self, reduceIte, reduceCtorEq, Nat.reduceEqDiff, Nat.reduceAdd]
  refine CallH.by (toGraph_c n0 v0 xs0 H22 Ra0_22.1 L0_big) ?_
  rintro _ H23 ⟨e0, rfl, qe0, p23⟩
  have Ra0_23 := Ra0_22.pre p23
  have Ra1_23 := Ra1_22.pre p23
  have Rw0_23 := Rw0_22.pre p23
  have Rg0_23 := Rg0_22.pre p23
  have Mw0_23 := Mw0_22.pre p23
  have Mg0_23 := Mg0_22.pre p23
  have CB0_23 := pre_at p23 CB0_22
  have Cw0_23 := pre_at p23 Cw0_22
  have CX0_23 := pre_at p23 CX0_22
  have Cg0_23 := pre_at p23 Cg0_22
  have L23 := p23.length_le
  have Me0_23 := InP.of qe0
  have Re0_23 := Me0_23.row
  simp (maxSteps := 4000000) (disch := omega) only [ld_agg ag24 cs24 CB0_23, ld_agg ag29 cs29 Cw0_23, ld_agg ag32 cs32 CX0_23, ld_agg ag29 cs29 Cg0_23, S, S1, S2, S3, S4, S5, ST, eq_self, reduceIte, reduceCtorEq, Nat.reduceEqDiff, Nat.reduceAdd]
  refine CallH.by (toIntS_c v1 xs1 H23 Ra1_23.1 L1_big) ?_
  rintro e1 H24 ⟨qe1, p24⟩
  have Ra0_24 := Ra0_23.pre p24
  have Ra1_24 := Ra1_23.pre p24
  have Rw0_24 := Rw0_23.pre p24
  have Rg0_24 := Rg0_23.pre p24
  have Re0_24 := Re0_23.pre p24
  have Mw0_24 := Mw0_23.pre p24
  have Mg0_24 := Mg0_23.pre p24
  have Me0_24 := Me0_23.pre p24
  have CB0_24 := pre_at p24 CB0_23
  have Cw0_24 := pre_at p24 Cw0_23
  have CX0_24 := pre_at p24 CX0_23
  have Cg0_24 := pre_at p24 Cg0_23
  have L24 := p24.length_le
  have Me1_24 := InI.of qe1.mine
  have Re1_24 := Me1_24.row
  simp (maxSteps := 4000000) (disch := omega) only [ld_agg ag24 cs24 CB0_24, ld_agg ag29 cs29 Cw0_24, ld_agg ag32 cs32 CX0_24, ld_agg ag29 cs29 Cg0_24, S, S1, S2, S3, S4, S5, ST, eq_self, reduceIte, reduceCtorEq, Nat.reduceEqDiff, Nat.reduceAdd]
  refine CallH.by (LigI_c  n0 e0 e1 xs0 xs1 H24 Re0_24.1 L0_big b0.1 Re1_24.1 L1_big b1 bn0) ?_
  rintro _ H25 ⟨h0a, h0b, rfl, qh0, p25⟩
  have Ra0_25 := Ra0_24.pre p25
  have Ra1_25 := Ra1_24.pre p25
  have Rw0_25 := Rw0_24.pre p25
  have Rg0_25 := Rg0_24.pre p25
  have Re0_25 := Re0_24.pre p25
  have Re1_25 := Re1_24.pre p25
  have Mw0_25 := Mw0_24.pre p25
  have Mg0_25 := Mg0_24.pre p25
  have Me0_25 := Me0_24.pre p25
  have Me1_25 := Me1_24.pre p25
  have CB0_25 := pre_at p25 CB0_24
  have Cw0_25 := pre_at p25 Cw0_24
  have CX0_25 := pre_at p25 CX0_24
  have Cg0_25 := pre_at p25 Cg0_24
  have L25 := p25.length_le
  have Mh0_25 := qh0
  have Rh0_25 := Mh0_25.row
  have hsth0 := Rh0_25.store (at_new H25 (.cells [.slice none 0 0, .slice none 0 0] 29 false)) rfl
  simp (maxSteps := 4000000) (disch := omega) only [alloc_sp, hsth0, set_new, ld_agg ag24 cs24 CB0_25, ld_agg ag29 cs29 Cw0_25, ld_agg ag32 cs32 CX0_25, ld_agg ag29 cs29 Cg0_25, S, S1, S2, S3, S4, S5, ST, eq_self, reduceIte, reduceCtorEq, Nat.reduceEqDiff, Nat.reduceAdd]
  generalize hXh0 : H25 ++ [AObj.cells [h0a, h0b] 29 false] = H26
  have p26 : H25 <+: H26 := by rw [← hXh0]; exact List.prefix_append _ _
  have Ch0_26 : H26[H25.length]? = some (.cells [h0a, h0b] 29 false) := by rw [← hXh0]; exact at_new ..
  have Lxh0 := at_lt Ch0_26
  have Ra0_26 := Ra0_25.pre p26
  have Ra1_26 := Ra1_25.pre p26
  have Rw0_26 := Rw0_25.pre p26
  have Rg0_26 := Rg0_25.pre p26
  have Re0_26 := Re0_25.pre p26
  have Re1_26 := Re1_25.pre p26
  have Rh0_26 := Rh0_25.pre p26
  have Mw0_26 := Mw0_25.pre p26
  have Mg0_26 := Mg0_25.pre p26
  have Me0_26 := Me0_25.pre p26
  have Me1_26 := Me1_25.pre p26
  have Mh0_26 := Mh0_25.pre p26
  have CB0_26 := pre_at p26 CB0_25
  have Cw0_26 := pre_at p26 Cw0_25
  have CX0_26 := pre_at p26 CX0_25
  have Cg0_26 := pre_at p26 Cg0_25
  have L26 := p26.length_le
  try simp (maxSteps := 4000000) (disch := omega) only [ld_agg ag24 cs24 CB0_26, ld_agg ag29 cs29 Cw0_26, ld_agg ag32 cs32 CX0_26, ld_agg ag29 cs29 Cg0_26, ld_agg ag29 cs29 Ch0_26, S, S1, S2, S3, S4, S5, ST, eq_self, reduceIte, reduceCtorEq, Nat.reduceEqDiff, Nat.reduceAdd]
  refine CallH.by (eqSpace_c h0a h0b w0a w0b _ _ _ _ H26 Rh0_26 Rw0_26 hR.1 (Nat.le_trans hR.2.1 (by decide)) hR.2.2) ?_
  rintro _ H27 ⟨rfl, p27⟩
  have Ra0_27 := Ra0_26.pre p27
  have Ra1_27 := Ra1_26.pre p27
  have Rw0_27 := Rw0_26.pre p27
  have Rg0_27 := Rg0_26.pre p27
  have Re0_27 := Re0_26.pre p27
  have Re1_27 := Re1_26.pre p27
  have Rh0_27 := Rh0_26.pre p27
  have Mw0_27 := Mw0_26.pre p27
  have Mg0_27 := Mg0_26.pre p27
  have Me0_27 := Me0_26.pre p27
  have Me1_27 := Me1_26.pre p27
  have Mh0_27 := Mh0_26.pre p27
  have CB0_27 := pre_at p27 CB0_26
  have Cw0_27 := pre_at p27 Cw0_26
  have CX0_27 := pre_at p27 CX0_26
  have Cg0_27 := pre_at p27 Cg0_26
  have Ch0_27 := pre_at p27 Ch0_26
  have L27 := p27.length_le
  simp (maxSteps := 4000000) (disch := omega) only [ld_agg ag24 cs24 CB0_27, ld_agg ag29 cs29 Cw0_27, ld_agg ag32 cs32 CX0_27, ld_agg ag29 cs29 Cg0_27, ld_agg ag29 cs29 Ch0_27, S, S1, S2, S3, S4, S5, ST, eq_self, reduceIte, reduceCtorEq, Nat.reduceEqDiff, Nat.reduceAdd]
  refine CallH.by (heldSpace_c g0a g0b _ _ 1 H27 Rg0_27 hR.1 hR.2.1 hR.2.2 (by omega)) ?_
  rintro _ H28 ⟨rfl, p28⟩
  have Ra0_28 := Ra0_27.pre p28
  have Ra1_28 := Ra1_27.pre p28
  have Rw0_28 := Rw0_27.pre p28
  have Rg0_28 := Rg0_27.pre p28
  have Re0_28 := Re0_27.pre p28
  have Re1_28 := Re1_27.pre p28
  have Rh0_28 := Rh0_27.pre p28
  have Mw0_28 := Mw0_27.pre p28
  have Mg0_28 := Mg0_27.pre p28
  have Me0_28 := Me0_27.pre p28
  have Me1_28 := Me1_27.pre p28
  have Mh0_28 := Mh0_27.pre p28
  have CB0_28 := pre_at p28 CB0_27
  have Cw0_28 := pre_at p28 Cw0_27
  have CX0_28 := pre_at p28 CX0_27
  have Cg0_28 := pre_at p28 Cg0_27
  have Ch0_28 := pre_at p28 Ch0_27
  have L28 := p28.length_le
  simp (maxSteps := 4000000) (disch := omega) only [ld_agg ag24 cs24 CB0_28, ld_agg ag29 cs29 Cw0_28, ld_agg ag32 cs32 CX0_28, ld_agg ag29 cs29 Cg0_28, ld_agg ag29 cs29 Ch0_28, S, S1, S2, S3, S4, S5, ST, eq_self, reduceIte, reduceCtorEq, Nat.reduceEqDiff, Nat.reduceAdd]
  refine brD.intro (fun g => absurd g (by omega)) (fun _ => ?_)
  simp (maxSteps := 4000000) (disch := omega) only [ld_agg ag24 cs24 CB0_28, ld_agg ag29 cs29 Cw0_28, ld_agg ag32 cs32 CX0_28, ld_agg ag29 cs29 Cg0_28, ld_agg ag29 cs29 Ch0_28, S, S1, S2, S3, S4, S5, ST, eq_self, reduceIte, reduceCtorEq, Nat.reduceEqDiff, Nat.reduceAdd]
  refine hQ _ _ _ ?_
  simp (maxSteps := 4000000) (disch := omega) only [ld_agg ag24 cs24 CB0_28, ld_agg ag29 cs29 Cw0_28, ld_agg ag32 cs32 CX0_28, ld_agg ag29 cs29 Cg0_28, ld_agg ag29 cs29 Ch0_28, S, S1, S2, S3, S4, S5, ST, eq_self, reduceIte, reduceCtorEq, Nat.reduceEqDiff, Nat.reduceAdd]
end Go.Proofs.Ytlcipphiflcaiaa.Ai
