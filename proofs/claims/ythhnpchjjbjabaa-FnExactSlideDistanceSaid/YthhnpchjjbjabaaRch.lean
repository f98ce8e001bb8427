/- All boards that moves reach, with a map and a queue of boards (impl.reached). -/
import Derived.Test.YthhnpchjjbjabaaKey
import Derived.Test.YthhnpchjjbjabaaRep
import Derived.Test.YthhnpchjjbjabaaAppL
import Derived.Test.YthhnpchjjbjabaaProg
import Derived.Test.YthhnpchjjbjabaaAiM2
import Derived.KernelRfl
/- Slim code of this translation. By the kernel. -/
namespace Go.Proofs.Ythhnpchjjbjabaa.Ai
open Go

/- loop.example/g01128/impl.reached -/
def ords71 : List (Nat × List (Nat × Bool)) := []
def cd71 : Cd := (.seq (.reg [⟨⟨some 4, Op.assign (Operand.const (Value.map none)), none⟩, []⟩]) (.seq (.reg [⟨⟨some 12, Op.makeMap 70 none, none⟩, []⟩,
  ⟨⟨some 13, Op.move (Operand.tmp 0), none⟩, []⟩,
  ⟨⟨some 14, Op.call { callee := (Callee.value (Operand.func 86)), args := #[(Operand.tmp 13)], argTypes := #[32] }, none⟩, []⟩,
  ⟨⟨none, Op.insert 70 (Operand.tmp 12) (Operand.tmp 14) (Operand.const (Value.int IntKind.i64 0)), none⟩, []⟩,
  ⟨⟨some 15, Op.move (Operand.tmp 12), none⟩, []⟩,
  ⟨⟨some 16, Op.move (Operand.tmp 0), none⟩, []⟩,
  ⟨⟨some 17, Op.buildSlice 38 1 #[(0, (Operand.tmp 16))], none⟩, []⟩,
  ⟨⟨some 5, Op.assign (Operand.tmp 15), none⟩, []⟩,
  ⟨⟨some 6, Op.assign (Operand.tmp 17), none⟩, []⟩]) (.seq (.block 0 (.loop (.seq (.seq (.reg [⟨⟨some 18, Op.move (Operand.tmp 6), none⟩, []⟩,
  ⟨⟨some 19, Op.call { callee := (Callee.builtin Builtin.len), args := #[(Operand.tmp 18)], argTypes := #[38] }, none⟩, []⟩,
  ⟨⟨some 20, Op.binOp BinOp.gtr 3 (Operand.tmp 19) (Operand.const (Value.int IntKind.i64 0)) 3, none⟩, []⟩]) (.cond (Operand.tmp 20) .skip (.exit 0))) (.block 1 (.seq (.reg [⟨⟨some 21, Op.move (Operand.tmp 6), none⟩, []⟩,
  ⟨⟨some 22, Op.indexAddr 38 (Operand.tmp 21) (Operand.const (Value.int IntKind.i64 0)), none⟩, []⟩,
  ⟨⟨some 23, Op.load 32 (Operand.tmp 22), none⟩, []⟩,
  ⟨⟨some 7, Op.assign (Operand.tmp 23), none⟩, []⟩]) (.seq (.reg [⟨⟨some 24, Op.move (Operand.tmp 6), none⟩, []⟩,
  ⟨⟨some 25, Op.slice 38 (Operand.tmp 24) (some (Operand.const (Value.int IntKind.i64 1))) none none, none⟩, []⟩,
  ⟨⟨some 6, Op.assign (Operand.tmp 25), none⟩, []⟩]) (.seq (.reg [⟨⟨some 26, Op.move (Operand.tmp 1), none⟩, []⟩,
  ⟨⟨some 27, Op.move (Operand.tmp 7), none⟩, []⟩,
  ⟨⟨some 28, Op.call { callee := (Callee.value (Operand.tmp 26)), args := #[(Operand.tmp 27)], argTypes := #[32] }, none⟩, []⟩,
  ⟨⟨some 29, Op.call { callee := (Callee.builtin Builtin.len), args := #[(Operand.tmp 28)], argTypes := #[38] }, none⟩, []⟩,
  ⟨⟨some 30, Op.move (Operand.const (Value.int IntKind.i64 0)), none⟩, []⟩]) (.block 2 (.loop (.seq (.reg [⟨⟨some 31, Op.binOp BinOp.lss 3 (Operand.tmp 30) (Operand.tmp 29) 3, none⟩, []⟩]) (.seq (.cond (Operand.tmp 31) .skip (.exit 2)) (.seq (.block 3 (.seq (.reg [⟨⟨some 32, Op.indexAddr 38 (Operand.tmp 28) (Operand.tmp 30), none⟩, []⟩,
  ⟨⟨some 33, Op.load 32 (Operand.tmp 32), none⟩, []⟩,
  ⟨⟨some 9, Op.assign (Operand.tmp 33), none⟩, []⟩]) (.seq (.reg [⟨⟨some 35, Op.move (Operand.tmp 5), none⟩, []⟩,
  ⟨⟨some 36, Op.move (Operand.tmp 9), none⟩, []⟩,
  ⟨⟨some 37, Op.call { callee := (Callee.value (Operand.func 86)), args := #[(Operand.tmp 36)], argTypes := #[32] }, none⟩, []⟩,
  ⟨⟨some 38, Op.lookup 70 (Operand.tmp 35) (Operand.tmp 37) true, none⟩, []⟩,
  ⟨⟨some 34, Op.move (Operand.tmp 38), none⟩, []⟩,
  ⟨⟨some 39, Op.extract (Operand.tmp 34) 0, none⟩, []⟩,
  ⟨⟨some 40, Op.extract (Operand.tmp 34) 1, none⟩, []⟩,
  ⟨⟨some 10, Op.assign (Operand.tmp 39), none⟩, []⟩,
  ⟨⟨some 11, Op.assign (Operand.tmp 40), none⟩, []⟩]) (.seq (.reg [⟨⟨some 41, Op.move (Operand.tmp 11), none⟩, []⟩,
  ⟨⟨some 42, Op.unOp UnOp.not 4 (Operand.tmp 41), none⟩, []⟩]) (.cond (Operand.tmp 42) (.seq (.reg [⟨⟨some 43, Op.move (Operand.tmp 5), none⟩, []⟩,
  ⟨⟨some 44, Op.move (Operand.tmp 9), none⟩, []⟩,
  ⟨⟨some 45, Op.call { callee := (Callee.value (Operand.func 86)), args := #[(Operand.tmp 44)], argTypes := #[32] }, none⟩, []⟩,
  ⟨⟨some 46, Op.move (Operand.tmp 5), none⟩, []⟩,
  ⟨⟨some 47, Op.move (Operand.tmp 7), none⟩, []⟩,
  ⟨⟨some 48, Op.call { callee := (Callee.value (Operand.func 86)), args := #[(Operand.tmp 47)], argTypes := #[32] }, none⟩, []⟩,
  ⟨⟨some 49, Op.lookup 70 (Operand.tmp 46) (Operand.tmp 48) false, none⟩, []⟩,
  ⟨⟨some 50, Op.binOp BinOp.add 3 (Operand.tmp 49) (Operand.const (Value.int IntKind.i64 1)) 3, none⟩, []⟩,
  ⟨⟨none, Op.mapUpdate 70 (Operand.tmp 43) (Operand.tmp 45) (Operand.tmp 50), none⟩, []⟩]) (.reg [⟨⟨some 51, Op.move (Operand.tmp 6), none⟩, []⟩,
  ⟨⟨some 52, Op.move (Operand.tmp 9), none⟩, []⟩,
  ⟨⟨some 53, Op.buildSlice 38 1 #[(0, (Operand.tmp 52))], none⟩, []⟩,
  ⟨⟨some 54, Op.call { callee := (Callee.builtin Builtin.append), args := #[(Operand.tmp 51), (Operand.tmp 53)], argTypes := #[38, 38] }, none⟩, []⟩,
  ⟨⟨some 6, Op.assign (Operand.tmp 54), none⟩, []⟩])) .skip))))) (.reg [⟨⟨some 55, Op.binOp BinOp.add 3 (Operand.tmp 30) (Operand.const (Value.int IntKind.i64 1)) 3, none⟩, []⟩,
  ⟨⟨some 30, Op.move (Operand.tmp 55), none⟩, []⟩]))))))))))))) (.seq (.reg [⟨⟨some 56, Op.move (Operand.tmp 5), none⟩, []⟩,
  ⟨⟨some 4, Op.assign (Operand.tmp 56), none⟩, []⟩]) .ret))))
theorem sl71 : slim Try.f71.ntmps ords71 (Try.f71.body.getD .skip) = some cd71 := by kernel_rfl
theorem in71 {args : List Value} {H : AH} {R : Value → AH → Prop} (hl : args.length = 2) (h : ∀ (Q : Exit → Sl → AH → Prop), (∀ e s H, endA Try.prog [ResultVar.tmp 4] R e s H → Q e s H) → wpC Try.prog cd71 Q (enterA args) H) : ACalls Try.prog 71 args H R :=
  ACalls.intro (by kernel_rfl) Try.func71 rfl (by kernel_rfl) sl71 hl (of_decide_eq_true (by kernel_rfl)) (by kernel_rfl) h
end Go.Proofs.Ythhnpchjjbjabaa.Ai

namespace Go.Proofs.Ythhnpchjjbjabaa.Ai
open Go Go.RowKit
set_option linter.unusedVariables false
set_option linter.unusedSimpArgs false

/-- an object that is no row of ints -/
def NoInt (x : AObj) : Prop := ∀ vs ro, x ≠ .cells vs 3 ro
theorem Row.ne {H : AH} {v : Value} {xs : List Int} (h : Row 3 H v xs) {o : Nat} {x : AObj} (ho : H[o]? = some x) (hx : NoInt x) : v = .slice none 0 0 ∨ rowO v ≠ o := by
  rcases h with h | ⟨o', k, vs, ro, h1, h2, _⟩
  · exact .inl h.1
  · refine .inr fun e => ?_
    rw [h1] at e
    have e' : o' = o := e
    rw [e', ho] at h2
    exact hx vs ro (by simpa using h2)
theorem Row.but {H H' : AH} {v : Value} {xs : List Int} (h : Row 3 H v xs) {o : Nat} {x : AObj} (ho : H[o]? = some x) (hx : NoInt x) (hk : ∀ (j : Nat) (y : AObj), j ≠ o → H[j]? = some y → H'[j]? = some y) : Row 3 H' v xs := by
  rcases h.ne ho hx with g | g
  · exact .inl ⟨g, h.nilv g⟩
  · exact h.mono fun y hy => hk _ _ g hy
theorem noInt_mp (l : List (Value × Value)) : NoInt (.mp l) := fun vs ro h => by cases h
theorem noInt_ll (vs : List Value) (ro : Bool) : NoInt (.cells vs 32 ro) := fun ws r h => by
  simp only [AObj.cells.injEq] at h
  exact absurd h.2.1 (by decide)
theorem bsRowQ {H0 : AH} {v : Value} {xs : List Int} (h : Row 3 H0 v xs) (K : AH) : buildSliceA Try.prog 38 1 [(0, v)] K = some (.slice (some ⟨K.length, 0, none⟩) 1 1, K ++ [.cells [v] 32 false]) := by
  obtain ⟨q, eq⟩ := h.shape
  rw [eq]
  exact bs1 Try.underlying38 cs32 ze32 ⟨by kernel_rfl, by kernel_rfl⟩ K rfl

/-- appending to a part of an object of values -/
theorem app_qV {P : Program} {t e : TypeId} (hu : P.underlying t = some (.slice e)) (hc : P.cellsOf e = 1) (hby : P.bytesOf e ≤ 64) (hz : zeroOk P e = true) {H : AH} {o k n c : Nat} {zs : List Value} {x : Value} (ho : H[o]? = some (.cells zs e false)) (hn : k + n ≤ zs.length) (hb : n ≤ 1099511627775) :
    appendA P t t (.slice (some ⟨o, k, none⟩) n c) (.slice (some ⟨H.length, 0, none⟩) 1 1) (H ++ [.cells [x] e false]) = some (.slice (some ⟨H.length + 1, 0, none⟩) (n + 1) (n + 1), H.set o .dead ++ [.cells [x] e false, .cells ((zs.drop k).take n ++ [x]) e false]) := by
  have hlt : o < H.length := at_lt ho
  have hb2 : (n + 1) * P.bytesOf e ≤ 140737488355328 := by
    refine Nat.le_trans (Nat.mul_le_mul_left _ hby) ?_
    omega
  have ho2 : (H ++ [AObj.cells [x] e false])[o]? = some (.cells zs e false) := at_app ho _
  have hsc : sliceCells P e (.slice (some ⟨H.length, 0, none⟩) 1 1) (H ++ [.cells [x] e false]) = some (1, [x]) := by
    simp only [sliceCells, at_new, hc]; simp
  simp only [appendA, hu, hc, hsc, ho2, hz]
  rw [if_pos (by simp), if_neg (by simp), if_pos ⟨trivial, by omega, hb2, by omega, trivial⟩]
  rw [Nat.mul_one, List.length_append, List.set_append_left _ _ hlt]
  simp

/-- a queue of boards in the heap -/
def QV (H : AH) (oq kq nq : Nat) (bs : List (List Int)) : Prop :=
  ∃ zs, H[oq]? = some (.cells zs 32 false) ∧ kq + nq ≤ zs.length ∧ nq = bs.length ∧ ∀ j, j < nq → Row 3 H (zs.getD (kq + j) undef) (bs.getD j [])
theorem QV.tail {H : AH} {oq kq nq : Nat} {b : List Int} {bs : List (List Int)} (h : QV H oq kq nq (b :: bs)) : QV H oq (kq + 1) (nq - 1) bs ∧ 0 < nq ∧ ∃ u, cellA H oq kq = some u ∧ Row 3 H u b := by
  obtain ⟨zs, h1, h2, h3, h4⟩ := h
  rw [List.length_cons] at h3
  refine ⟨⟨zs, h1, by omega, by omega, fun j hj => ?_⟩, by omega, zs.getD kq undef, ?_, ?_⟩
  · have := h4 (j + 1) (by omega)
    rw [show kq + (j + 1) = kq + 1 + j by omega] at this
    simpa using this
  · rw [cell_of h1]
    have : kq < zs.length := by omega
    simp [this]
  · have := h4 0 (by omega)
    simpa using this
theorem QV.but {H H' : AH} {oq kq nq : Nat} {bs : List (List Int)} (h : QV H oq kq nq bs) {o : Nat} {x : AObj} (ho : H[o]? = some x) (hx : NoInt x) (hq : oq ≠ o) (hk : ∀ (j : Nat) (y : AObj), j ≠ o → H[j]? = some y → H'[j]? = some y) : QV H' oq kq nq bs := by
  obtain ⟨zs, h1, h2, h3, h4⟩ := h
  exact ⟨zs, hk _ _ hq h1, h2, h3, fun j hj => (h4 j hj).but ho hx hk⟩
theorem QV.pre {H H' : AH} {oq kq nq : Nat} {bs : List (List Int)} (h : QV H oq kq nq bs) (hp : H <+: H') : QV H' oq kq nq bs := by
  obtain ⟨zs, h1, h2, h3, h4⟩ := h
  exact ⟨zs, pre_at hp h1, h2, h3, fun j hj => (h4 j hj).pre hp⟩
theorem QV.push {H : AH} {oq kq nq : Nat} {bs : List (List Int)} (h : QV H oq kq nq bs) {x : Value} {b : List Int} (hx : Row 3 H x b) (hb : nq ≤ 1099511627775) :
    ∃ H2, appendA Try.prog 38 38 (.slice (some ⟨oq, kq, none⟩) nq nq) (.slice (some ⟨H.length, 0, none⟩) 1 1) (H ++ [.cells [x] 32 false]) = some (.slice (some ⟨H.length + 1, 0, none⟩) (nq + 1) (nq + 1), H2) ∧
      QV H2 (H.length + 1) 0 (nq + 1) (bs ++ [b]) ∧ H2.length = H.length + 2 ∧ (∀ (j : Nat) (y : AObj), j ≠ oq → H[j]? = some y → H2[j]? = some y) := by
  obtain ⟨zs, h1, h2, h3, h4⟩ := h
  have k1 := app_qV (P := Try.prog) (t := 38) (k := kq) (n := nq) (c := nq) (x := x) Try.underlying38 cs32 (by rw [by32]; decide) zk32 h1 h2 hb
  have keep : ∀ (j : Nat) (y : AObj), j ≠ oq → H[j]? = some y → (H.set oq .dead ++ [AObj.cells [x] 32 false, .cells ((zs.drop kq).take nq ++ [x]) 32 false])[j]? = some y := fun j y hj hy => at_old hy (fun e => hj e.symm) _
  refine ⟨_, k1, ⟨(zs.drop kq).take nq ++ [x], at_new1 .., by simp; omega, by simp; omega, fun j hj => ?_⟩, by simp, keep⟩
  have hl : ((zs.drop kq).take nq).length = nq := by simp; omega
  rw [Nat.zero_add, List.getD_eq_getElem?_getD, List.getElem?_append, hl]
  by_cases hj2 : j < nq
  · have := h4 j hj2
    rw [if_pos hj2, List.getElem?_take, if_pos hj2, List.getElem?_drop, ← List.getD_eq_getElem?_getD]
    have e : (bs ++ [b]).getD j [] = bs.getD j [] := by
      rw [List.getD_eq_getElem?_getD, List.getElem?_append_left (by omega), ← List.getD_eq_getElem?_getD]
    rw [e]
    exact this.but h1 (noInt_ll _ _) keep
  · have e : (bs ++ [b]).getD j [] = b := by
      rw [List.getD_eq_getElem?_getD, List.getElem?_append_right (by omega), show j - bs.length = 0 by omega]; rfl
    rw [if_neg hj2, e, show j - nq = 0 by omega]
    exact hx.but h1 (noInt_ll _ _) keep

/-- what a map of boards says -/
def mpB (st : List (List Int × Int)) : List (Int × Int) := st.map fun e => (keyL e.1, e.2)
theorem mpB_snoc (st : List (List Int × Int)) (b : List Int) (d : Int) : mpB (st ++ [(b, d)]) = mpB st ++ [(keyL b, d)] := by simp [mpB]
theorem getI_bd {n : Nat} {b : List Int} (hb : Bd n b) : ∀ (st : List (List Int × Int)), (∀ e ∈ st, Bd n e.1) → getI (mpB st) (keyL b) = bdD st b
  | [], _ => rfl
  | e :: st, h => by
    have ih := getI_bd hb st (fun x hx => h x (by simp [hx]))
    have he := h e (by simp)
    unfold getI bdD mpB at *
    rw [List.map_cons, List.find?_cons, List.find?_cons]
    by_cases g : e.1 = b
    · rw [decide_eq_true (show keyL e.1 = keyL b by rw [g]), decide_eq_true g]; rfl
    · rw [decide_eq_false (fun q => g (key_inj he.1 hb.1 (by rw [he.2, hb.2]) q)), decide_eq_false g]
      exact ih
theorem keys_bd {n : Nat} {b : List Int} (hb : Bd n b) {st : List (List Int × Int)} (h : ∀ e ∈ st, Bd n e.1) : keyL b ∈ (mpB st).map (·.1) ↔ b ∈ st.map (·.1) := by
  unfold mpB
  rw [List.map_map, List.mem_map, List.mem_map]
  constructor
  · rintro ⟨e, he, q⟩
    have h1 := h e he
    exact ⟨e, he, key_inj h1.1 hb.1 (by rw [h1.2, hb.2]) q⟩
  · rintro ⟨e, he, q⟩
    exact ⟨e, he, by rw [← q]; rfl⟩
theorem bdD_isSome {st : List (List Int × Int)} {b : List Int} : (bdD st b).isSome = decide (b ∈ st.map (·.1)) := by
  by_cases h : b ∈ st.map (·.1)
  · rw [decide_eq_true h]
    cases hd : bdD st b with
    | some d => rfl
    | none =>
      exfalso
      unfold bdD at hd
      rw [Option.map_eq_none_iff, List.find?_eq_none] at hd
      obtain ⟨e, h1, h2⟩ := List.mem_map.1 h
      have := hd e h1
      simp only [decide_eq_true_eq] at this
      exact this h2
  · rw [decide_eq_false h, bdD_none h]; rfl

/-- moves: a function of the program's -/
def MvFn (HB : AH) (n : Nat) (fM : FuncId) (fs caps : List Value) (nx : List Int → List (List Int)) : Prop :=
  ∀ (w : Value) (b : List Int) (H : AH), HB <+: H → Row 3 H w b → Bd n b → ACalls Try.prog fM (fs ++ (w :: caps)) H fun r H' => InL H.length H'.length 32 3 H' r (nx b) ∧ H <+: H'
theorem InL.frameQ {lo hi q : Nat} {e2 e : TypeId} {H H' : AH} {v : Value} {ls : List (List Int)} (h : InL lo hi e2 e H v ls) (hq : q < lo ∨ hi ≤ q) (hh : ∀ (j : Nat) (y : AObj), j ≠ q → H[j]? = some y → H'[j]? = some y) : InL lo hi e2 e H' v ls := by
  rcases h with h | ⟨o, us, h1, h2⟩
  · exact .inl h
  · exact .inr ⟨o, us, h1, h2.moveq (h2.away hq) hh⟩
/-- what holds while new boards of a list are put in -/
structure BdS (n : Nat) (nx : List Int → List (List Int)) (p : List Int) (st0 st : List (List Int × Int)) : Prop where
  ok : ∀ e ∈ st, Bd n e.1
  nd : (st.map (·.1)).Nodup
  pre : st0 <+: st

set_option maxRecDepth 20000 in
set_option maxHeartbeats 8000000 in
theorem reached_c {HB H : AH} {n : Nat} (hn : n ≤ 6) {v : Value} {p : List Int} (hr : Row 3 H v p) (hp : Bd n p) (fM : FuncId) (fs caps : List Value) (nx : List Int → List (List Int)) (hM : MvFn HB n fM fs caps nx)
    (hnx : ∀ b, Bd n b → ∀ c ∈ nx b, Bd n c) (hnl : ∀ b, (nx b).length ≤ 1000000) (hB : HB <+: H) :
    ACalls Try.prog 71 [v, .func (.func fM) (List.toArray fs) (List.toArray caps)] H fun r H' => (∃ o, r = .map (some o) ∧ H'[o]? = some (.mp (mpI (mpB (bdA nx p)))) ∧ H.length ≤ o) ∧ H <+: H' := by
  refine in71 rfl ?_
  intro Q hQ
  simp (maxSteps := 1000000) (disch := omega) only [cd71, makeMapA, S, S1, S2, S3, S4, S5, ST, eq_self, reduceIte, reduceCtorEq, Nat.reduceEqDiff, Nat.reduceAdd]
  generalize hA : H ++ [AObj.mp []] = A
  have pA : H <+: A := by rw [← hA]; exact List.prefix_append _ _
  have cA : A[H.length]? = some (.mp (mpI [])) := by rw [← hA]; exact at_new ..
  have lA : A.length = H.length + 1 := by rw [← hA]; simp
  refine CallH.by (key_c v p A (hr.pre pA) hp.1) ?_
  rintro _ _ ⟨rfl, rfl⟩
  have hu0 := updI cA (k := keyL p) (by simp) 0
  rw [List.nil_append] at hu0
  simp (maxSteps := 1000000) (disch := omega) only [hu0, S, S1, S2, S3, S4, S5, ST, eq_self, reduceIte, reduceCtorEq, Nat.reduceEqDiff, Nat.reduceAdd]
  generalize hB1 : A.set H.length (.mp (mpI [(keyL p, 0)])) = B
  have pB : H <+: B := by rw [← hB1]; exact pre_set pA (Nat.le_refl _) _
  have cB : B[H.length]? = some (.mp (mpI (mpB [(p, 0)]))) := by rw [← hB1, List.getElem?_set_self (by omega)]; rfl
  have lB : B.length = A.length := by rw [← hB1]; simp
  have rB := hr.pre pB
  simp (maxSteps := 1000000) (disch := omega) only [bsRowQ rB, S, S1, S2, S3, S4, S5, ST, eq_self, reduceIte, reduceCtorEq, Nat.reduceEqDiff, Nat.reduceAdd]
  generalize hC : B ++ [AObj.cells [v] 32 false] = C
  have pC : B <+: C := by rw [← hC]; exact List.prefix_append _ _
  have cC : C[B.length]? = some (.cells [v] 32 false) := by rw [← hC]; exact at_new ..
  have rC := rB.pre pC
  have q0 : QV C B.length 0 1 [p] := ⟨[v], cC, by simp, rfl, fun j hj => by
    obtain rfl : j = 0 := by omega
    exact rC⟩
  refine LoopH.by (fun m s H' => ∃ (st : List (List Int × Int)) (k oq kq nq : Nat), m + k = 721 ∧ s 1 = .func (.func fM) (List.toArray fs) (List.toArray caps) ∧ s 5 = .map (some H.length) ∧ s 6 = .slice (some ⟨oq, kq, none⟩) nq nq ∧ BdI n nx p st k ∧ bdF nx m st k = bdA nx p ∧
    H'[H.length]? = some (.mp (mpI (mpB st))) ∧ QV H' oq kq nq ((st.drop k).map (·.1)) ∧ H.length < oq ∧ H <+: H') 721 ?_ ?_
  · exact ⟨[(p, 0)], 0, B.length, 0, 1, rfl, rfl, rfl, rfl, BdI.zero hp, rfl, pre_at pC cB, q0, by omega, pB.trans pC⟩
  rintro m s H' ⟨st, k, oq, kq, nq, hm, h1, h5, h6, hI, hF, hMap, hQ', hoq, hpp⟩
  have hle := hI.len_le hn
  have hmn := mny_le hn
  have hnq : nq = st.length - k := by
    obtain ⟨zs, _, _, h3, _⟩ := hQ'
    rw [h3]; simp
  simp (maxSteps := 1000000) (disch := omega) only [h1, h5, h6, S, S1, S2, S3, S4, S5, ST, eq_self, reduceIte, reduceCtorEq, Nat.reduceEqDiff, Nat.reduceAdd]
  refine brD.intro (fun g => ?_) (fun g => ?_)
  rotate_left
  · simp (maxSteps := 1000000) (disch := omega) only [h5, S, S1, S2, S3, S4, S5, ST, eq_self, reduceIte, reduceCtorEq, Nat.reduceEqDiff, Nat.reduceAdd]
    refine hQ _ _ _ ?_
    simp (maxSteps := 1000000) (disch := omega) only [h5, S, S1, S2, S3, S4, S5, ST, eq_self, reduceIte, reduceCtorEq, Nat.reduceEqDiff, Nat.reduceAdd]
    rw [bdF_done nx m st k (by omega)] at hF
    rw [← hF]
    exact ⟨rfl, ⟨H.length, rfl, hMap, Nat.le_refl _⟩, hpp⟩
  have hk : k < st.length := by omega
  obtain ⟨f, rfl⟩ : ∃ f, m = f + 1 := ⟨m - 1, by omega⟩
  rw [bdF_step nx f st k hk] at hF
  have hum : st.getD k ([], 0) ∈ st := by simp [hk]
  have hstep := hI.step hnx hk
  have hur := hI.rng _ hum
  rw [List.drop_eq_getElem_cons hk, List.map_cons] at hQ'
  have hge : st[k] = st.getD k ([], 0) := by simp [hk]
  rw [hge] at hQ'
  have hbd := hI.ok _ hum
  generalize hu : st.getD k ([], 0) = e0 at *
  obtain ⟨b, d0⟩ := e0
  obtain ⟨hQt, hnq0, u, hcu, hru⟩ := hQ'.tail
  have hqo : ∃ zs, H'[oq]? = some (.cells zs 32 false) := by obtain ⟨zs, g1, _⟩ := hQ'; exact ⟨zs, g1⟩
  obtain ⟨zs0, hqo⟩ := hqo
  have hsl := sl_own (P := Try.prog) (t := 38) (k := kq) (n := nq) (c := nq) Try.underlying38 cs32 hqo (bound_some (k := .i64) (i := 1) (by decide) 0) (hi_none nq) (show (1 : Int).toNat ≤ nq from hnq0) (Nat.le_refl _)
  have h11 : (1 : Int).toNat = 1 := rfl
  rw [h11] at hsl
  have z0 : (0 : Int).toNat = 0 := rfl
  simp (maxSteps := 1000000) (disch := omega) only [h1, h5, h6, z0, hcu, hsl, S, S1, S2, S3, S4, S5, ST, eq_self, reduceIte, reduceCtorEq, Nat.reduceEqDiff, Nat.reduceAdd]
  refine CallH.by (hM u b H' (hB.trans hpp) hru hbd) ?_
  rintro r G ⟨hL, pG⟩
  have hGl := pG.length_le
  obtain ⟨us, hus, hul, _⟩ := hL.parts
  have hnlb := hnl b
  simp (maxSteps := 1000000) (disch := omega) only [h1, h5, h6, hus.len Try.underlying38, hul, S, S1, S2, S3, S4, S5, ST, eq_self, reduceIte, reduceCtorEq, Nat.reduceEqDiff, Nat.reduceAdd]
  have hbm : ∀ st', st <+: st' → (b, d0) ∈ st' := fun st' hp' => hp'.subset hum
  generalize hN : nx b = N at *
  have hNb : ∀ c ∈ N, Bd n c := fun c hc => hnx b hbd c (by rw [hN]; exact hc)
  have hoql : oq < H'.length := at_lt hqo
  have hll : H.length < H'.length := at_lt hMap
  refine LoopH.by (fun m' s' H2 => ∃ (j : Nat) (st' : List (List Int × Int)) (oq' kq' nq' : Nat), m' + j = N.length ∧ s' 1 = .func (.func fM) (List.toArray fs) (List.toArray caps) ∧ s' 5 = .map (some H.length) ∧ s' 6 = .slice (some ⟨oq', kq', none⟩) nq' nq' ∧ s' 7 = u ∧ s' 28 = r ∧ s' 29 = .int .i64 (N.length : Int) ∧ s' 30 = .int .i64 ((j : Nat) : Int) ∧
    bdIn (d0 + 1) (N.drop j) st' = bdIn (d0 + 1) N st ∧ st <+: st' ∧ (∀ e ∈ st', Bd n e.1) ∧ (st'.map (·.1)).Nodup ∧ st'.length ≤ 720 ∧
    H2[H.length]? = some (.mp (mpI (mpB st'))) ∧ QV H2 oq' kq' nq' ((st'.drop (k + 1)).map (·.1)) ∧ (oq' = oq ∨ G.length ≤ oq') ∧ Row 3 H2 u b ∧ InL H'.length G.length 32 3 H2 r N ∧ G.length ≤ H2.length ∧ H <+: H2) N.length ?_ ?_
  · refine ⟨0, st, oq, kq + 1, nq - 1, by simp, ?_⟩
    simp (maxSteps := 1000000) (disch := omega) only [h1, h5, h6, S, S1, S2, S3, S4, S5, ST, eq_self, reduceIte, reduceCtorEq, Nat.reduceEqDiff, Nat.reduceAdd]
    have f1 := hQt.pre pG
    have f2 := pre_at pG hMap
    have f3 := hru.pre pG
    have f4 := hpp.trans pG
    have f5 := hI.ok
    have f6 := hI.nd
    have f7 : bdIn (d0 + 1) (N.drop 0) st = bdIn (d0 + 1) N st := rfl
    have f8 : st <+: st := List.prefix_refl _
    have e1 : ((nq - 1 : Nat)) = nq - 1 := rfl
    (repeat' first | exact f1 | exact f2 | exact f3 | exact f4 | exact f5 | exact f6 | exact f7 | exact f8 | exact hL | apply And.intro) <;> first | (simp only [Value.int.injEq, true_and]; omega) | omega | rfl | assumption | (simp; done) | (simp; omega)
  rintro m' s' H2 ⟨j, st', oq', kq', nq', hm', k1, k5, k6, k7, k28, k29, k30, hIn, hsp, hok, hnd, hsl', hMap2, hQ2, hoq2, hru2, hL2, hGl2, hpp2⟩
  simp (maxSteps := 1000000) (disch := omega) only [k1, k5, k6, k7, k28, k29, k30, S, S1, S2, S3, S4, S5, ST, eq_self, reduceIte, reduceCtorEq, Nat.reduceEqDiff, Nat.reduceAdd]
  refine brD.intro (fun q => ?_) (fun q => ?_)
  rotate_left
  · have hj : N.length ≤ j := by omega
    rw [List.drop_of_length_le hj] at hIn
    have hIn' : st' = bdIn (d0 + 1) N st := hIn
    rw [← hIn'] at hF hstep
    have f1 : H.length < oq' := by omega
    simp (maxSteps := 1000000) (disch := omega) only [k1, k5, k6, S, S1, S2, S3, S4, S5, ST, eq_self, reduceIte, reduceCtorEq, Nat.reduceEqDiff, Nat.reduceAdd]
    refine ⟨f, by omega, st', k + 1, oq', kq', nq', ?_⟩
    (repeat' first | exact hF | exact hstep | exact hMap2 | exact hQ2 | exact hpp2 | exact f1 | apply And.intro) <;> first | (simp only [Value.int.injEq, true_and]; omega) | omega | rfl | assumption | (simp; done) | (simp; omega)
  have hj : j < N.length := by omega
  obtain ⟨us2, hus2, hul2, heach⟩ := hL2.parts
  have hrow := (heach j hj).row.1
  have hcell := hus2.cell (show j < us2.length by omega)
  have hcm : N.getD j [] ∈ N := by simp [hj]
  have hcb := hNb _ hcm
  rw [bdIn_drop (d0 + 1) N j hj] at hIn
  generalize hc : N.getD j [] = c at *
  generalize hx : us2.getD j undef = x at *
  simp (maxSteps := 1000000) (disch := omega) only [k1, k5, k6, k7, k28, k29, k30, hus2.ix Try.underlying38 cs32, hcell, Int.toNat_natCast, S, S1, S2, S3, S4, S5, ST, eq_self, reduceIte, reduceCtorEq, Nat.reduceEqDiff, Nat.reduceAdd]
  refine CallH.by (key_c x c H2 hrow hcb.1) ?_
  rintro _ _ ⟨rfl, rfl⟩
  have hlk := lookI hMap2 (keyL c)
  rw [getI_bd hcb st' hok, bdD_isSome] at hlk
  simp (maxSteps := 1000000) (disch := omega) only [k1, k5, k6, k7, k28, k29, k30, hlk, S, S1, S2, S3, S4, S5, ST, eq_self, reduceIte, reduceCtorEq, Nat.reduceEqDiff, Nat.reduceAdd]
  refine brD.intro (fun e => ?_) (fun e => ?_)
  · rw [if_pos e] at hIn
    simp (maxSteps := 1000000) (disch := omega) only [e, k1, k5, k6, k7, k28, k29, k30, wrap64, S, S1, S2, S3, S4, S5, ST, eq_self, reduceIte, reduceCtorEq, Nat.reduceEqDiff, Nat.reduceAdd]
    refine ⟨m' - 1, by omega, j + 1, st', oq', kq', nq', ?_⟩
    (repeat' first | exact hIn | exact hsp | exact hok | exact hnd | exact hMap2 | exact hQ2 | exact hoq2 | exact hru2 | exact hL2 | exact hpp2 | apply And.intro) <;> first | (simp only [Value.int.injEq, true_and]; omega) | omega | rfl | assumption | (simp; done) | (simp; omega)
  rw [if_neg e] at hIn
  have hkn : keyL c ∉ (mpB st').map (·.1) := fun h => e ((keys_bd hcb hok).1 h)
  have hdb : bdD st' b = some d0 := bdD_some hnd (hbm st' hsp)
  have hlb := lookI1 hMap2 (keyL b)
  rw [getI_bd hbd st' hok, hdb] at hlb
  have hlb' : lookupA Try.prog 70 (.map (some H.length)) (.int .i64 (keyL b)) false H2 = some (.int .i64 d0) := hlb
  have hup := updI hMap2 hkn (d0 + 1)
  rw [← mpB_snoc] at hup
  simp (maxSteps := 1000000) (disch := omega) only [e, k1, k5, k6, k7, k28, k29, k30, S, S1, S2, S3, S4, S5, ST, eq_self, reduceIte, reduceCtorEq, Nat.reduceEqDiff, Nat.reduceAdd]
  refine CallH.by (key_c x c H2 hrow hcb.1) ?_
  rintro _ _ ⟨rfl, rfl⟩
  simp (maxSteps := 1000000) (disch := omega) only [e, k1, k5, k6, k7, k28, k29, k30, S, S1, S2, S3, S4, S5, ST, eq_self, reduceIte, reduceCtorEq, Nat.reduceEqDiff, Nat.reduceAdd]
  refine CallH.by (key_c u b H2 hru2 hbd.1) ?_
  rintro _ _ ⟨rfl, rfl⟩
  simp (maxSteps := 1000000) (disch := omega) only [e, k1, k5, k6, k7, k28, k29, k30, hlb', wrap64, hup, S, S1, S2, S3, S4, S5, ST, eq_self, reduceIte, reduceCtorEq, Nat.reduceEqDiff, Nat.reduceAdd]
  generalize hH3 : H2.set H.length (.mp (mpI (mpB (st' ++ [(c, d0 + 1)])))) = H3
  have l3 : H3.length = H2.length := by rw [← hH3]; simp
  have k3 : ∀ (j : Nat) (y : AObj), j ≠ H.length → H2[j]? = some y → H3[j]? = some y := fun j y hj hy => by rw [← hH3, List.getElem?_set_ne (fun e => hj e.symm)]; exact hy
  have m3 : H3[H.length]? = some (.mp (mpI (mpB (st' ++ [(c, d0 + 1)])))) := by rw [← hH3]; exact at_set hMap2
  have hoH : oq' ≠ H.length := by omega
  have hQ3 := hQ2.but hMap2 (noInt_mp _) hoH k3
  have hrow3 := hrow.but hMap2 (noInt_mp _) k3
  have hru3 := hru2.but hMap2 (noInt_mp _) k3
  have hL3 := hL2.frameQ (q := H.length) (.inl hll) k3
  have p3 : H <+: H3 := by rw [← hH3]; exact pre_set hpp2 (Nat.le_refl _) _
  have hst'' : ∀ e ∈ st' ++ [(c, d0 + 1)], Bd n e.1 := fun e he => by
    rcases List.mem_append.1 he with he | he
    · exact hok e he
    · simp only [List.mem_cons, List.not_mem_nil, or_false] at he
      rw [he]; exact hcb
  have hnd'' : ((st' ++ [(c, d0 + 1)]).map (·.1)).Nodup := by
    rw [List.map_append, List.Nodup, List.pairwise_append]
    refine ⟨hnd, by simp, fun y hy z hz q => ?_⟩
    simp only [List.map_cons, List.map_nil, List.mem_cons, List.not_mem_nil, or_false] at hz
    subst hz; subst q; exact e hy
  have hlen'' : (st' ++ [(c, d0 + 1)]).length ≤ 720 := by
    have := nodupI_le (mny n) (((st' ++ [(c, d0 + 1)]).map (·.1)).map cod) (by
      rw [List.Nodup, List.pairwise_map]
      refine List.Pairwise.imp_of_mem ?_ hnd''
      intro x y hx hy hxy q
      obtain ⟨s1, hs1, rfl⟩ := List.mem_map.1 hx
      obtain ⟨s2, hs2, rfl⟩ := List.mem_map.1 hy
      have g1 := hst'' s1 hs1
      have g2 := hst'' s2 hs2
      exact hxy (cod_inj g1.1 g2.1 (by rw [g1.2]; exact hn) (by rw [g1.2, g2.2]) q)) (fun y hy => by
      obtain ⟨z, hz, rfl⟩ := List.mem_map.1 hy
      obtain ⟨s1, hs1, rfl⟩ := List.mem_map.1 hz
      have g1 := hst'' s1 hs1
      have := cod_rng g1.1 (by rw [g1.2]; exact hn)
      rw [g1.2] at this; exact this)
    simp only [List.length_map] at this
    omega
  have hnq2 : nq' ≤ 720 := by
    obtain ⟨zs, _, _, g3, _⟩ := hQ2
    rw [g3]; simp; omega
  obtain ⟨H4, j1, j2, j3, j4⟩ := hQ3.push hrow3 (by omega)
  have hdr : ((st' ++ [(c, d0 + 1)]).drop (k + 1)).map (·.1) = (st'.drop (k + 1)).map (·.1) ++ [c] := by
    have : k + 1 ≤ st'.length := by have := hsp.length_le; omega
    rw [List.drop_append_of_le_length this, List.map_append]; rfl
  rw [← hdr] at j2
  have hqo3 : ∃ zs, H3[oq']? = some (.cells zs 32 false) := by obtain ⟨zs, g1, _⟩ := hQ3; exact ⟨zs, g1⟩
  obtain ⟨zs3, hqo3⟩ := hqo3
  have f1 := j4 _ _ (fun h => hoH h.symm) m3
  have f2 := hru3.but hqo3 (noInt_ll _ _) j4
  have f3 := hL3.frameQ (q := oq') (by omega) j4
  have f4 : st <+: st' ++ [(c, d0 + 1)] := hsp.trans (List.prefix_append _ _)
  have f6 : H3.length + 1 = oq ∨ G.length ≤ H3.length + 1 := .inr (by omega)
  have f7 : H <+: H4 := prefix_of fun i y hy => j4 i y (by have := at_lt hy; omega) (pre_at p3 hy)
  simp (maxSteps := 1000000) (disch := omega) only [k1, k5, k6, k7, k28, k29, k30, bsRowQ hrow3, j1, wrap64, S, S1, S2, S3, S4, S5, ST, eq_self, reduceIte, reduceCtorEq, Nat.reduceEqDiff, Nat.reduceAdd]
  refine ⟨m' - 1, by omega, j + 1, st' ++ [(c, d0 + 1)], H3.length + 1, 0, nq' + 1, ?_⟩
  (repeat' first | exact hIn | exact f4 | exact hst'' | exact hnd'' | exact hlen'' | exact f1 | exact j2 | exact f6 | exact f2 | exact f3 | exact f7 | apply And.intro) <;> first | (simp only [Value.int.injEq, true_and]; omega) | omega | rfl | assumption | (simp; done) | (simp; omega)
end Go.Proofs.Ythhnpchjjbjabaa.Ai
