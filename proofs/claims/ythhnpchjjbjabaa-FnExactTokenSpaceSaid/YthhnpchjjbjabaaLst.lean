/- A list that grows and shrinks in a walk, and the lists that it finds: states in memory. -/
import Derived.Test.YthhnpchjjbjabaaBfs
import Derived.Test.YthhnpchjjbjabaaClone
import Derived.Test.YthhnpchjjbjabaaAppL
import Derived.Test.YthhnpchjjbjabaaGrf
namespace Go.Proofs.Ythhnpchjjbjabaa.Ai
open Go Go.RowKit
set_option linter.unusedVariables false
set_option linter.unusedSimpArgs false

/-- the list so far in the variable pe, and what stays (fx) -/
structure LSt (HB : AH) (fx : List (Nat × AObj)) (pe : Nat) (F : Nat → Prop) (H : AH) (ed : List Int) : Prop where
  fix : ∀ q ∈ fx, H[q.1]? = some q.2 ∧ ¬ F q.1 ∧ q.1 ≠ pe
  e : ∃ oe zs, H[pe]? = some (.cells [.slice (some ⟨oe, 0, none⟩) ed.length ed.length] 32 false) ∧ H[oe]? = some (.cells (ints zs) 3 false) ∧ zs.take ed.length = ed ∧ ¬ F oe ∧ oe ≠ pe ∧ (∀ q ∈ fx, q.1 ≠ oe) ∧ HB.length ≤ oe
  out : ¬ F pe
  lo : HB.length ≤ pe
  pre : HB <+: H

section
variable {HB : AH} {fx : List (Nat × AObj)} {pe : Nat} {F F' : Nat → Prop} {H H' : AH} {ed : List Int}
/-- what changes other objects leaves all this -/
theorem LSt.cb (h : LSt HB fx pe F H ed) (hlive : ∀ o, F o → HB.length ≤ o) (hF : ∀ o, F' o → F o ∨ H.length ≤ o) (hk : ∀ o y, ¬ F o → H[o]? = some y → H'[o]? = some y) : LSt HB fx pe F' H' ed := by
  obtain ⟨oe, zs, e1, e2, e3, e4, e5⟩ := h.e
  have no : ∀ {o x}, ¬ F o → H[o]? = some x → ¬ F' o := fun ho hx hf => by
    rcases hF _ hf with g | g
    · exact ho g
    · have := at_lt hx; omega
  refine ⟨fun q hq => ?_, ⟨oe, zs, hk _ _ h.out e1, hk _ _ e4 e2, e3, no e4 e2, e5⟩, no h.out e1, h.lo, ?_⟩
  · obtain ⟨q1, q2, q3⟩ := h.fix q hq
    exact ⟨hk _ _ q2 q1, no q2 q1, q3⟩
  · exact prefix_of fun o x hx => hk o x (fun hf => by have := hlive o hf; have := at_lt hx; omega) (pre_at h.pre hx)
theorem LSt.grow (h : LSt HB fx pe F H ed) (hlive : ∀ o, F o → HB.length ≤ o) (hp : H <+: H') : LSt HB fx pe F H' ed := h.cb hlive (fun o ho => .inl ho) fun o y _ hy => pre_at hp hy
theorem LSt.row (h : LSt HB fx pe F H ed) : ∃ w, cellA H pe 0 = some w ∧ Row 3 H w ed ∧ ¬ F (rowO w) ∧ isTup w = false := by
  obtain ⟨oe, zs, e1, e2, e3, e4, e5⟩ := h.e
  refine ⟨_, cell_of e1 0, ?_, e4, rfl⟩
  have hzl : ed.length ≤ zs.length := by
    have := congrArg List.length e3
    rw [List.length_take] at this; omega
  refine .inr ⟨oe, 0, ints zs, false, rfl, e2, by rw [ints_len]; omega, ?_⟩
  rw [List.drop_zero]
  have : (ints zs).take ed.length = ints (zs.take ed.length) := by simp [ints, List.map_take]
  rw [this, e3]
/-- one more -/
theorem LSt.push (h : LSt HB fx pe F H ed) (hlive : ∀ o, F o → o < H.length) (hb : ed.length ≤ 1048576) (x : Int) :
    ∃ w H2 H3, cellA H pe 0 = some (.slice (some w) ed.length ed.length) ∧ appendA Try.prog 32 32 (.slice (some w) ed.length ed.length) (.slice (some ⟨H.length, 0, none⟩) 1 1) (H ++ [.cells [.int .i64 x] 3 false]) = some (.slice (some ⟨H.length + 1, 0, none⟩) (ed.length + 1) (ed.length + 1), H2) ∧
      storeA Try.prog 32 (.pointer (some ⟨pe, 0, none⟩)) (.slice (some ⟨H.length + 1, 0, none⟩) (ed.length + 1) (ed.length + 1)) H2 = some H3 ∧ LSt HB fx pe F H3 (ed ++ [x]) ∧ (∀ o y, F o → H[o]? = some y → H3[o]? = some y) ∧ H.length ≤ H3.length ∧
      ∀ o y, o ≠ pe → (∀ w', cellA H pe 0 = some w' → o ≠ rowO w') → H[o]? = some y → H3[o]? = some y := by
  obtain ⟨oe, zs, e1, e2, e3, e4, e8, e5, e9⟩ := h.e
  have hzl : ed.length ≤ zs.length := by
    have := congrArg List.length e3
    rw [List.length_take] at this; omega
  have k1 := app_q (P := Try.prog) (t := 32) (k := 0) (n := ed.length) (c := ed.length) (x := x) Try.underlying32 cs3 (by rw [by3]; decide) zk3 e2 (by omega) (by omega)
  rw [List.drop_zero, e3] at k1
  have at_ : ∀ {o y}, o ≠ oe → H[o]? = some y → (H.set oe .dead ++ [AObj.cells [.int .i64 x] 3 false, .cells (ints (ed ++ [x])) 3 false])[o]? = some y := by
    intro o y ho hy
    rw [List.getElem?_append_left (by simpa using at_lt hy), List.getElem?_set_ne (fun e => ho e.symm)]
    exact hy
  have a1 := at_ (fun e => e8 e.symm) e1
  have hst := st_at (P := Try.prog) (t := 32) (i := 0) (y := .slice (some ⟨H.length + 1, 0, none⟩) (ed.length + 1) (ed.length + 1)) cs32 a1 (by show 0 < 1; decide) rfl rfl
  have l1 := at_lt e1
  have l2 := at_lt e2
  have aw : ∀ {o y}, o ≠ oe → o ≠ pe → H[o]? = some y → ((H.set oe .dead ++ [AObj.cells [.int .i64 x] 3 false, .cells (ints (ed ++ [x])) 3 false]).set pe (.cells ([Value.slice (some ⟨oe, 0, none⟩) ed.length ed.length].set 0 (.slice (some ⟨H.length + 1, 0, none⟩) (ed.length + 1) (ed.length + 1))) 32 false))[o]? = some y := by
    intro o y ho1 ho2 hy
    rw [List.getElem?_set_ne (fun e => ho2 e.symm)]
    exact at_ ho1 hy
  have lo := h.lo
  refine ⟨_, _, _, cell_of e1 0, k1, hst, ⟨fun q hq => ?_, ⟨H.length + 1, ed ++ [x], ?_, ?_, ?_, ?_, by omega, fun q hq => ?_, by have := h.pre.length_le; omega⟩, h.out, h.lo, ?_⟩, ?_, by simp, ?_⟩
  · obtain ⟨q1, q2, q3⟩ := h.fix q hq
    exact ⟨aw (e5 q hq) q3 q1, q2, q3⟩
  · rw [List.getElem?_set_self (by simp; omega)]
    simp
  · rw [List.getElem?_set_ne (by omega), List.getElem?_append_right (by simp)]
    simp
  · rw [List.take_of_length_le (Nat.le_refl _)]
  · intro hf; have := hlive _ hf; omega
  · have := at_lt (h.fix q hq).1; omega
  · exact prefix_of fun o y hy => aw (by have := at_lt hy; omega) (by have := at_lt hy; omega) (pre_at h.pre hy)
  · intro o y hf hy
    exact aw (fun e => e4 (e ▸ hf)) (fun e => h.out (e ▸ hf)) hy
  · intro o y ho1 ho2 hy
    exact aw (ho2 _ (cell_of e1 0)) ho1 hy
/-- the last one away -/
theorem LSt.pop {x : Int} (h : LSt HB fx pe F H (ed ++ [x])) :
    ∃ w c, cellA H pe 0 = some (.slice (some w) (ed.length + 1) c) ∧ sliceA Try.prog 32 (.slice (some w) (ed.length + 1) c) none (some (.int .i64 (ed.length : Int))) none H = some (.slice (some w) ed.length ed.length) ∧
      ∃ H3, storeA Try.prog 32 (.pointer (some ⟨pe, 0, none⟩)) (.slice (some w) ed.length ed.length) H = some H3 ∧ LSt HB fx pe F H3 ed ∧ (∀ o y, F o → H[o]? = some y → H3[o]? = some y) ∧ H3.length = H.length := by
  obtain ⟨oe, zs, e1, e2, e3, e4, e8, e5, e9⟩ := h.e
  have hl : (ed ++ [x]).length = ed.length + 1 := by simp
  rw [hl] at e1 e3
  have hz : zs.take ed.length = ed := by
    have := congrArg (List.take ed.length) e3
    rw [List.take_take, Nat.min_eq_left (by omega)] at this
    simpa using this
  have hsl := sl_own (P := Try.prog) (t := 32) (k := 0) (n := ed.length + 1) (c := ed.length + 1) Try.underlying32 cs3 e2 lo_none (bound_some (k := .i64) (i := (ed.length : Int)) (by omega) (ed.length + 1)) (Nat.zero_le _) (by omega)
  simp only [Int.toNat_natCast, Nat.add_zero, Nat.sub_zero] at hsl
  have hst := st_at (P := Try.prog) (t := 32) (i := 0) (y := .slice (some ⟨oe, 0, none⟩) ed.length ed.length) cs32 e1 (by show 0 < 1; decide) rfl rfl
  have aw : ∀ {o y}, o ≠ pe → H[o]? = some y → (H.set pe (.cells ([Value.slice (some ⟨oe, 0, none⟩) (ed.length + 1) (ed.length + 1)].set 0 (.slice (some ⟨oe, 0, none⟩) ed.length ed.length)) 32 false))[o]? = some y := by
    intro o y ho hy
    rw [List.getElem?_set_ne (fun e => ho e.symm)]; exact hy
  have lo := h.lo
  refine ⟨_, _, cell_of e1 0, hsl, _, hst, ⟨fun q hq => ?_, ⟨oe, zs, ?_, aw e8 e2, hz, e4, e8, e5, e9⟩, h.out, h.lo, ?_⟩, fun o y hf hy => aw (fun e => h.out (e ▸ hf)) hy, by simp⟩
  · obtain ⟨q1, q2, q3⟩ := h.fix q hq
    exact ⟨aw q3 q1, q2, q3⟩
  · rw [List.getElem?_set_self (at_lt e1)]; rfl
  · exact prefix_of fun o y hy => aw (by have := at_lt hy; omega) (pre_at h.pre hy)
end

/-- the objects of a list of lists -/
def Obs (o : Nat) (us : List Value) (ls : List (List Int)) (j : Nat) : Prop := j = o ∨ ∃ i, i < ls.length ∧ us.getD i undef ≠ .slice none 0 0 ∧ j = rowO (us.getD i undef)
theorem InU.refit2 {lo hi : Nat} {e2 e : TypeId} {H H' : AH} {o : Nat} {us : List Value} {ls : List (List Int)} (h : InU lo hi e2 e H o us ls) (hk : ∀ j y, Obs o us ls j → H[j]? = some y → H'[j]? = some y) : InU lo H'.length e2 e H' o us ls := by
  obtain ⟨h1, h2, h3, h4, h5, h6⟩ := h
  have k3 := hk _ _ (.inl rfl) h3
  refine ⟨h1, at_lt k3, k3, h4, fun i hi => ⟨?_, (h5 i hi).2⟩, h6⟩
  rcases (h5 i hi).1 with g | ⟨oo, zs, g1, g2, g3, g4, g5⟩
  · exact .inl g
  · have := hk oo _ (.inr ⟨i, hi, (by rw [g1]; intro e; cases e), (by rw [g1]; rfl)⟩) g4
    exact .inr ⟨oo, zs, g1, g2, at_lt this, this, g5⟩
theorem InU.obs {lo hi : Nat} {e2 e : TypeId} {H : AH} {o : Nat} {us : List Value} {ls : List (List Int)} (h : InU lo hi e2 e H o us ls) {j : Nat} (hj : Obs o us ls j) : lo ≤ j ∧ j < hi := by
  obtain ⟨h1, h2, h3, h4, h5, h6⟩ := h
  rcases hj with rfl | ⟨i, hi, hn, rfl⟩
  · exact ⟨h1, h2⟩
  · rcases (h5 i hi).1.at_ with g | g
    · exact absurd g hn
    · exact g
theorem getD_snoc {us : List Value} {n i : Nat} {c : Value} (hn : n ≤ us.length) : (us.take n ++ [c]).getD i undef = if i < n then us.getD i undef else if i = n then c else undef := by
  rw [List.getD_eq_getElem?_getD, List.getElem?_append]
  have hl : (us.take n).length = n := by simp; omega
  rw [hl]
  split
  · rw [List.getElem?_take, if_pos (by assumption), List.getD_eq_getElem?_getD]
  · split
    · rename_i h; subst h; simp
    · rw [List.getElem?_eq_none (by simp; omega)]; rfl

/-- the lists found so far, in the variable po -/
def IOut (HB : AH) (po : Nat) (out : List (List Int)) (F : Nat → Prop) (H : AH) : Prop :=
  ∃ o us, H[po]? = some (.cells [.slice (some ⟨o, 0, none⟩) out.length out.length] 38 false) ∧ InU HB.length H.length 32 3 H o us out ∧ HB.length ≤ po ∧ ¬ Obs o us out po ∧ F = fun j => j = po ∨ Obs o us out j
theorem IOut.live {HB H : AH} {po : Nat} {out : List (List Int)} {F : Nat → Prop} (h : IOut HB po out F H) {o : Nat} (ho : F o) : o < H.length ∧ HB.length ≤ o := by
  obtain ⟨oo, us, h1, h2, h3, h4, rfl⟩ := h
  have ho' : o = po ∨ Obs oo us out o := ho
  rcases ho' with rfl | hj
  · exact ⟨at_lt h1, h3⟩
  · have := h2.obs hj
    exact ⟨this.2, this.1⟩
theorem IOut.keep {HB H H' : AH} {po : Nat} {out : List (List Int)} {F : Nat → Prop} (h : IOut HB po out F H) (hk : ∀ o y, F o → H[o]? = some y → H'[o]? = some y) : IOut HB po out F H' := by
  obtain ⟨oo, us, h1, h2, h3, h4, rfl⟩ := h
  exact ⟨oo, us, hk _ _ (.inl rfl) h1, h2.refit2 fun j y hj hy => hk _ _ (.inr hj) hy, h3, h4, rfl⟩
/-- one more list, a copy -/
theorem IOut.push {HB H C : AH} {po : Nat} {out : List (List Int)} {F : Nat → Prop} (h : IOut HB po out F H) (hp : HB <+: H) {c : Value} {xs : List Int} (pC : H <+: C) (hc : Own 3 H C c xs) (hb : out.length ≤ 1000000000) :
    ∃ w H3 H4, cellA H po 0 = some (.slice (some w) out.length out.length) ∧ cellA C po 0 = some (.slice (some w) out.length out.length) ∧ buildSliceA Try.prog 38 1 [(0, c)] C = some (.slice (some ⟨C.length, 0, none⟩) 1 1, C ++ [.cells [c] 32 false]) ∧
      appendA Try.prog 38 38 (.slice (some w) out.length out.length) (.slice (some ⟨C.length, 0, none⟩) 1 1) (C ++ [.cells [c] 32 false]) = some (.slice (some ⟨C.length + 1, 0, none⟩) (out.length + 1) (out.length + 1), H3) ∧
      storeA Try.prog 38 (.pointer (some ⟨po, 0, none⟩)) (.slice (some ⟨C.length + 1, 0, none⟩) (out.length + 1) (out.length + 1)) H3 = some H4 ∧
      ∃ F', IOut HB po (out ++ [xs]) F' H4 ∧ (∀ o, F' o → F o ∨ H.length ≤ o) ∧ ∀ o y, ¬ F o → H[o]? = some y → H4[o]? = some y := by
  obtain ⟨o, us, h2, h3, h4, h7, rfl⟩ := h
  have c2 := pre_at pC h2
  have hinw := InI.of hc.mine
  obtain ⟨H3, k1, k2, k3, k4⟩ := (h3.pre pC).app1 (P := Try.prog) (t2 := 38) Try.underlying38 cs32 (by rw [by32]; decide) zk32 hinw hp.length_le pC.length_le (Nat.le_refl _) (by omega)
  have hbs : buildSliceA Try.prog 38 1 [(0, c)] C = some (.slice (some ⟨C.length, 0, none⟩) 1 1, C ++ [.cells [c] 32 false]) := by
    obtain ⟨q, eq⟩ := hc.row.shape
    rw [eq]
    exact bs1 Try.underlying38 cs32 ze32 ⟨by kernel_rfl, by kernel_rfl⟩ C rfl
  have lC := pC.length_le
  have l2 := at_lt h2
  have d2 := k4 po _ (fun e => h7 (.inl e)) c2
  have hst := st_at (P := Try.prog) (t := 38) (i := 0) (y := .slice (some ⟨C.length + 1, 0, none⟩) (out.length + 1) (out.length + 1)) cs38 d2 (by show 0 < 1; decide) rfl rfl
  have e2 : (H3.set po (.cells ([Value.slice (some ⟨o, 0, none⟩) out.length out.length].set 0 (.slice (some ⟨C.length + 1, 0, none⟩) (out.length + 1) (out.length + 1))) 38 false))[po]? = some (.cells [.slice (some ⟨C.length + 1, 0, none⟩) (out.length + 1) (out.length + 1)] 38 false) := by
    rw [List.getElem?_set_self (by omega)]; rfl
  have hal : (out ++ [xs]).length = out.length + 1 := by simp
  have hcO : c = .slice none 0 0 ∨ H.length ≤ rowO c := by
    rcases hc with ⟨q, _⟩ | ⟨oc, q, hoc, _⟩
    · exact .inl q
    · exact .inr (by rw [q]; exact hoc)
  have hul := h3.2.2.2.1
  have aw2 : Away po (C.length + 1) (us.take out.length ++ [c]) (out ++ [xs]) := by
    refine ⟨by omega, fun i hi => ?_⟩
    rw [hal] at hi
    rw [getD_snoc hul]
    split
    · rename_i hi2
      by_cases hn : us.getD i undef = .slice none 0 0
      · exact .inl hn
      · exact .inr fun e => h7 (.inr ⟨i, hi2, hn, e.symm⟩)
    · rw [if_pos (by omega)]
      exact hcO.imp id fun q => by omega
  have k2' := (k2.wide (Nat.le_refl _) (Nat.le_of_eq k3.symm) : InU HB.length H3.length 32 3 H3 _ _ _)
  refine ⟨_, H3, _, cell_of h2 0, cell_of c2 0, hbs, k1, hst, fun j => j = po ∨ Obs (C.length + 1) (us.take out.length ++ [c]) (out ++ [xs]) j, ⟨C.length + 1, us.take out.length ++ [c], by rw [hal]; exact e2, ?_, h4, ?_, rfl⟩, ?_, ?_⟩
  · have := k2'.moveq aw2 (H' := H3.set po (.cells ([Value.slice (some ⟨o, 0, none⟩) out.length out.length].set 0 (.slice (some ⟨C.length + 1, 0, none⟩) (out.length + 1) (out.length + 1))) 38 false)) (fun j y hj hy => by rw [List.getElem?_set_ne (fun e => hj e.symm)]; exact hy)
    simpa using this
  · rintro (e | ⟨i, hi, hn, e⟩)
    · omega
    · rcases aw2.2 i hi with q | q
      · exact hn q
      · exact q e.symm
  · rintro j (e | e | ⟨i, hi, hn, e⟩)
    · exact .inl (.inl e)
    · exact .inr (by omega)
    · rw [getD_snoc hul] at hn e
      rw [hal] at hi
      by_cases hi2 : i < out.length
      · rw [if_pos hi2] at hn e
        exact .inl (.inr (.inr ⟨i, hi2, hn, e⟩))
      · rw [if_neg hi2, if_pos (by omega)] at hn e
        rcases hcO with q | q
        · exact absurd q hn
        · exact .inr (by omega)
  · intro j y hj hy
    rw [List.getElem?_set_ne (fun e => hj (.inl e.symm))]
    exact k4 j y (fun e => hj (.inr (.inl e))) (pre_at pC hy)
end Go.Proofs.Ythhnpchjjbjabaa.Ai
