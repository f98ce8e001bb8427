/- Kinds of data that a law compares and marks: what stays where only a stretch of objects changes (ElseR); lists (RowB, InI), lists of lists (RowLB, InL), each in objects of a stretch of numbers. No condition. -/
import Derived.Test.YtnoihoeaconllaaAiH
namespace Go.Proofs.Ytnoihoeaconllaa.Ai
open Go Go.RowKit
set_option linter.unusedVariables false
set_option linter.unusedSimpArgs false

/-- all objects but a stretch are as they were -/
def ElseR (lo hi : Nat) (H H' : AH) : Prop := H'.length = H.length ∧ ∀ (o : Nat) (x : AObj), (o < lo ∨ hi ≤ o) → H[o]? = some x → H'[o]? = some x
theorem ElseR.refl (lo hi : Nat) (H : AH) : ElseR lo hi H H := ⟨rfl, fun _ _ _ h => h⟩
theorem ElseR.trans {lo hi : Nat} {H H' H'' : AH} (h : ElseR lo hi H H') (k : ElseR lo hi H' H'') : ElseR lo hi H H'' := ⟨k.1.trans h.1, fun o x hn hx => k.2 o x hn (h.2 o x hn hx)⟩
theorem ElseR.pre {lo hi : Nat} {H0 H H' : AH} (h : ElseR lo hi H H') (hp : H0 <+: H) (hl : H0.length ≤ lo) : H0 <+: H' :=
  prefix_of fun o x hx => h.2 o x (.inl (by have := at_lt hx; omega)) (pre_at hp hx)

/- ---------- lists of ints ---------- -/
def RowB (b : Nat) (e : TypeId) (H : AH) (v : Value) (xs : List Int) : Prop := Row e H v xs ∧ (v = .slice none 0 0 ∨ rowO v < b)
def InI (lo hi : Nat) (e : TypeId) (H : AH) (v : Value) (xs : List Int) : Prop :=
  (v = .slice none 0 0 ∧ xs = []) ∨ ∃ o zs, v = .slice (some ⟨o, 0, none⟩) xs.length xs.length ∧ lo ≤ o ∧ o < hi ∧ H[o]? = some (.cells (ints zs) e false) ∧ zs.take xs.length = xs
theorem Row.nilv {e : TypeId} {H : AH} {v : Value} {xs : List Int} (h : Row e H v xs) (hv : v = .slice none 0 0) : xs = [] := by
  rcases h with h | ⟨o, k, vs, ro, h1, _⟩
  · exact h.2
  · rw [h1] at hv; cases hv
theorem Row.b {e : TypeId} {H : AH} {v : Value} {xs : List Int} (h : Row e H v xs) : RowB H.length e H v xs := ⟨h, h.nil.imp (fun g => g.1) id⟩
theorem RowB.pre {b : Nat} {e : TypeId} {H H' : AH} {v : Value} {xs : List Int} (h : RowB b e H v xs) (hp : H <+: H') : RowB b e H' v xs := ⟨h.1.pre hp, h.2⟩
theorem RowB.keep {b lo hi : Nat} {e : TypeId} {H H' : AH} {v : Value} {xs : List Int} (h : RowB b e H v xs) (he : ElseR lo hi H H') (hl : b ≤ lo) : RowB b e H' v xs := by
  refine ⟨?_, h.2⟩
  rcases h.2 with g | g
  · exact .inl ⟨g, h.1.nilv g⟩
  · exact h.1.mono fun y hy => he.2 _ _ (.inl (by omega)) hy
theorem InI.row {lo hi : Nat} {e : TypeId} {H : AH} {v : Value} {xs : List Int} (h : InI lo hi e H v xs) : RowB hi e H v xs := by
  rcases h with h | ⟨o, zs, h1, h2, h3, h4, h5⟩
  · exact ⟨.inl h, .inl h.1⟩
  · have hl : xs.length ≤ zs.length := by have := congrArg List.length h5; simp at this; omega
    refine ⟨.inr ⟨o, 0, _, _, h1, h4, by rw [ints_len]; omega, ?_⟩, .inr (by rw [h1]; exact h3)⟩
    rw [List.drop_zero]
    have : (ints zs).take xs.length = ints (zs.take xs.length) := by simp [ints, List.map_take]
    rw [this, h5]
theorem InI.of {e : TypeId} {H0 H : AH} {v : Value} {xs : List Int} (h : Mine e H0 H v xs) : InI H0.length H.length e H v xs := by
  rcases h with h | ⟨o, zs, h1, h2, h3, h4⟩
  · exact .inl h
  · exact .inr ⟨o, zs, h1, h2, at_lt h3, h3, h4⟩
theorem InI.mine {hi : Nat} {e : TypeId} {H0 H : AH} {v : Value} {xs : List Int} (h : InI H0.length hi e H v xs) : Mine e H0 H v xs := by
  rcases h with h | ⟨o, zs, h1, h2, h3, h4, h5⟩
  · exact .inl h
  · exact .inr ⟨o, zs, h1, h2, h4, h5⟩
theorem InI.wide {lo hi lo' hi' : Nat} {e : TypeId} {H : AH} {v : Value} {xs : List Int} (h : InI lo hi e H v xs) (h1 : lo' ≤ lo) (h2 : hi ≤ hi') : InI lo' hi' e H v xs := by
  rcases h with h | ⟨o, zs, g1, g2, g3, g4, g5⟩
  · exact .inl h
  · exact .inr ⟨o, zs, g1, by omega, by omega, g4, g5⟩
theorem InI.move {lo hi : Nat} {e : TypeId} {H H' : AH} {v : Value} {xs : List Int} (h : InI lo hi e H v xs) (hh : ∀ y, v ≠ .slice none 0 0 → H[rowO v]? = some y → H'[rowO v]? = some y) : InI lo hi e H' v xs := by
  rcases h with h | ⟨o, zs, g1, g2, g3, g4, g5⟩
  · exact .inl h
  · subst g1; exact .inr ⟨o, zs, rfl, g2, g3, hh _ (by intro e; cases e) g4, g5⟩
theorem InI.pre {lo hi : Nat} {e : TypeId} {H H' : AH} {v : Value} {xs : List Int} (h : InI lo hi e H v xs) (hp : H <+: H') : InI lo hi e H' v xs := h.move fun _ _ hy => pre_at hp hy
theorem InI.keep {lo hi lo' hi' : Nat} {e : TypeId} {H H' : AH} {v : Value} {xs : List Int} (h : InI lo hi e H v xs) (he : ElseR lo' hi' H H') (hl : hi ≤ lo' ∨ hi' ≤ lo) : InI lo hi e H' v xs := by
  rcases h with h | ⟨o, zs, g1, g2, g3, g4, g5⟩
  · exact .inl h
  · exact .inr ⟨o, zs, g1, g2, g3, he.2 _ _ (by omega) g4, g5⟩
theorem InI.at_ {lo hi : Nat} {e : TypeId} {H : AH} {v : Value} {xs : List Int} (h : InI lo hi e H v xs) : v = .slice none 0 0 ∨ (lo ≤ rowO v ∧ rowO v < hi) := by
  rcases h with h | ⟨o, zs, g1, g2, g3, g4, g5⟩
  · exact .inl h.1
  · subst g1; exact .inr ⟨g2, g3⟩

/- ---------- lists of lists ---------- -/
def RowLB (b : Nat) (e2 e : TypeId) (H : AH) (v : Value) (ls : List (List Int)) : Prop :=
  ∃ us : List Value, RowV e2 H v us ∧ (v = .slice none 0 0 ∨ rowO v < b) ∧ us.length = ls.length ∧ ∀ i, i < ls.length → RowB b e H (us.getD i undef) (ls.getD i [])
/-- its parts -/
def InU (lo hi : Nat) (e2 e : TypeId) (H : AH) (o : Nat) (us : List Value) (ls : List (List Int)) : Prop :=
  lo ≤ o ∧ o < hi ∧ H[o]? = some (.cells us e2 false) ∧ ls.length ≤ us.length ∧ (∀ i, i < ls.length → InI lo hi e H (us.getD i undef) (ls.getD i []) ∧ (us.getD i undef = .slice none 0 0 ∨ rowO (us.getD i undef) ≠ o)) ∧
  ∀ i j, i ≠ j → i < ls.length → j < ls.length → Apart (us.getD i undef) (us.getD j undef)
def InL (lo hi : Nat) (e2 e : TypeId) (H : AH) (v : Value) (ls : List (List Int)) : Prop :=
  (v = .slice none 0 0 ∧ ls = []) ∨ ∃ o us, v = .slice (some ⟨o, 0, none⟩) ls.length ls.length ∧ InU lo hi e2 e H o us ls
theorem RowV.nilv {e : TypeId} {H : AH} {v : Value} {us : List Value} (h : RowV e H v us) (hv : v = .slice none 0 0) : us = [] := by
  rcases h with h | ⟨o, k, vs, ro, h1, _⟩
  · exact h.2
  · rw [h1] at hv; cases hv
theorem RowLB.pre {b : Nat} {e2 e : TypeId} {H H' : AH} {v : Value} {ls : List (List Int)} (h : RowLB b e2 e H v ls) (hp : H <+: H') : RowLB b e2 e H' v ls := by
  obtain ⟨us, h1, h2, h3, h4⟩ := h
  exact ⟨us, h1.pre hp, h2, h3, fun i hi => (h4 i hi).pre hp⟩
theorem RowLB.keep {b lo hi : Nat} {e2 e : TypeId} {H H' : AH} {v : Value} {ls : List (List Int)} (h : RowLB b e2 e H v ls) (he : ElseR lo hi H H') (hl : b ≤ lo) : RowLB b e2 e H' v ls := by
  obtain ⟨us, h1, h2, h3, h4⟩ := h
  refine ⟨us, ?_, h2, h3, fun i hi => (h4 i hi).keep he hl⟩
  rcases h2 with g | g
  · exact .inl ⟨g, h1.nilv g⟩
  · exact h1.mono fun y hy => he.2 _ _ (.inl (by omega)) hy
theorem InU.row {lo hi : Nat} {e2 e : TypeId} {H : AH} {o : Nat} {us : List Value} {ls : List (List Int)} (h : InU lo hi e2 e H o us ls) : RowLB hi e2 e H (.slice (some ⟨o, 0, none⟩) ls.length ls.length) ls := by
  obtain ⟨h1, h2, h3, h4, h5, h6⟩ := h
  refine ⟨us.take ls.length, .inr ⟨o, 0, us, false, by simp [Nat.min_eq_left h4], h3, by simp; omega, by simp [Nat.min_eq_left h4]⟩, .inr h2, by simp; omega, fun i hi => ?_⟩
  have : (us.take ls.length).getD i undef = us.getD i undef := by
    rw [List.getD_eq_getElem?_getD, List.getD_eq_getElem?_getD, List.getElem?_take, if_pos hi]
  rw [this]
  exact (h5 i hi).1.row
theorem InL.row {lo hi : Nat} {e2 e : TypeId} {H : AH} {v : Value} {ls : List (List Int)} (h : InL lo hi e2 e H v ls) : RowLB hi e2 e H v ls := by
  rcases h with ⟨h1, h2⟩ | ⟨o, us, h1, h2⟩
  · subst h1; subst h2; exact ⟨[], .inl ⟨rfl, rfl⟩, .inl rfl, rfl, fun i hi => absurd hi (by simp)⟩
  · rw [h1]; exact h2.row
theorem InU.move {lo hi : Nat} {e2 e : TypeId} {H H' : AH} {o : Nat} {us : List Value} {ls : List (List Int)} (h : InU lo hi e2 e H o us ls) (hh : ∀ (j : Nat) (y : AObj), lo ≤ j → j < hi → H[j]? = some y → H'[j]? = some y) : InU lo hi e2 e H' o us ls := by
  obtain ⟨h1, h2, h3, h4, h5, h6⟩ := h
  refine ⟨h1, h2, hh _ _ h1 h2 h3, h4, fun i hi => ⟨(h5 i hi).1.move fun y hn hy => ?_, (h5 i hi).2⟩, h6⟩
  rcases (h5 i hi).1.at_ with g | g
  · exact absurd g hn
  · exact hh _ _ g.1 g.2 hy
theorem InL.pre {lo hi : Nat} {e2 e : TypeId} {H H' : AH} {v : Value} {ls : List (List Int)} (h : InL lo hi e2 e H v ls) (hp : H <+: H') : InL lo hi e2 e H' v ls := by
  rcases h with h | ⟨o, us, h1, h2⟩
  · exact .inl h
  · exact .inr ⟨o, us, h1, h2.move fun j y _ _ hy => pre_at hp hy⟩
theorem InL.keep {lo hi lo' hi' : Nat} {e2 e : TypeId} {H H' : AH} {v : Value} {ls : List (List Int)} (h : InL lo hi e2 e H v ls) (he : ElseR lo' hi' H H') (hl : hi ≤ lo' ∨ hi' ≤ lo) : InL lo hi e2 e H' v ls := by
  rcases h with h | ⟨o, us, h1, h2⟩
  · exact .inl h
  · exact .inr ⟨o, us, h1, h2.move fun j y _ _ hy => he.2 _ _ (by omega) hy⟩
theorem InL.wide {lo hi lo' hi' : Nat} {e2 e : TypeId} {H : AH} {v : Value} {ls : List (List Int)} (h : InL lo hi e2 e H v ls) (h1 : lo' ≤ lo) (h2 : hi ≤ hi') : InL lo' hi' e2 e H v ls := by
  rcases h with h | ⟨o, us, g1, g2, g3, g4, g5, g6, g7⟩
  · exact .inl h
  · exact .inr ⟨o, us, g1, by omega, by omega, g4, g5, fun i hi => ⟨(g6 i hi).1.wide h1 h2, (g6 i hi).2⟩, g7⟩

/-- one more list at the end -/
theorem InL.app1 {P : Program} {t2 e2 e : TypeId} (hu : P.underlying t2 = some (.slice e2)) (hc : P.cellsOf e2 = 1) (hby : P.bytesOf e2 ≤ 64) (hz : zeroOk P e2 = true) {lo hi hi2 : Nat} {H : AH} {v w : Value} {ls : List (List Int)} {l : List Int}
    (h : InL lo hi e2 e H v ls) (hw : InI hi hi2 e H w l) (hl1 : lo ≤ hi) (hl2 : hi ≤ H.length) (hl3 : hi2 ≤ H.length) (hb : ls.length ≤ 1099511627775) :
    ∃ v' H', appendA P t2 t2 v (.slice (some ⟨H.length, 0, none⟩) 1 1) (H ++ [.cells [w] e2 false]) = some (v', H') ∧ InL lo H'.length e2 e H' v' (ls ++ [l]) ∧ (∀ H0 : AH, H0 <+: H → H0.length ≤ lo → H0 <+: H') ∧ H.length ≤ H'.length ∧ isTup v' = false := by
  have hone : isTup w = false := by rcases hw with g | ⟨o, zs, g1, _⟩ <;> first | (rw [g.1]; rfl) | (rw [g1]; rfl)
  have bb : ∀ n : Nat, n ≤ 1099511627776 → n * P.bytesOf e2 ≤ 140737488355328 := fun n hn => by
    refine Nat.le_trans (Nat.mul_le_mul_left _ hby) ?_
    omega
  have hsc : sliceCells P e2 (.slice (some ⟨H.length, 0, none⟩) 1 1) (H ++ [.cells [w] e2 false]) = some (1, [w]) := by
    simp only [sliceCells, at_new, hc]; simp
  rcases h with ⟨h1, h2⟩ | ⟨o, us, h1, h2, h3, h4, h5, h6, h7⟩
  · subst h1; subst h2
    refine ⟨.slice (some ⟨H.length + 1, 0, none⟩) 1 1, H ++ [.cells [w] e2 false] ++ [.cells [w] e2 false], ?_, ?_, fun H0 hp _ => pre_app (pre_app hp _) _, by simp, rfl⟩
    · simp only [appendA, hu, hc, hsc, hz]
      have := bb 1 (by omega)
      simp at this ⊢
      exact this
    · refine .inr ⟨H.length + 1, [w], rfl, by omega, by simp, ?_, by simp, ?_, ?_⟩
      · rw [List.getElem?_append_right (by simp)]; simp
      · intro i hi'
        simp only [List.nil_append, List.length_cons, List.length_nil] at hi'
        obtain rfl : i = 0 := by omega
        refine ⟨((hw.pre (List.prefix_append _ _)).pre (List.prefix_append _ _)).wide hl1 (by simp; omega), ?_⟩
        rcases hw.at_ with g | g
        · exact .inl g
        · right
          show rowO w ≠ H.length + 1
          omega
      · intro i j hij hi' hj'
        simp at hi' hj'; omega
  · subst h1
    have ho := at_lt h4
    have hlt : o < (H ++ [AObj.cells [w] e2 false]).length := by simp; omega
    refine ⟨.slice (some ⟨H.length + 1, 0, none⟩) (ls.length + 1) (ls.length + 1), (H ++ [AObj.cells [w] e2 false]).set o AObj.dead ++ [AObj.cells (us.take ls.length ++ [w]) e2 false], ?_, ?_, ?_, by simp; omega, rfl⟩
    · have ho2 : (H ++ [AObj.cells [w] e2 false])[o]? = some (.cells us e2 false) := at_app h4 _
      simp only [appendA, hu, hc, hsc, hz, ho2]
      rw [if_pos (by simp), if_neg (by simp), if_pos ⟨trivial, by omega, bb _ (by omega), by omega, trivial⟩]
      simp
    · have keep : ∀ (j : Nat) (y : AObj), j ≠ o → H[j]? = some y → ((H ++ [AObj.cells [w] e2 false]).set o .dead ++ [AObj.cells (us.take ls.length ++ [w]) e2 false])[j]? = some y := by
        intro j y hj hy
        exact at_old (at_app hy _) (fun e => hj e.symm) _
      have hul : (us.take ls.length).length = ls.length := by simp; omega
      have uat : ∀ i, i < ls.length → (us.take ls.length ++ [w]).getD i undef = us.getD i undef := by
        intro i hi'
        rw [List.getD_eq_getElem?_getD, List.getD_eq_getElem?_getD, List.getElem?_append_left (by omega), List.getElem?_take, if_pos hi']
      have ulast : (us.take ls.length ++ [w]).getD ls.length undef = w := by
        rw [List.getD_eq_getElem?_getD, List.getElem?_append_right (by omega), hul]; simp
      have lat : ∀ i, i < ls.length → (ls ++ [l]).getD i [] = ls.getD i [] := by
        intro i hi'
        rw [List.getD_eq_getElem?_getD, List.getD_eq_getElem?_getD, List.getElem?_append_left hi']
      have llast : (ls ++ [l]).getD ls.length [] = l := by
        rw [List.getD_eq_getElem?_getD, List.getElem?_append_right (by omega)]; simp
      have aw : ∀ i, i < ls.length → Apart (us.getD i undef) w := by
        intro i hi'
        rcases (h6 i hi').1.at_ with g | g
        · exact .inr (.inl g)
        · rcases hw.at_ with g' | g'
          · exact .inl g'
          · exact .inr (.inr (by omega))
      refine .inr ⟨H.length + 1, us.take ls.length ++ [w], by simp, by omega, by simp, ?_, by simp; omega, ?_, ?_⟩
      · rw [List.getElem?_append_right (by simp)]; simp
      · intro i hi'
        simp only [List.length_append, List.length_cons, List.length_nil] at hi'
        by_cases hc' : i < ls.length
        · rw [uat i hc', lat i hc']
          obtain ⟨k1, k2⟩ := h6 i hc'
          refine ⟨(k1.move fun y hn hy => ?_).wide (Nat.le_refl _) (by simp; omega), ?_⟩
          · rcases k2 with g | g
            · exact absurd g hn
            · exact keep _ _ g hy
          · rcases k1.at_ with g | g
            · exact .inl g
            · exact .inr (by omega)
        · obtain rfl : i = ls.length := by omega
          rw [ulast, llast]
          refine ⟨(hw.move fun y hn hy => ?_).wide hl1 (by simp; omega), ?_⟩
          · rcases hw.at_ with g | g
            · exact absurd g hn
            · exact keep _ _ (by omega) hy
          · rcases hw.at_ with g | g
            · exact .inl g
            · exact .inr (by omega)
      · intro i j hij hi' hj'
        simp only [List.length_append, List.length_cons, List.length_nil] at hi' hj'
        by_cases ci : i < ls.length <;> by_cases cj : j < ls.length
        · rw [uat i ci, uat j cj]; exact h7 i j hij ci cj
        · obtain rfl : j = ls.length := by omega
          rw [uat i ci, ulast]; exact aw i ci
        · obtain rfl : i = ls.length := by omega
          rw [uat j cj, ulast]
          rcases aw j cj with g | g | g
          · exact .inr (.inl g)
          · exact .inl g
          · exact .inr (.inr fun e => g e.symm)
        · omega
    · intro H0 hp hl0
      refine pre_app (pre_set (pre_app hp _) (by omega) _) _

/-- counting through lists -/
def sizeL (ls : List (List Int)) : Nat := (ls.map List.length).sum
def runL (k : Int) : List (List Int) → List (List Int)
  | [] => []
  | l :: ls => runI k l.length :: runL (k + l.length) ls
theorem runL_len (k : Int) (ls : List (List Int)) : (runL k ls).length = ls.length := by
  induction ls generalizing k with
  | nil => rfl
  | cons l ls ih => simp [runL, ih]
theorem sizeL_cons (l : List Int) (ls : List (List Int)) : sizeL (l :: ls) = l.length + sizeL ls := by simp [sizeL]
theorem sizeL_take (ls : List (List Int)) (i : Nat) (h : i < ls.length) : sizeL (ls.take (i + 1)) = sizeL (ls.take i) + (ls.getD i []).length := by
  rw [List.take_add_one, List.getElem?_eq_getElem h]
  unfold sizeL
  rw [List.map_append, List.sum_append]
  simp [h]
theorem sizeL_le (ls : List (List Int)) (i : Nat) : sizeL (ls.take i) ≤ sizeL ls := by
  induction ls generalizing i with
  | nil => simp
  | cons l ls ih =>
    cases i with
    | zero => simp [sizeL]
    | succ i => simp only [List.take_succ_cons, sizeL_cons]; have := ih i; omega
theorem runL_at (k : Int) (ls : List (List Int)) (i : Nat) (h : i < ls.length) : (runL k ls).getD i [] = runI (k + sizeL (ls.take i)) (ls.getD i []).length := by
  induction ls generalizing k i with
  | nil => simp at h
  | cons l ls ih =>
    cases i with
    | zero => simp [runL, sizeL]
    | succ i =>
      simp only [List.length_cons] at h
      have := ih (k + l.length) i (by omega)
      simp only [runL, List.getD_cons_succ, List.take_succ_cons, sizeL_cons, this]
      congr 1
      omega
end Go.Proofs.Ytnoihoeaconllaa.Ai
