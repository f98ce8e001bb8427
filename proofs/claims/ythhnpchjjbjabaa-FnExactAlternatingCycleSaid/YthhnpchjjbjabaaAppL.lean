/- Appending one list of lists to another. No condition. -/
import Derived.Test.YthhnpchjjbjabaaAiM3
namespace Go.Proofs.Ythhnpchjjbjabaa.Ai
open Go Go.RowKit
set_option linter.unusedVariables false

theorem InU.appL {P : Program} {t2 e2 e : TypeId} (hu : P.underlying t2 = some (.slice e2)) (hc : P.cellsOf e2 = 1) (hby : P.bytesOf e2 ≤ 64) (hz : zeroOk P e2 = true) {lo hi hi2 : Nat} {H : AH} {o : Nat} {us : List Value} {w : Value} {ls ms : List (List Int)}
    (h : InU lo hi e2 e H o us ls) (hw : InL hi hi2 e2 e H w ms) (hl1 : lo ≤ hi) (hl2 : hi ≤ hi2) (hl3 : hi2 ≤ H.length) (hb : ls.length + ms.length ≤ 1099511627775) :
    ∃ v' H' o' us', appendA P t2 t2 (.slice (some ⟨o, 0, none⟩) ls.length ls.length) w H = some (v', H') ∧ v' = .slice (some ⟨o', 0, none⟩) (ls ++ ms).length (ls ++ ms).length ∧
      InU lo H'.length e2 e H' o' us' (ls ++ ms) ∧ H.length ≤ H'.length ∧ (∀ (j : Nat) (y : AObj), j ≠ o → H[j]? = some y → H'[j]? = some y) ∧ (o' = o ∨ H.length ≤ o') := by
  have bb : ∀ n : Nat, n ≤ 1099511627776 → n * P.bytesOf e2 ≤ 140737488355328 := fun n hn => by
    refine Nat.le_trans (Nat.mul_le_mul_left _ hby) ?_
    omega
  by_cases hm : ms.length = 0
  · have hms : ms = [] := List.eq_nil_of_length_eq_zero hm
    subst hms
    have hsc : ∃ us2, sliceCells P e2 w H = some (0, us2) := by
      rcases hw with ⟨rfl, _⟩ | ⟨o2, us2, rfl, g1, g2, g3, _⟩
      · exact ⟨[], rfl⟩
      · refine ⟨(us2.drop 0).take (0 * P.cellsOf e2), ?_⟩
        simp only [sliceCells, g3, List.length_nil]
        rw [if_pos ⟨by omega, trivial⟩]
    obtain ⟨us2, hsc⟩ := hsc
    refine ⟨_, H, o, us, ?_, by rw [List.append_nil], ?_, Nat.le_refl _, fun j y _ hy => hy, .inl rfl⟩
    · simp only [appendA, hu, hc, hsc, isSl]
      rw [if_pos (by simp), if_pos (by simp), if_pos trivial]
    · rw [List.append_nil]
      obtain ⟨h1, h2, h3, h4, h5, h6⟩ := h
      exact ⟨h1, by omega, h3, h4, fun i hi' => ⟨(h5 i hi').1.wide (Nat.le_refl _) (by omega), (h5 i hi').2⟩, h6⟩
  rcases hw with ⟨_, e0⟩ | ⟨o2, us2, rfl, g1, g2, g3, g4, g5, g6⟩
  · rw [e0] at hm; simp at hm
  have hsc : sliceCells P e2 (.slice (some ⟨o2, 0, none⟩) ms.length ms.length) H = some (ms.length, us2.take ms.length) := by
    simp only [sliceCells, g3, hc, Nat.mul_one, List.drop_zero]
    rw [if_pos ⟨by omega, trivial⟩]
  obtain ⟨h2, h3, h4, h5, h6, h7⟩ := h
  have ho := at_lt h4
  have keep : ∀ (j : Nat) (y : AObj), j ≠ o → H[j]? = some y → (H.set o AObj.dead ++ [AObj.cells (us.take ls.length ++ us2.take ms.length) e2 false])[j]? = some y := by
    intro j y hj hy
    exact at_old hy (fun e => hj e.symm) _
  refine ⟨.slice (some ⟨H.length, 0, none⟩) (ls.length + ms.length) (ls.length + ms.length), H.set o AObj.dead ++ [AObj.cells (us.take ls.length ++ us2.take ms.length) e2 false], H.length, us.take ls.length ++ us2.take ms.length, ?_, by rw [List.length_append], ?_, by simp, keep, .inr (Nat.le_refl _)⟩
  · simp only [appendA, hu, hc, hsc, hz, h4]
    rw [if_pos (by simp), if_neg hm, if_pos ⟨trivial, by omega, bb _ (by omega), by omega, trivial⟩]
    simp
  · have hul : (us.take ls.length).length = ls.length := by simp; omega
    have hul2 : (us2.take ms.length).length = ms.length := by simp; omega
    have uat : ∀ i, i < ls.length → (us.take ls.length ++ us2.take ms.length).getD i undef = us.getD i undef := by
      intro i hi'
      rw [List.getD_eq_getElem?_getD, List.getD_eq_getElem?_getD, List.getElem?_append_left (by omega), List.getElem?_take, if_pos hi']
    have uat2 : ∀ i, i < ms.length → (us.take ls.length ++ us2.take ms.length).getD (ls.length + i) undef = us2.getD i undef := by
      intro i hi'
      rw [List.getD_eq_getElem?_getD, List.getD_eq_getElem?_getD, List.getElem?_append_right (by omega), hul, Nat.add_sub_cancel_left, List.getElem?_take, if_pos hi']
    have lat : ∀ i, i < ls.length → (ls ++ ms).getD i [] = ls.getD i [] := by
      intro i hi'
      rw [List.getD_eq_getElem?_getD, List.getD_eq_getElem?_getD, List.getElem?_append_left hi']
    have lat2 : ∀ i, i < ms.length → (ls ++ ms).getD (ls.length + i) [] = ms.getD i [] := by
      intro i hi'
      rw [List.getD_eq_getElem?_getD, List.getD_eq_getElem?_getD, List.getElem?_append_right (by omega), Nat.add_sub_cancel_left]
    have cross : ∀ i j, i < ls.length → j < ms.length → Apart (us.getD i undef) (us2.getD j undef) := by
      intro i j hi' hj'
      rcases (h6 i hi').1.at_ with g | g
      · exact .inr (.inl g)
      · rcases (g5 j hj').1.at_ with g' | g'
        · exact .inl g'
        · exact .inr (.inr (by omega))
    refine ⟨by omega, by simp, ?_, by simp; omega, ?_, ?_⟩
    · rw [List.getElem?_append_right (by simp)]; simp
    · intro i hi'
      rw [List.length_append] at hi'
      by_cases hc' : i < ls.length
      · rw [uat i hc', lat i hc']
        obtain ⟨k1, k2⟩ := h6 i hc'
        refine ⟨(k1.move fun y hn hy => ?_).wide (Nat.le_refl _) (by simp; omega), ?_⟩
        · rcases k2 with g | g
          · exact absurd g hn
          · exact keep _ _ g hy
        · rcases k1.at_ with g | g
          · exact .inl g
          · exact .inr (by omega)
      · obtain ⟨j, rfl⟩ : ∃ j, i = ls.length + j := ⟨i - ls.length, by omega⟩
        have hj : j < ms.length := by omega
        rw [uat2 j hj, lat2 j hj]
        obtain ⟨k1, k2⟩ := g5 j hj
        refine ⟨(k1.move fun y hn hy => ?_).wide hl1 (by simp; omega), ?_⟩
        · rcases k1.at_ with g | g
          · exact absurd g hn
          · exact keep _ _ (by omega) hy
        · rcases k1.at_ with g | g
          · exact .inl g
          · exact .inr (by omega)
    · intro i j hij hi' hj'
      rw [List.length_append] at hi' hj'
      by_cases ci : i < ls.length <;> by_cases cj : j < ls.length
      · rw [uat i ci, uat j cj]; exact h7 i j hij ci cj
      · obtain ⟨j', rfl⟩ : ∃ j', j = ls.length + j' := ⟨j - ls.length, by omega⟩
        rw [uat i ci, uat2 j' (by omega)]; exact cross i j' ci (by omega)
      · obtain ⟨i', rfl⟩ : ∃ i', i = ls.length + i' := ⟨i - ls.length, by omega⟩
        rw [uat j cj, uat2 i' (by omega)]
        rcases cross j i' cj (by omega) with g | g | g
        · exact .inr (.inl g)
        · exact .inl g
        · exact .inr (.inr fun e => g e.symm)
      · obtain ⟨i', rfl⟩ : ∃ i', i = ls.length + i' := ⟨i - ls.length, by omega⟩
        obtain ⟨j', rfl⟩ : ∃ j', j = ls.length + j' := ⟨j - ls.length, by omega⟩
        rw [uat2 i' (by omega), uat2 j' (by omega)]
        exact g6 i' j' (by omega) (by omega) (by omega)
/-- the lists of a list of lists -/
theorem InL.parts {lo hi : Nat} {e2 e : TypeId} {H : AH} {v : Value} {ls : List (List Int)} (h : InL lo hi e2 e H v ls) : ∃ us : List Value, RowV e2 H v us ∧ us.length = ls.length ∧ ∀ i, i < ls.length → InI lo hi e H (us.getD i undef) (ls.getD i []) := by
  rcases h with ⟨h1, h2⟩ | ⟨o, us, h0, h1, h2, h3, h4, h5, h6⟩
  · subst h1; subst h2; exact ⟨[], .inl ⟨rfl, rfl⟩, rfl, fun i hi => absurd hi (by simp)⟩
  · refine ⟨us.take ls.length, .inr ⟨o, 0, us, false, by simp [h0, Nat.min_eq_left h4], h3, by simp; omega, by simp [Nat.min_eq_left h4]⟩, by simp; omega, fun i hi => ?_⟩
    have : (us.take ls.length).getD i undef = us.getD i undef := by
      rw [List.getD_eq_getElem?_getD, List.getD_eq_getElem?_getD, List.getElem?_take, if_pos hi]
    rw [this]
    exact (h5 i hi).1
end Go.Proofs.Ythhnpchjjbjabaa.Ai
