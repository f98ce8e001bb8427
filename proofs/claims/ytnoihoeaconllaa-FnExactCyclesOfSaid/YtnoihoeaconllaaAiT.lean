/- Lists of lists, their parts told: one more list at the end (InU.app1), an object that is not among them. No condition. -/
import Derived.Test.YtnoihoeaconllaaAiK
namespace Go.Proofs.Ytnoihoeaconllaa.Ai
open Go Go.RowKit
set_option linter.unusedVariables false
set_option linter.unusedSimpArgs false

/-- an object that is none of theirs -/
def Away (q o : Nat) (us : List Value) (ls : List (List Int)) : Prop := o ≠ q ∧ ∀ i, i < ls.length → us.getD i undef = .slice none 0 0 ∨ rowO (us.getD i undef) ≠ q
theorem InU.moveq {lo hi q : Nat} {e2 e : TypeId} {H H' : AH} {o : Nat} {us : List Value} {ls : List (List Int)} (h : InU lo hi e2 e H o us ls) (ha : Away q o us ls) (hh : ∀ (j : Nat) (y : AObj), j ≠ q → H[j]? = some y → H'[j]? = some y) : InU lo hi e2 e H' o us ls := by
  obtain ⟨h1, h2, h3, h4, h5, h6⟩ := h
  refine ⟨h1, h2, hh _ _ ha.1 h3, h4, fun i hi => ⟨(h5 i hi).1.move fun y hn hy => ?_, (h5 i hi).2⟩, h6⟩
  rcases ha.2 i hi with g | g
  · exact absurd g hn
  · exact hh _ _ g hy
theorem InU.wide {lo hi lo' hi' : Nat} {e2 e : TypeId} {H : AH} {o : Nat} {us : List Value} {ls : List (List Int)} (h : InU lo hi e2 e H o us ls) (h1 : lo' ≤ lo) (h2 : hi ≤ hi') : InU lo' hi' e2 e H o us ls := by
  obtain ⟨g2, g3, g4, g5, g6, g7⟩ := h
  exact ⟨by omega, by omega, g4, g5, fun i hi => ⟨(g6 i hi).1.wide h1 h2, (g6 i hi).2⟩, g7⟩
theorem InU.pre {lo hi : Nat} {e2 e : TypeId} {H H' : AH} {o : Nat} {us : List Value} {ls : List (List Int)} (h : InU lo hi e2 e H o us ls) (hp : H <+: H') : InU lo hi e2 e H' o us ls := h.move fun j y _ _ hy => pre_at hp hy
theorem InU.away {lo hi q : Nat} {e2 e : TypeId} {H : AH} {o : Nat} {us : List Value} {ls : List (List Int)} (h : InU lo hi e2 e H o us ls) (hq : q < lo ∨ hi ≤ q) : Away q o us ls := by
  obtain ⟨g2, g3, g4, g5, g6, g7⟩ := h
  refine ⟨by omega, fun i hi => ?_⟩
  rcases (g6 i hi).1.at_ with g | g
  · exact .inl g
  · exact .inr (by omega)
theorem InU.inl {lo hi : Nat} {e2 e : TypeId} {H : AH} {o : Nat} {us : List Value} {ls : List (List Int)} (h : InU lo hi e2 e H o us ls) : InL lo hi e2 e H (.slice (some ⟨o, 0, none⟩) ls.length ls.length) ls := .inr ⟨o, us, rfl, h⟩
/-- an empty one -/
theorem InU.new (lo : Nat) (e2 e : TypeId) (H : AH) (hl : lo ≤ H.length) : InU lo (H.length + 1) e2 e (H ++ [.cells [] e2 false]) H.length [] [] :=
  ⟨hl, by omega, at_new .., Nat.le_refl _, fun i hi => absurd hi (by simp), fun i j _ hi _ => absurd hi (by simp)⟩

theorem InU.app1 {P : Program} {t2 e2 e : TypeId} (hu : P.underlying t2 = some (.slice e2)) (hc : P.cellsOf e2 = 1) (hby : P.bytesOf e2 ≤ 64) (hz : zeroOk P e2 = true) {lo hi hi2 : Nat} {H : AH} {o : Nat} {us : List Value} {w : Value} {ls : List (List Int)} {l : List Int}
    (h : InU lo hi e2 e H o us ls) (hw : InI hi hi2 e H w l) (hl1 : lo ≤ hi) (hl2 : hi ≤ H.length) (hl3 : hi2 ≤ H.length) (hb : ls.length ≤ 1099511627775) :
    ∃ H', appendA P t2 t2 (.slice (some ⟨o, 0, none⟩) ls.length ls.length) (.slice (some ⟨H.length, 0, none⟩) 1 1) (H ++ [.cells [w] e2 false]) = some (.slice (some ⟨H.length + 1, 0, none⟩) (ls.length + 1) (ls.length + 1), H') ∧
      InU lo (H.length + 2) e2 e H' (H.length + 1) (us.take ls.length ++ [w]) (ls ++ [l]) ∧ H'.length = H.length + 2 ∧ (∀ (j : Nat) (y : AObj), j ≠ o → H[j]? = some y → H'[j]? = some y) := by
  have bb : ∀ n : Nat, n ≤ 1099511627776 → n * P.bytesOf e2 ≤ 140737488355328 := fun n hn => by
    refine Nat.le_trans (Nat.mul_le_mul_left _ hby) ?_
    omega
  have hsc : sliceCells P e2 (.slice (some ⟨H.length, 0, none⟩) 1 1) (H ++ [.cells [w] e2 false]) = some (1, [w]) := by
    simp only [sliceCells, at_new, hc]; simp
  obtain ⟨h2, h3, h4, h5, h6, h7⟩ := h
  have ho := at_lt h4
  have hlt : o < (H ++ [AObj.cells [w] e2 false]).length := by simp; omega
  have keep : ∀ (j : Nat) (y : AObj), j ≠ o → H[j]? = some y → ((H ++ [AObj.cells [w] e2 false]).set o AObj.dead ++ [AObj.cells (us.take ls.length ++ [w]) e2 false])[j]? = some y := by
    intro j y hj hy
    exact at_old (at_app hy _) (fun e => hj e.symm) _
  refine ⟨(H ++ [AObj.cells [w] e2 false]).set o AObj.dead ++ [AObj.cells (us.take ls.length ++ [w]) e2 false], ?_, ?_, by simp, keep⟩
  · have ho2 : (H ++ [AObj.cells [w] e2 false])[o]? = some (.cells us e2 false) := at_app h4 _
    simp only [appendA, hu, hc, hsc, hz, ho2]
    rw [if_pos (by simp), if_neg (by simp), if_pos ⟨trivial, by omega, bb _ (by omega), by omega, trivial⟩]
    simp
  · have hul : (us.take ls.length).length = ls.length := by simp; omega
    have uat : ∀ i, i < ls.length → (us.take ls.length ++ [w]).getD i undef = us.getD i undef := by
      intro i hi'
      rw [List.getD_eq_getElem?_getD, List.getD_eq_getElem?_getD, List.getElem?_append_left (by omega), List.getElem?_take, if_pos hi']
    have ulast : (us.take ls.length ++ [w]).getD ls.length undef = w := by
      rw [List.getD_eq_getElem?_getD, List.getElem?_append_right (by omega), hul]; simp
    have lat : ∀ i, i < ls.length → (ls ++ [l]).getD i [] = ls.getD i [] := by
      intro i hi'
      rw [List.getD_eq_getElem?_getD, List.getD_eq_getElem?_getD, List.getElem?_append_left hi']
    have llast : (ls ++ [l]).getD ls.length [] = l := by
      rw [List.getD_eq_getElem?_getD, List.getElem?_append_right (by omega)]; simp
    have aw : ∀ i, i < ls.length → Apart (us.getD i undef) w := by
      intro i hi'
      rcases (h6 i hi').1.at_ with g | g
      · exact .inr (.inl g)
      · rcases hw.at_ with g' | g'
        · exact .inl g'
        · exact .inr (.inr (by omega))
    refine ⟨by omega, by omega, ?_, by simp; omega, ?_, ?_⟩
    · rw [List.getElem?_append_right (by simp)]; simp
    · intro i hi'
      simp only [List.length_append, List.length_cons, List.length_nil] at hi'
      by_cases hc' : i < ls.length
      · rw [uat i hc', lat i hc']
        obtain ⟨k1, k2⟩ := h6 i hc'
        refine ⟨(k1.move fun y hn hy => ?_).wide (Nat.le_refl _) (by omega), ?_⟩
        · rcases k2 with g | g
          · exact absurd g hn
          · exact keep _ _ g hy
        · rcases k1.at_ with g | g
          · exact .inl g
          · exact .inr (by omega)
      · obtain rfl : i = ls.length := by omega
        rw [ulast, llast]
        refine ⟨(hw.move fun y hn hy => ?_).wide hl1 (by omega), ?_⟩
        · rcases hw.at_ with g | g
          · exact absurd g hn
          · exact keep _ _ (by omega) hy
        · rcases hw.at_ with g | g
          · exact .inl g
          · exact .inr (by omega)
    · intro i j hij hi' hj'
      simp only [List.length_append, List.length_cons, List.length_nil] at hi' hj'
      by_cases ci : i < ls.length <;> by_cases cj : j < ls.length
      · rw [uat i ci, uat j cj]; exact h7 i j hij ci cj
      · obtain rfl : j = ls.length := by omega
        rw [uat i ci, ulast]; exact aw i ci
      · obtain rfl : i = ls.length := by omega
        rw [uat j cj, ulast]
        rcases aw j cj with g | g | g
        · exact .inr (.inl g)
        · exact .inl g
        · exact .inr (.inr fun e => g e.symm)
      · omega
end Go.Proofs.Ytnoihoeaconllaa.Ai
