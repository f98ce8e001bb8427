/- Rows of any values of one cell that are read (RowV), rows of one's own (OwnV). No condition. -/
import Derived.Test.YtnoihoeaconllaaAiF
namespace Go.Proofs.Ytnoihoeaconllaa.Ai
open Go Go.RowKit
set_option linter.unusedVariables false
set_option linter.unusedSimpArgs false

/-- a slice that shows values -/
def RowV (e : TypeId) (H : AH) (v : Value) (us : List Value) : Prop :=
  (v = .slice none 0 0 ∧ us = []) ∨ ∃ o k vs ro, v = .slice (some ⟨o, k, none⟩) us.length us.length ∧ H[o]? = some (.cells vs e ro) ∧ k + us.length ≤ vs.length ∧ (vs.drop k).take us.length = us

theorem Row.toV {e : TypeId} {H : AH} {v : Value} {xs : List Int} (h : Row e H v xs) : RowV e H v (ints xs) := by
  rcases h with ⟨h1, h2⟩ | ⟨o, k, vs, ro, h1, h2, h3, h4⟩
  · subst h2; exact .inl ⟨h1, rfl⟩
  · exact .inr ⟨o, k, vs, ro, by rw [ints_len]; exact h1, h2, by rw [ints_len]; exact h3, by rw [ints_len]; exact h4⟩

theorem RowV.mono {e : TypeId} {H H' : AH} {v : Value} {us : List Value} (h : RowV e H v us) (hh : ∀ x, H[rowO v]? = some x → H'[rowO v]? = some x) : RowV e H' v us := by
  rcases h with h | ⟨o, k, vs, ro, h1, h2, h3⟩
  · exact .inl h
  · subst h1; exact .inr ⟨o, k, vs, ro, rfl, hh _ h2, h3⟩
theorem RowV.pre {e : TypeId} {H H' : AH} {v : Value} {us : List Value} (h : RowV e H v us) (hp : H <+: H') : RowV e H' v us := h.mono fun x hx => pre_at hp hx
theorem RowV.shape {e : TypeId} {H : AH} {v : Value} {us : List Value} (h : RowV e H v us) : ∃ p, v = .slice p us.length us.length := by
  rcases h with ⟨h1, h2⟩ | ⟨o, k, vs, ro, h1, _⟩
  · subst h2; exact ⟨_, h1⟩
  · exact ⟨_, h1⟩
theorem RowV.tup {e : TypeId} {H : AH} {v : Value} {us : List Value} (h : RowV e H v us) : isTup v = false := by
  obtain ⟨p, rfl⟩ := h.shape; rfl
theorem RowV.len {P : Program} {t e : TypeId} (hu : P.underlying t = some (.slice e)) {H : AH} {v : Value} {us : List Value} (h : RowV e H v us) : lenA P t v = some (.int .i64 us.length) := by
  obtain ⟨p, rfl⟩ := h.shape; exact ln_sl hu _ _ _
theorem RowV.ix {P : Program} {t e : TypeId} (hu : P.underlying t = some (.slice e)) (hc : P.cellsOf e = 1) {H : AH} {v : Value} {us : List Value} (h : RowV e H v us) (k : IntKind) {i : Int} (h0 : 0 ≤ i) (h1 : i < (us.length : Int)) :
    indexAddrA P t v (.int k i) = some (.pointer (some ⟨rowO v, rowK v + i.toNat, none⟩)) := by
  rcases h with ⟨_, h2⟩ | ⟨o, k2, vs, ro, e1, _⟩
  · subst h2; simp at h1; omega
  · subst e1; exact ix_one hu hc _ _ _ _ h0 h1
theorem RowV.cell {e : TypeId} {H : AH} {v : Value} {us : List Value} (h : RowV e H v us) {j : Nat} (hj : j < us.length) : cellA H (rowO v) (rowK v + j) = some (us.getD j undef) := by
  rcases h with ⟨_, h2⟩ | ⟨o, k, vs, ro, e1, h2, h3, h4⟩
  · subst h2; simp at hj
  · subst e1
    rw [show cellA H (rowO _) _ = cellA H o (k + j) from rfl, cell_of h2]
    have := congrArg (·[j]?) h4
    simp only [List.getElem?_take, List.getElem?_drop, if_pos hj] at this
    rw [this]
    simp [hj]
theorem RowV.cells {P : Program} {e : TypeId} (hc : P.cellsOf e = 1) {H : AH} {v : Value} {us : List Value} (h : RowV e H v us) : sliceCells P e v H = some (us.length, us) := by
  rcases h with ⟨h1, h2⟩ | ⟨o, k, vs, ro, e1, h2, h3, h4⟩
  · subst h1; subst h2; rfl
  · subst e1
    simp only [sliceCells, h2, hc, Nat.mul_one]
    rw [if_pos ⟨h3, trivial⟩, h4]
/-- a row just made -/
theorem RowV.new (e : TypeId) (H : AH) (us : List Value) : RowV e (H ++ [.cells us e false]) (.slice (some ⟨H.length, 0, none⟩) us.length us.length) us := by
  refine .inr ⟨H.length, 0, us, false, rfl, at_new .., by simp, ?_⟩
  simp
theorem RowV.slice {P : Program} {t e : TypeId} (hu : P.underlying t = some (.slice e)) (hc : P.cellsOf e = 1) {H : AH} {v : Value} {us : List Value} (h : RowV e H v us) {lo hi : Option Value} {l r : Nat} (h1 : boundA lo 0 = some l) (h2 : boundA hi us.length = some r) (hl : l ≤ r) (hr : r ≤ us.length) :
    sliceA P t v lo hi none H = some (subV v l r) ∧ RowV e H (subV v l r) ((us.drop l).take (r - l)) ∧ (rowO (subV v l r) = rowO v) := by
  rcases h with ⟨e1, e2⟩ | ⟨o, k, vs, ro, e1, g2, g3, g4⟩
  · subst e1; subst e2
    have hr0 : r = 0 := by simpa using hr
    have hl0 : l = 0 := by omega
    subst hr0; subst hl0
    refine ⟨?_, .inl ⟨rfl, by simp⟩, rfl⟩
    simp only [List.length_nil] at h2
    simp only [sliceA, hu, h1, h2, hc, subV]; rfl
  · subst e1
    refine ⟨?_, .inr ⟨o, k + l, vs, ro, ?_, g2, ?_, ?_⟩, rfl⟩
    · simp only [sliceA, hu, h1, h2, g2, hc, Nat.mul_one, subV]
      rw [if_pos ⟨hl, hr, trivial, Nat.one_pos⟩]
    · simp only [subV, List.length_take, List.length_drop]
      rw [Nat.min_eq_left (by omega)]
    · simp only [List.length_take, List.length_drop]; omega
    · have e3 : ((us.drop l).take (r - l)).length = r - l := by simp; omega
      rw [e3, ← List.drop_drop]
      have e4 : (us.drop l).take (r - l) = (((vs.drop k).take us.length).drop l).take (r - l) := by rw [g4]
      rw [e4, List.drop_take, List.take_take, Nat.min_eq_left (by omega)]
end Go.Proofs.Ytnoihoeaconllaa.Ai
