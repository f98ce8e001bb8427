/- Maps from whole numbers to whole numbers: finding, putting. -/
import Derived.Test.YthhnpchjjbjabaaTy
namespace Go.Proofs.Ythhnpchjjbjabaa.Ai
open Go Go.RowKit
set_option linter.unusedVariables false
set_option linter.unusedSimpArgs false

/-- the entries of a map -/
def mpI (l : List (Int × Int)) : List (Value × Value) := l.map fun e => (.int .i64 e.1, .int .i64 e.2)
theorem mpI_len (l : List (Int × Int)) : (mpI l).length = l.length := by simp [mpI]
def getI (l : List (Int × Int)) (k : Int) : Option Int := (l.find? fun e => decide (e.1 = k)).map (·.2)
theorem findA_none (k : Int) : ∀ (l : List (Int × Int)) (i : Nat), k ∉ l.map (·.1) → findA (.int .i64 k) (mpI l) i = some none
  | [], i, _ => rfl
  | e :: l, i, h => by
    have h1 : ¬ k = e.1 := fun q => h (by simp [q])
    have h2 : k ∉ l.map (·.1) := fun q => h (by simp only [List.map_cons, List.mem_cons]; exact .inr q)
    show (if IntKind.i64 = IntKind.i64 then (if k = e.1 then some (some (i, Value.int .i64 e.2)) else findA (.int .i64 k) (mpI l) (i + 1)) else none) = _
    rw [if_pos rfl, if_neg h1]
    exact findA_none k l (i + 1) h2
theorem findA_some (k d : Int) : ∀ (l : List (Int × Int)) (i : Nat), getI l k = some d → ∃ j, findA (.int .i64 k) (mpI l) i = some (some (j, .int .i64 d))
  | [], i, h => by simp [getI] at h
  | e :: l, i, h => by
    by_cases h1 : k = e.1
    · refine ⟨i, ?_⟩
      show (if IntKind.i64 = IntKind.i64 then (if k = e.1 then some (some (i, Value.int .i64 e.2)) else findA (.int .i64 k) (mpI l) (i + 1)) else none) = _
      rw [if_pos rfl, if_pos h1]
      have : e.2 = d := by simpa [getI, h1] using h
      rw [this]
    · have hg : getI l k = some d := by
        have h1' : ¬ e.1 = k := fun q => h1 q.symm
        unfold getI at h ⊢
        rw [List.find?_cons] at h
        rw [decide_eq_false h1'] at h
        exact h
      obtain ⟨j, hj⟩ := findA_some k d l (i + 1) hg
      refine ⟨j, ?_⟩
      show (if IntKind.i64 = IntKind.i64 then (if k = e.1 then some (some (i, Value.int .i64 e.2)) else findA (.int .i64 k) (mpI l) (i + 1)) else none) = _
      rw [if_pos rfl, if_neg h1]
      exact hj
theorem getI_none {l : List (Int × Int)} {k : Int} (h : getI l k = none) : k ∉ l.map (·.1) := by
  unfold getI at h
  rw [Option.map_eq_none_iff, List.find?_eq_none] at h
  intro hm
  obtain ⟨e, h1, h2⟩ := List.mem_map.1 hm
  have := h e h1
  simp only [decide_eq_true_eq] at this
  exact this h2
/-- what a map says of a key, with a second result -/
theorem lookI {H : AH} {o : Nat} {l : List (Int × Int)} (ho : H[o]? = some (.mp (mpI l))) (k : Int) :
    lookupA Try.prog 70 (.map (some o)) (.int .i64 k) true H = some (.tuple (List.toArray [.int .i64 ((getI l k).getD 0), .bool (getI l k).isSome])) := by
  cases h : getI l k with
  | none =>
    have := findA_none k l 0 (getI_none h)
    simp only [lookupA, Try.underlying70, Try.underlying3, ho, this, ze3]
    rfl
  | some d =>
    obtain ⟨j, hj⟩ := findA_some k d l 0 h
    simp only [lookupA, Try.underlying70, Try.underlying3, ho, hj]
    rfl
/-- .. and without -/
theorem lookI1 {H : AH} {o : Nat} {l : List (Int × Int)} (ho : H[o]? = some (.mp (mpI l))) (k : Int) :
    lookupA Try.prog 70 (.map (some o)) (.int .i64 k) false H = some (.int .i64 ((getI l k).getD 0)) := by
  cases h : getI l k with
  | none =>
    have := findA_none k l 0 (getI_none h)
    simp only [lookupA, Try.underlying70, Try.underlying3, ho, this, ze3]
    rfl
  | some d =>
    obtain ⟨j, hj⟩ := findA_some k d l 0 h
    simp only [lookupA, Try.underlying70, Try.underlying3, ho, hj]
    rfl
/-- a new key -/
theorem updI {H : AH} {o : Nat} {l : List (Int × Int)} (ho : H[o]? = some (.mp (mpI l))) {k : Int} (hk : k ∉ l.map (·.1)) (d : Int) :
    updA Try.prog 70 (.map (some o)) (.int .i64 k) (.int .i64 d) H = some (H.set o (.mp (mpI (l ++ [(k, d)])))) := by
  have := findA_none k l 0 hk
  simp only [updA, Try.underlying70, Try.underlying3, ho, this]
  rw [if_pos (by rfl)]
  simp [mpI]
theorem lenI {H : AH} {o : Nat} {l : List (Int × Int)} (ho : H[o]? = some (.mp (mpI l))) : lenMapA Try.prog 70 (.map (some o)) H = some (.int .i64 (l.length : Int)) := by
  simp only [lenMapA, Try.underlying70, ho, mpI_len]
end Go.Proofs.Ythhnpchjjbjabaa.Ai
