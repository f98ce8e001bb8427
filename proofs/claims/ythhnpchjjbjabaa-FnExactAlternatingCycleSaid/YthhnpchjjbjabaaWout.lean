/- What of a list another one does not have (impl.without). -/
import Derived.Test.YthhnpchjjbjabaaAiM3
import Derived.Test.YthhnpchjjbjabaaIndex
namespace Go.Proofs.Ythhnpchjjbjabaa.Ai
open Go Go.RowKit
set_option linter.unusedVariables false
set_option linter.unusedSimpArgs false

/-- what of a list another one does not have -/
def without (xs ys : List Int) : List Int := xs.filter fun x => decide (¬ x ∈ ys)
theorem without_step (xs ys : List Int) (i : Nat) (hi : i < xs.length) : without (xs.take (i + 1)) ys = without (xs.take i) ys ++ if xs.getD i 0 ∈ ys then [] else [xs.getD i 0] := by
  unfold without
  rw [List.take_add_one, List.getElem?_eq_getElem hi, List.filter_append]
  have hx : xs.getD i 0 = xs[i] := by simp [hi]
  rw [hx]
  by_cases h : xs[i] ∈ ys <;> simp [h]
theorem without_len (xs ys : List Int) : (without xs ys).length ≤ xs.length := List.length_filter_le _ _

end Go.Proofs.Ythhnpchjjbjabaa.Ai
