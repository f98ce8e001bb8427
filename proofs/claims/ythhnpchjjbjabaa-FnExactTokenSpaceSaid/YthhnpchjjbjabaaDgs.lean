/- The diagonals, the program's side. -/
import Derived.Test.YthhnpchjjbjabaaTriP
namespace Go.Proofs.Ythhnpchjjbjabaa.Ai
open Go Go.RowKit
set_option linter.unusedVariables false
set_option linter.unusedSimpArgs false

/-- the diagonals below a number, in order -/
def dgI (n : Int) (k : Nat) : List Int := ((List.range k).map fun (i : Nat) => (i : Int)).filter fun d => decide (Diag n d)
theorem dgI_step (n : Int) (k : Nat) : dgI n (k + 1) = dgI n k ++ if Diag n k then [(k : Int)] else [] := by
  unfold dgI
  rw [List.range_succ, List.map_append, List.filter_append]
  by_cases h : Diag n k <;> simp [h]
theorem dgI_len (n : Int) (k : Nat) : (dgI n k).length ≤ k := by
  unfold dgI
  refine Nat.le_trans (List.length_filter_le _ _) ?_
  simp
theorem dgI_eq : ∀ n : Fin 9, 3 ≤ n.val → dgI (n.val : Int) 100 = dgs (n.val : Int) n.val := by decide

end Go.Proofs.Ythhnpchjjbjabaa.Ai
