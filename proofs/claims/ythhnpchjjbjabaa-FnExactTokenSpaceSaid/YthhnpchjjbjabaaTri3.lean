/- Triangulations, the reference's side. -/
import Derived.Test.YthhnpchjjbjabaaTri2
import Derived.Test.YthhnpchjjbjabaaInts
namespace Go.Proofs.Ythhnpchjjbjabaa.Ai
open Go Go.RowKit
set_option linter.unusedVariables false
set_option linter.unusedSimpArgs false

/-- the diagonals at a corner, as far as b -/
def dgRow (n a : Int) : Nat → List Int
  | 0 => []
  | k + 1 => dgRow n a k ++ (if 0 < a ∨ a + 2 + (k : Int) < n - 1 then [10 * a + (a + 2 + (k : Int))] else [])
def dgs (n : Int) : Nat → List Int
  | 0 => []
  | a + 1 => dgs n a ++ dgRow n a (n - a - 2).toNat
theorem dgRow_len (n a : Int) (k : Nat) : (dgRow n a k).length ≤ k := by
  induction k with
  | zero => exact Nat.le_refl _
  | succ k ih => simp only [dgRow, List.length_append]; split <;> simp <;> omega
theorem dgs_len (n : Int) (a : Nat) (h : n ≤ 10) (h0 : 0 ≤ n) : (dgs n a).length ≤ 20 * a := by
  induction a with
  | zero => exact Nat.le_refl _
  | succ a ih =>
    have := dgRow_len n a (n - a - 2).toNat
    simp only [dgs, List.length_append]; omega

def triOkS (n : Int) (xs : List Int) (i : Nat) : Bool := decide (xs.getD i 0 ∈ dgs n n.toNat) && (decide (i = 0) || decide (xs.getD (i - 1) 0 < xs.getD i 0)) && !(xs.take i).any fun y => decide (Crs y (xs.getD i 0))
def triS (n : Int) (xs : List Int) : Bool := (List.range xs.length).all (triOkS n xs) && decide ((xs.length : Int) = n - 3)

end Go.Proofs.Ythhnpchjjbjabaa.Ai
