/- Triangulations, the program's side. -/
import Derived.Test.YthhnpchjjbjabaaTri
namespace Go.Proofs.Ythhnpchjjbjabaa.Ai
open Go Go.RowKit
set_option linter.unusedVariables false
set_option linter.unusedSimpArgs false

theorem cell_new (H : AH) (vs : List Value) (t : TypeId) (ro : Bool) (i : Nat) : cellA (H ++ [.cells vs t ro]) H.length i = vs[i]? := by simp [cellA]
theorem alloc_int (H : AH) : allocA Try.prog 3 H = some (.pointer (some ⟨H.length, 0, none⟩), H ++ [.cells [.int .i64 0] 3 false]) := by kernel_rfl
theorem store_int (H : AH) (x y : Int) : storeA Try.prog 3 (.pointer (some ⟨H.length, 0, none⟩)) (.int .i64 x) (H ++ [.cells [.int .i64 y] 3 false]) = some (H ++ [.cells [.int .i64 x] 3 false]) :=
  st_new rfl (by rw [cs3]; rfl) (by rw [cs3]; decide) (by rw [cs3]; rfl)

theorem mkf_p (f : Fn) (p : Option Addr) : makeFuncA f [] [.pointer p] = some (.func f #[] (List.toArray [.pointer p])) := rfl

/-- the i-th of a list goes well with those before it -/
def triOk (n : Int) (xs : List Int) (i : Nat) : Bool := decide (Diag n (xs.getD i 0)) && (decide (i = 0) || decide (xs.getD (i - 1) 0 < xs.getD i 0)) && !(xs.take i).any fun e => decide (Crs (xs.getD i 0) e)
def triI (n : Int) (xs : List Int) : Bool := decide ((xs.length : Int) = n - 3) && (List.range xs.length).all (triOk n xs)

end Go.Proofs.Ythhnpchjjbjabaa.Ai
