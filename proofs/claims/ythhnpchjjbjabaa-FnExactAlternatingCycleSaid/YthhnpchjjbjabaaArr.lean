/- Pairs of ints as one value: variables of this type. -/
import Derived.Test.YthhnpchjjbjabaaTy
namespace Go.Proofs.Ythhnpchjjbjabaa.Ai
open Go Go.RowKit
set_option linter.unusedVariables false
set_option linter.unusedSimpArgs false

theorem alloc_a2 (H : AH) : allocA Try.prog 76 H = some (.pointer (some ⟨H.length, 0, none⟩), H ++ [.cells [.int .i64 0, .int .i64 0] 76 false]) := by kernel_rfl
theorem build_a2 (a b : Int) : buildA Try.prog 76 [(0, .int .i64 a), (1, .int .i64 b)] = some (.agg (List.toArray [.int .i64 a, .int .i64 b])) := by kernel_rfl
theorem store_a2 (H : AH) (vs : List Value) (hv : vs.length = 2) (a b : Value) : storeA Try.prog 76 (.pointer (some ⟨H.length, 0, none⟩)) (.agg (List.toArray [a, b])) (H ++ [.cells vs 76 false]) = some (H ++ [.cells [a, b] 76 false]) :=
  st_new rfl (by rw [cs76]; rfl) (by rw [cs76]; decide) (by rw [cs76]; exact hv)
theorem load_a2 (H : AH) (a b : Value) : loadA Try.prog 76 (.pointer (some ⟨H.length, 0, none⟩)) (H ++ [.cells [a, b] 76 false]) = some (.agg (List.toArray [a, b])) := by
  simp only [loadA, at_new, ag76, cs76]
  rfl

theorem end_cell (P : Program) (a : Nat) (t : TypeId) (R : Value → AH → Prop) (s : Sl) (H : AH) (v : Value) (h : loadA P t (s a) H = some v) (ht : isTup v = false) (hr : R v H) : endA P [.cell a t] R .ret s H := by
  simp only [endA, resA, h, ht]
  simp [outA]
  exact hr

theorem box_a2 (H : AH) (x y : Value) : boxA Try.prog 76 (.agg (List.toArray [x, y])) H = some (.pointer (some ⟨H.length, 0, none⟩), H ++ [.cells [x, y] 76 false]) := by kernel_rfl
theorem st_a2 {H : AH} {o : Nat} {vs : List Value} {e : TypeId} (ho : H[o]? = some (.cells vs e false)) (hv : vs.length = 2) (a b : Value) : storeA Try.prog 76 (.pointer (some ⟨o, 0, none⟩)) (.agg (List.toArray [a, b])) H = some (H.set o (.cells [a, b] e false)) := by
  simp only [storeA, ho, cs76]
  have hcl : (Value.agg (List.toArray [a, b])).cells.toList = [a, b] := rfl
  rw [hcl, if_pos ⟨rfl, rfl, by decide, by rw [hv]; exact Nat.le_refl 2⟩]
  have : putAt vs 0 [a, b] = [a, b] := by
    unfold putAt
    rw [List.take_zero, List.nil_append, List.drop_of_length_le (by simp; omega), List.append_nil]
  rw [this]
theorem ld_a2 {H : AH} {o : Nat} {a b : Value} {e : TypeId} {ro : Bool} (ho : H[o]? = some (.cells [a, b] e ro)) : loadA Try.prog 76 (.pointer (some ⟨o, 0, none⟩)) H = some (.agg (List.toArray [a, b])) :=
  ld_two ag76 cs76 (by rw [cell_of ho]; rfl) (by rw [cell_of ho]; rfl)
end Go.Proofs.Ythhnpchjjbjabaa.Ai
