/- DifferencePieces: the size of what is told. -/
import Derived.Test.YthhnpchjjbjabaaPcS
namespace Go.Proofs.Ythhnpchjjbjabaa.Ai
open Go
set_option linter.unusedVariables false
theorem sizeL_leN {N : Nat} : ∀ (ls : List (List Int)), (∀ l ∈ ls, l.length ≤ N) → sizeL ls ≤ ls.length * N
  | [], _ => by simp [sizeL]
  | l :: ls, h => by
    have h1 := sizeL_leN ls (fun x hx => h x (by simp [hx]))
    have h2 := h l (by simp)
    simp only [sizeL, List.map_cons, List.sum_cons, List.length_cons, Nat.add_mul, Nat.one_mul] at *
    omega
theorem piece_len {es : List (Int × Int)} {set p : List Int} {N : Nat} (hp : p ∈ piecesL es set) (hs : ∀ x ∈ set, 0 ≤ x ∧ x < N) : p.length ≤ N := by
  refine nodupP_le N p ?_ (fun x hx => hs x (piece_sub hp hx))
  obtain ⟨x, hx, rfl⟩ := pieces_mem hp
  exact (reach_srt es set x).imp fun h e => by omega
theorem dp_ok (n : Int) (es : List (Int × Int)) (a b : List Int) : (dpL n es a b).length ≤ 1099511627776 ∧ sizeL (dpL n es a b) ≤ 1099511627776 := by
  unfold dpL
  split
  · rename_i h
    have hn := h.1.1
    have hd : ∀ x ∈ domL (dE es a b) n.toNat n.toNat, 0 ≤ x ∧ x < 8 := fun x hx => by
      have := ((domL_mem _ _ _ x).1 hx).1; omega
    have h1 := pieces_le (dE es a b) _ hd
    have h2 := domL_len (dE es a b) n.toNat n.toNat
    have h3 := sizeL_leN (piecesL (dE es a b) (domL (dE es a b) n.toNat n.toNat)) (N := 8) (fun l hl => piece_len hl (N := 8) hd)
    exact ⟨by omega, by omega⟩
  · simp [sizeL]
end Go.Proofs.Ythhnpchjjbjabaa.Ai
