/- Triangulations: both tests are the same, in plain Lean. No condition. -/
import Derived.Test.YthhnpchjjbjabaaTri3
namespace Go.Proofs.Ythhnpchjjbjabaa.Ai
open Go Go.RowKit
set_option linter.unusedVariables false
set_option linter.unusedSimpArgs false

theorem crs_symm (x y : Int) : Crs x y ↔ Crs y x := by unfold Crs; omega
theorem diag_mem : ∀ n : Fin 9, 3 ≤ n.val → ∀ d : Fin 100, (decide (Diag (n.val : Int) (d.val : Int)) = decide ((d.val : Int) ∈ dgs (n.val : Int) n.val)) := by decide
theorem dgs_range : ∀ n : Fin 9, ∀ d ∈ dgs (n.val : Int) n.val, 0 ≤ d ∧ d < 100 := by decide
theorem diag_range {n d : Int} (h : Diag n d) : 0 ≤ d ∧ d < 100 := by
  obtain ⟨h1, h2, h3, h4⟩ := h
  have := tmod_small d
  refine ⟨h1, ?_⟩
  have e := Int.mul_tdiv_add_tmod d 10
  omega
theorem diag_iff (n d : Int) (hn : 3 ≤ n ∧ n ≤ 8) : Diag n d ↔ d ∈ dgs n n.toNat := by
  obtain ⟨N, rfl⟩ : ∃ N : Nat, n = N := ⟨n.toNat, by omega⟩
  by_cases hd : 0 ≤ d ∧ d < 100
  · obtain ⟨D, rfl⟩ : ∃ D : Nat, d = D := ⟨d.toNat, by omega⟩
    have := diag_mem ⟨N, by omega⟩ (by show 3 ≤ N; omega) ⟨D, by omega⟩
    simpa using this
  · constructor
    · intro h; exact absurd (diag_range h) hd
    · intro h; exact absurd (dgs_range ⟨N, by omega⟩ d h) hd
theorem tri_same (n : Int) (xs : List Int) (hn : 3 ≤ n ∧ n ≤ 8) : triI n xs = triS n xs := by
  unfold triI triS
  rw [Bool.and_comm]
  congr 1
  congr 1
  funext i
  unfold triOk triOkS
  have e1 : decide (Diag n (xs.getD i 0)) = decide (xs.getD i 0 ∈ dgs n n.toNat) := by simp only [diag_iff n _ hn]
  have e2 : (fun e => decide (Crs (xs.getD i 0) e)) = fun y => decide (Crs y (xs.getD i 0)) := by funext e; simp only [crs_symm]
  rw [e1, e2]

end Go.Proofs.Ythhnpchjjbjabaa.Ai
