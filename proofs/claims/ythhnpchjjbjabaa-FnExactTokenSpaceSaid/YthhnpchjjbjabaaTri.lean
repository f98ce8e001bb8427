/- Triangulations: the helpers, both sides. -/
import Derived.Test.YthhnpchjjbjabaaCorn
import Derived.Test.YthhnpchjjbjabaaHas
import Derived.Test.YthhnpchjjbjabaaIdxP
namespace Go.Proofs.Ythhnpchjjbjabaa.Ai
open Go Go.RowKit
set_option linter.unusedVariables false
set_option linter.unusedSimpArgs false

theorem I64.tdiv {x : Int} (h : I64 x) : IntKind.i64.wrap (x.tdiv 10) = x.tdiv 10 := by
  obtain ⟨h1, h2⟩ := h
  have hle : (x.tdiv 10).natAbs ≤ x.natAbs := by rw [Int.natAbs_tdiv]; exact Nat.div_le_self _ _
  by_cases h0 : 0 ≤ x
  · have := Int.tdiv_nonneg h0 (by decide : (0 : Int) ≤ 10)
    exact wrap64 (by omega) (by omega)
  · rw [IntKind.wrap_i64]
    have : (x.tdiv 10).natAbs ≤ 922337203685477580 := by
      rw [Int.natAbs_tdiv]
      show x.natAbs / 10 ≤ _
      omega
    omega

/-- two diagonals cross -/
def Crs (x y : Int) : Prop := x.tdiv 10 < y.tdiv 10 ∧ y.tdiv 10 < x.tmod 10 ∧ x.tmod 10 < y.tmod 10 ∨ y.tdiv 10 < x.tdiv 10 ∧ x.tdiv 10 < y.tmod 10 ∧ y.tmod 10 < x.tmod 10
instance (x y : Int) : Decidable (Crs x y) := inferInstanceAs (Decidable (_ ∨ _))

/-- a diagonal of a polygon -/
def Diag (n d : Int) : Prop := 0 ≤ d ∧ d.tmod 10 < n ∧ 1 < d.tmod 10 - d.tdiv 10 ∧ ¬ (d.tdiv 10 = 0 ∧ d.tmod 10 = n - 1)
instance (n d : Int) : Decidable (Diag n d) := inferInstanceAs (Decidable (_ ∧ _))

theorem tmod_small (d : Int) : -10 < d.tmod 10 ∧ d.tmod 10 < 10 := by
  have h1 := Int.tmod_lt_of_pos d (by decide : (0 : Int) < 10)
  have h2 : -10 < d.tmod 10 := by
    have := Int.lt_tmod_of_pos d (by decide : (0 : Int) < 10)
    omega
  exact ⟨h2, h1⟩

theorem I64.tdiv_small {x : Int} (h : I64 x) : -922337203685477580 ≤ x.tdiv 10 ∧ x.tdiv 10 ≤ 922337203685477580 := by
  obtain ⟨h1, h2⟩ := h
  have : (x.tdiv 10).natAbs ≤ 922337203685477580 := by
    rw [Int.natAbs_tdiv]
    show x.natAbs / 10 ≤ _
    omega
  omega

end Go.Proofs.Ythhnpchjjbjabaa.Ai
