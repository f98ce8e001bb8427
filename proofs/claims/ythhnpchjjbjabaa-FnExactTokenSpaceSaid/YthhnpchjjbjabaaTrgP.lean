/- All triangulations in order, in plain Lean. -/
import Derived.Test.YthhnpchjjbjabaaTri3
import Derived.Test.YthhnpchjjbjabaaDgs
import Derived.Test.YthhnpchjjbjabaaTriP
import Derived.Test.YthhnpchjjbjabaaSrtL
namespace Go.Proofs.Ythhnpchjjbjabaa.Ai
open Go
set_option linter.unusedVariables false

theorem Crs_comm (x y : Int) : Crs x y ↔ Crs y x := by
  unfold Crs
  exact ⟨fun h => h.elim .inr .inl, fun h => h.elim .inr .inl⟩
/-- crosses none of a list -/
def apB (ed : List Int) (d : Int) : Bool := !ed.any fun y => decide (Crs y d)
theorem apB_comm (ed : List Int) (d : Int) : (!ed.any fun y => decide (Crs d y)) = apB ed d := by
  unfold apB
  congr 2
  funext y
  rw [decide_eq_decide]
  exact Crs_comm d y
/-- those with h diagonals that go on with one of the last k -/
def tlp (all : List Int) (h : Nat) : Nat → List Int → List (List Int)
  | 0, _ => []
  | k + 1, ed => (if apB ed (all.getD (all.length - (k + 1)) 0) = true then (if (ed ++ [all.getD (all.length - (k + 1)) 0]).length = h then [ed ++ [all.getD (all.length - (k + 1)) 0]] else tlp all h k (ed ++ [all.getD (all.length - (k + 1)) 0])) else []) ++ tlp all h k ed
def tex (all : List Int) (h : Nat) (k : Nat) (ed : List Int) : List (List Int) := if ed.length = h then [ed] else tlp all h k ed
theorem tlp_step (all : List Int) (h k : Nat) (ed : List Int) : tlp all h (k + 1) ed = (if apB ed (all.getD (all.length - (k + 1)) 0) = true then tex all h k (ed ++ [all.getD (all.length - (k + 1)) 0]) else []) ++ tlp all h k ed := rfl
theorem tex_len (all : List Int) (h : Nat) : ∀ (k : Nat) (ed : List Int), (tlp all h k ed).length + 1 ≤ 2 ^ k
  | 0, ed => by simp [tlp]
  | k + 1, ed => by
    rw [tlp_step, List.length_append]
    have h1 := tex_len all h k ed
    have hP : 2 ^ (k + 1) = 2 ^ k + 2 ^ k := by rw [Nat.pow_succ]; omega
    have h2 : (if apB ed (all.getD (all.length - (k + 1)) 0) = true then tex all h k (ed ++ [all.getD (all.length - (k + 1)) 0]) else []).length ≤ 2 ^ k := by
      split
      · unfold tex
        split
        · simp; exact Nat.one_le_two_pow
        · have := tex_len all h k (ed ++ [all.getD (all.length - (k + 1)) 0]); omega
      · simp
    omega
/-- all triangulations of a polygon -/
def triA (n : Int) : List (List Int) := tex (dgs n n.toNat) (n - 3).toNat (dgs n n.toNat).length []

def srtB : List (List Int) → Bool
  | [] => true
  | x :: xs => (xs.all fun y => decide (0 < cmpL y x)) && srtB xs
theorem srtB_ok : ∀ (ls : List (List Int)), srtB ls = true → SrtL ls
  | [], _ => fun i j _ hj => by simp at hj
  | x :: xs, h => by
    unfold srtB at h
    rw [Bool.and_eq_true, List.all_eq_true] at h
    intro i j hij hj
    cases j with
    | zero => omega
    | succ j =>
      have hj' : j < xs.length := by simpa using hj
      cases i with
      | zero =>
        have hm : xs.getD j [] ∈ xs := by simp [hj']
        have := of_decide_eq_true (h.1 _ hm)
        simpa using this
      | succ i =>
        have := srtB_ok xs h.2 i j (by omega) hj'
        simpa using this
def trAok (n : Int) : Bool := srtB (triA n) && decide (1 ≤ (triA n).length ∧ (triA n).length ≤ 132) && (triA n).all (fun l => decide (l.length ≤ 5)) && (decide ((dgs n n.toNat).length ≤ 28)) && (dgs n n.toNat).all (fun d => decide (0 ≤ d ∧ d ≤ 100)) && decide (∀ j : Fin 28, ∀ i : Fin 28, i.1 < j.1 → j.1 < (dgs n n.toNat).length → (dgs n n.toNat).getD i.1 0 < (dgs n n.toNat).getD j.1 0)
set_option maxRecDepth 100000 in
theorem tri3 : trAok 3 = true := by decide +kernel
set_option maxRecDepth 100000 in
theorem tri4 : trAok 4 = true := by decide +kernel
set_option maxRecDepth 100000 in
theorem tri5 : trAok 5 = true := by decide +kernel
set_option maxRecDepth 100000 in
theorem tri6 : trAok 6 = true := by decide +kernel
set_option maxRecDepth 100000 in
theorem tri7 : trAok 7 = true := by decide +kernel
set_option maxRecDepth 100000 in
theorem tri8 : trAok 8 = true := by decide +kernel
theorem triA_ok {n : Int} (hn : 3 ≤ n ∧ n ≤ 8) : SrtL (triA n) ∧ (1 ≤ (triA n).length ∧ (triA n).length ≤ 132) ∧ (∀ l ∈ triA n, l.length ≤ 5) ∧ (dgs n n.toNat).length ≤ 28 ∧ (∀ d ∈ dgs n n.toNat, 0 ≤ d ∧ d ≤ 100) ∧ ∀ i j, i < j → j < (dgs n n.toNat).length → (dgs n n.toNat).getD i 0 < (dgs n n.toNat).getD j 0 := by
  have h : trAok n = true := by
    have : n = 3 ∨ n = 4 ∨ n = 5 ∨ n = 6 ∨ n = 7 ∨ n = 8 := by omega
    rcases this with rfl | rfl | rfl | rfl | rfl | rfl
    · exact tri3
    · exact tri4
    · exact tri5
    · exact tri6
    · exact tri7
    · exact tri8
  unfold trAok at h
  rw [Bool.and_eq_true, Bool.and_eq_true, Bool.and_eq_true, Bool.and_eq_true, Bool.and_eq_true, List.all_eq_true, List.all_eq_true] at h
  obtain ⟨⟨⟨⟨⟨h1, h2⟩, h3⟩, h4⟩, h5⟩, h6⟩ := h
  have h4' := of_decide_eq_true h4
  have h6' := of_decide_eq_true h6
  exact ⟨srtB_ok _ h1, of_decide_eq_true h2, fun l hl => of_decide_eq_true (h3 l hl), h4', fun d hd => of_decide_eq_true (h5 d hd), fun i j hij hj => h6' ⟨j, by omega⟩ ⟨i, by omega⟩ hij hj⟩
end Go.Proofs.Ythhnpchjjbjabaa.Ai
