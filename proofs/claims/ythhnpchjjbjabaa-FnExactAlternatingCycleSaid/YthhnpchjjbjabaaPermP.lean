/- Permutations, in plain Lean: a list has each number below its length exactly if it rises when it is sorted. No condition. -/
import Derived.Test.YthhnpchjjbjabaaAiM3
namespace Go.Proofs.Ythhnpchjjbjabaa.Ai
open Go

def Asc (ys : List Int) : Prop := ∀ i j, i < j → j < ys.length → ys.getD i 0 ≤ ys.getD j 0
def Rsg (n : Int) (ys : List Int) : Prop := ∀ i, i < ys.length → (0 ≤ ys.getD i 0 ∧ ys.getD i 0 ≤ n - 1) ∧ (0 < i → ys.getD (i - 1) 0 < ys.getD i 0)
def Prm (p : List Int) : Prop := p.length ≤ 8 ∧ ∀ x, x < p.length → (x : Int) ∈ p
instance (p : List Int) : Decidable (Prm p) := inferInstanceAs (Decidable (_ ∧ _))

theorem rsg_at {ys : List Int} (h : Rsg ys.length ys) : ∀ i, i < ys.length → ys.getD i 0 = i := by
  have lo : ∀ i, i < ys.length → (i : Int) ≤ ys.getD i 0 := by
    intro i
    induction i with
    | zero => intro hi; exact (h 0 hi).1.1
    | succ i ih =>
      intro hi
      have h1 := ih (by omega)
      have h2 := (h (i + 1) hi).2 (by omega)
      rw [Nat.add_sub_cancel] at h2
      omega
  have hi' : ∀ d i, i + d + 1 = ys.length → ys.getD i 0 ≤ i := by
    intro d
    induction d with
    | zero => intro i hi; have := (h i (by omega)).1.2; omega
    | succ d ih =>
      intro i hi
      have h1 := ih (i + 1) (by omega)
      have h2 := (h (i + 1) (by omega)).2 (by omega)
      rw [Nat.add_sub_cancel] at h2
      omega
  intro i hi
  have := lo i hi
  have := hi' (ys.length - i - 1) i (by omega)
  omega

theorem pos_ex {ys : List Int} {x : Int} (h : x ∈ ys) : ∃ i, i < ys.length ∧ ys.getD i 0 = x := by
  obtain ⟨i, hi, e⟩ := List.getElem_of_mem h
  exact ⟨i, hi, by simp [hi, e]⟩

theorem asc_at {ys : List Int} (ha : Asc ys) (h : ∀ x, x < ys.length → (x : Int) ∈ ys) : ∀ i, i < ys.length → ys.getD i 0 = i := by
  -- a place of each number
  have ex : ∀ x, ∃ i, x < ys.length → (i < ys.length ∧ ys.getD i 0 = x) := by
    intro x
    by_cases hx : x < ys.length
    · obtain ⟨i, hi⟩ := pos_ex (h x hx); exact ⟨i, fun _ => hi⟩
    · exact ⟨0, fun e => absurd e hx⟩
  let pos : Nat → Nat := fun x => Classical.choose (ex x)
  have hp : ∀ x, x < ys.length → pos x < ys.length ∧ ys.getD (pos x) 0 = x := fun x hx => Classical.choose_spec (ex x) hx
  have mono : ∀ x, x + 1 < ys.length → pos x < pos (x + 1) := by
    intro x hx
    have h1 := hp x (by omega)
    have h2 := hp (x + 1) hx
    rcases Nat.lt_trichotomy (pos x) (pos (x + 1)) with h3 | h3 | h3
    · exact h3
    · rw [h3] at h1; rw [h1.2] at h2; omega
    · have := ha _ _ h3 h1.1
      rw [h1.2, h2.2] at this; omega
  have lo : ∀ x, x < ys.length → x ≤ pos x := by
    intro x
    induction x with
    | zero => intro _; omega
    | succ x ih =>
      intro hx
      have := ih (by omega)
      have := mono x hx
      omega
  have hi' : ∀ d x, x + d + 1 = ys.length → pos x ≤ x := by
    intro d
    induction d with
    | zero => intro x hx; have := (hp x (by omega)).1; omega
    | succ d ih =>
      intro x hx
      have := ih (x + 1) (by omega)
      have := mono x (by omega)
      omega
  intro i hi
  have h1 := lo i hi
  have h2 := hi' (ys.length - i - 1) i (by omega)
  have h3 := hp i hi
  have : pos i = i := by omega
  rw [this] at h3
  exact h3.2

/-- THE SORTED LIST RISES exactly if the list has each number. -/
theorem rsg_iff {p ys : List Int} (hp : ys.Perm p) (ha : Asc ys) : Rsg p.length ys ↔ ∀ x, x < p.length → (x : Int) ∈ p := by
  have hl := hp.length_eq
  constructor
  · intro h x hx
    rw [← hl] at h
    have := rsg_at h x (by omega)
    have hm : ys.getD x 0 ∈ ys := by
      have : x < ys.length := by omega
      simp [this]
    rw [this] at hm
    exact hp.mem_iff.1 hm
  · intro h
    have hat := asc_at ha (fun x hx => hp.mem_iff.2 (h x (by omega)))
    intro i hi
    rw [hat i hi]
    refine ⟨⟨by omega, by omega⟩, fun h0 => ?_⟩
    rw [hat (i - 1) (by omega)]
    omega
theorem prm_at {p : List Int} (h : Prm p) {ys : List Int} (hp : ys.Perm p) (ha : Asc ys) : ∀ i, i < ys.length → ys.getD i 0 = i :=
  asc_at ha (fun x hx => hp.mem_iff.2 (h.2 x (by have := hp.length_eq; omega)))
end Go.Proofs.Ythhnpchjjbjabaa.Ai
