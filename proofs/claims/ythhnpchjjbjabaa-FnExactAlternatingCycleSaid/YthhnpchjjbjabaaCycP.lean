/- Cycles of permutations, in plain Lean. No condition. -/
import Derived.Test.YthhnpchjjbjabaaPermP
namespace Go.Proofs.Ythhnpchjjbjabaa.Ai
open Go

theorem prm_range {p : List Int} (h : Prm p) : (∀ i, i < p.length → 0 ≤ p.getD i 0 ∧ p.getD i 0 < p.length) ∧ ∀ i j, i < p.length → j < p.length → p.getD i 0 = p.getD j 0 → i = j := by
  have hm := List.mergeSort_perm p (fun x y => decide (x ≤ y))
  have hs : (p.mergeSort (fun x y => decide (x ≤ y))).Pairwise (fun x y => decide (x ≤ y) = true) := List.pairwise_mergeSort (fun a b c h1 h2 => by simp at *; omega) (fun a b => by simp; omega) p
  have ha : Asc (p.mergeSort (fun x y => decide (x ≤ y))) := by
    intro i j hij hj
    rw [List.pairwise_iff_getElem] at hs
    have := hs i j (by omega) hj hij
    simp only [decide_eq_true_eq] at this
    rw [List.getD_eq_getElem?_getD, List.getD_eq_getElem?_getD, List.getElem?_eq_getElem hj, List.getElem?_eq_getElem (show i < (p.mergeSort (fun x y => decide (x ≤ y))).length by omega)]
    exact this
  have hat := prm_at h hm ha
  have hl := hm.length_eq
  generalize p.mergeSort (fun x y => decide (x ≤ y)) = ys at *
  have mem : ∀ y ∈ p, 0 ≤ y ∧ y < p.length := by
    intro y hy
    obtain ⟨i, hi, e⟩ := pos_ex (hm.mem_iff.2 hy)
    rw [hat i hi] at e
    omega
  have nd : ys.Nodup := by
    rw [List.Nodup, List.pairwise_iff_getElem]
    intro i j hi hj hij e
    have h1 := hat i hi
    have h2 := hat j hj
    simp only [List.getD_eq_getElem?_getD, List.getElem?_eq_getElem hi, List.getElem?_eq_getElem hj, Option.getD_some] at h1 h2
    omega
  have pd : p.Nodup := hm.nodup_iff.1 nd
  refine ⟨fun i hi => mem _ (by simp [hi]), fun i j hi hj e => ?_⟩
  rw [List.Nodup, List.pairwise_iff_getElem] at pd
  simp only [List.getD_eq_getElem?_getD, List.getElem?_eq_getElem hi, List.getElem?_eq_getElem hj, Option.getD_some] at e
  rcases Nat.lt_trichotomy i j with g | g | g
  · exact absurd e (pd i j hi hj g)
  · exact g
  · exact absurd e.symm (pd j i hj hi g)

/-- the way from y till x -/
def orb (p : List Int) (x y : Int) : Nat → List Int
  | 0 => []
  | n + 1 => if y = x then [] else y :: orb p x (p.getD y.toNat 0) n
def cycC (p : List Int) (x : Int) : List Int := x :: orb p x (p.getD x.toNat 0) p.length
theorem orb_self (p : List Int) (x : Int) (n : Nat) : orb p x x n = [] := by cases n <;> simp [orb]

/-- a way begun at x: c, and y comes next -/
structure Way (p : List Int) (x : Int) (c : List Int) (y : Int) : Prop where
  rng : ∀ z ∈ c, 0 ≤ z ∧ z < p.length
  nd : c.Nodup
  ne : c ≠ []
  head : c.getD 0 0 = x
  step : ∀ i, i + 1 < c.length → c.getD (i + 1) 0 = p.getD (c.getD i 0).toNat 0
  last : y = p.getD (c.getD (c.length - 1) 0).toNat 0
  tail : cycC p x = c ++ orb p x y (p.length + 1 - c.length)

theorem nodup_len (n : Nat) : ∀ (c : List Int), c.Nodup → (∀ z ∈ c, 0 ≤ z ∧ z < (n : Int)) → c.length ≤ n := by
  induction n with
  | zero =>
    intro c _ h
    cases c with
    | nil => simp
    | cons z c => have := h z (by simp); omega
  | succ n ih =>
    intro c hn h
    have hn' := hn.erase (n : Int)
    have hl : c.length ≤ (c.erase (n : Int)).length + 1 := by
      rw [List.length_erase]; split <;> omega
    have := ih (c.erase (n : Int)) hn' (fun z hz => by
      have h1 := h z (List.mem_of_mem_erase hz)
      have h2 : z ≠ n := fun e => by
        subst e
        exact (hn.not_mem_erase) hz
      omega)
    omega
theorem Way.len {p : List Int} {x y : Int} {c : List Int} (h : Way p x c y) : 1 ≤ c.length ∧ c.length ≤ p.length := by
  refine ⟨?_, nodup_len _ c h.nd h.rng⟩
  have := h.ne
  cases c with
  | nil => exact absurd rfl this
  | cons _ _ => simp
theorem getD_mem {c : List Int} {i : Nat} (h : i < c.length) : c.getD i 0 ∈ c := by simp [h]
theorem Way.yrng {p : List Int} {x y : Int} {c : List Int} (hp : Prm p) (h : Way p x c y) : 0 ≤ y ∧ y < p.length := by
  have hl := h.len
  have := h.rng _ (getD_mem (show c.length - 1 < c.length by omega))
  rw [h.last]
  exact (prm_range hp).1 _ (by omega)
/-- what comes again is x -/
theorem Way.back {p : List Int} {x y : Int} {c : List Int} (hp : Prm p) (h : Way p x c y) (hy : y ∈ c) : y = x := by
  have hl := h.len
  obtain ⟨i, hi, e⟩ := pos_ex hy
  by_cases h0 : i = 0
  · subst h0; rw [← e, h.head]
  · have h1 := h.step (i - 1) (by omega)
    rw [show i - 1 + 1 = i from by omega, e, h.last] at h1
    have r1 := h.rng _ (getD_mem (show c.length - 1 < c.length by omega))
    have r2 := h.rng _ (getD_mem (show i - 1 < c.length by omega))
    have := (prm_range hp).2 _ _ (by omega) (by omega) h1
    have e2 : c.getD (c.length - 1) 0 = c.getD (i - 1) 0 := by omega
    have nd := h.nd
    rw [List.Nodup, List.pairwise_iff_getElem] at nd
    simp only [List.getD_eq_getElem?_getD, List.getElem?_eq_getElem (show c.length - 1 < c.length by omega), List.getElem?_eq_getElem (show i - 1 < c.length by omega), Option.getD_some] at e2
    exact absurd e2.symm (nd (i - 1) (c.length - 1) (by omega) (by omega) (by omega))
set_option linter.unusedVariables false in
theorem Way.first {p : List Int} (hp : Prm p) {x : Nat} (hx : x < p.length) : Way p (x : Int) [(x : Int)] (p.getD x 0) :=
  ⟨fun z hz => by simp at hz; omega, by simp, by simp, rfl, fun i hi => by simp at hi, by simp, by simp [cycC]⟩
set_option linter.unusedVariables false in
theorem Way.next {p : List Int} {x y : Int} {c : List Int} (hp : Prm p) (h : Way p x c y) (hy : y ≠ x) : Way p x (c ++ [y]) (p.getD y.toNat 0) := by
  have hl := h.len
  have hyr := h.yrng hp
  have hni : y ∉ c := fun hm => hy (h.back hp hm)
  have hnd : (c ++ [y]).Nodup := List.nodup_append.2 ⟨h.nd, by simp, fun a ha b hb e => by simp at hb; subst hb; exact hni (e ▸ ha)⟩
  have hlen := nodup_len p.length (c ++ [y]) hnd (fun z hz => by
    rcases List.mem_append.1 hz with g | g
    · exact h.rng z g
    · simp at g; rw [g]; exact hyr)
  simp only [List.length_append, List.length_cons, List.length_nil] at hlen
  have at1 : ∀ i, i < c.length → (c ++ [y]).getD i 0 = c.getD i 0 := fun i hi => by
    rw [List.getD_eq_getElem?_getD, List.getD_eq_getElem?_getD, List.getElem?_append_left hi]
  have at2 : (c ++ [y]).getD c.length 0 = y := by
    rw [List.getD_eq_getElem?_getD, List.getElem?_append_right (Nat.le_refl _)]; simp
  refine ⟨fun z hz => ?_, hnd, by simp, by rw [at1 0 (by omega)]; exact h.head, fun i hi => ?_, ?_, ?_⟩
  · rcases List.mem_append.1 hz with g | g
    · exact h.rng z g
    · simp at g; rw [g]; exact hyr
  · simp only [List.length_append, List.length_cons, List.length_nil] at hi
    by_cases c1 : i + 1 < c.length
    · rw [at1 _ c1, at1 _ (by omega)]; exact h.step i c1
    · have : i = c.length - 1 := by omega
      subst this
      rw [show c.length - 1 + 1 = c.length from by omega, at2, at1 _ (by omega)]
      exact h.last
  · simp only [List.length_append, List.length_cons, List.length_nil, Nat.add_sub_cancel]
    rw [at2]
  · have := h.tail
    obtain ⟨n, hn⟩ : ∃ n, p.length + 1 - c.length = n + 1 := ⟨p.length - c.length, by omega⟩
    rw [hn] at this
    simp only [orb, if_neg hy] at this
    rw [this]
    simp only [List.length_append, List.length_cons, List.length_nil, List.append_assoc, List.cons_append, List.nil_append]
    rw [show p.length + 1 - (c.length + (0 + 1)) = n from by omega]
theorem Way.done {p : List Int} {x : Int} {c : List Int} (h : Way p x c x) : c = cycC p x := by
  rw [h.tail, orb_self, List.append_nil]

/-- what has been seen, and the cycles so far -/
def cycSt (p : List Int) : Nat → List (List Int) × List Int
  | 0 => ([], [])
  | k + 1 => if (k : Int) ∈ (cycSt p k).2 then cycSt p k else ((cycSt p k).1 ++ [cycC p k], (cycSt p k).2 ++ cycC p k)
/-- a set that nothing leads into from outside -/
def Shut (p s : List Int) : Prop := (∀ z ∈ s, 0 ≤ z ∧ z < p.length) ∧ ∀ z : Nat, z < p.length → p.getD z 0 ∈ s → (z : Int) ∈ s
theorem Way.out {p s : List Int} {x y : Int} {c : List Int} (h : Way p x c y) (hs : Shut p s) (hd : ∀ z ∈ c, z ∉ s) : y ∉ s := by
  have hl := h.len
  have hm := getD_mem (show c.length - 1 < c.length by omega)
  have r := h.rng _ hm
  intro hy
  rw [h.last] at hy
  have := hs.2 (c.getD (c.length - 1) 0).toNat (by omega) hy
  rw [show (((c.getD (c.length - 1) 0).toNat : Nat) : Int) = c.getD (c.length - 1) 0 from by omega] at this
  exact hd _ hm this
theorem Way.shut {p s : List Int} {x : Int} {c : List Int} (hp : Prm p) (h : Way p x c x) (hs : Shut p s) : Shut p (s ++ c) := by
  have hl := h.len
  refine ⟨fun z hz => (List.mem_append.1 hz).elim (hs.1 z) (h.rng z), fun z hz hm => ?_⟩
  rw [List.mem_append] at hm ⊢
  rcases hm with g | g
  · exact .inl (hs.2 z hz g)
  · right
    obtain ⟨i, hi, e⟩ := pos_ex g
    by_cases h0 : i = 0
    · subst h0
      rw [h.head] at e
      have r := h.rng _ (getD_mem (show c.length - 1 < c.length by omega))
      have := (prm_range hp).2 z (c.getD (c.length - 1) 0).toNat hz (by omega) (by rw [← e]; exact h.last)
      have e2 : (z : Int) = c.getD (c.length - 1) 0 := by omega
      rw [e2]; exact getD_mem (by omega)
    · have h1 := h.step (i - 1) (by omega)
      rw [show i - 1 + 1 = i from by omega, e] at h1
      have r := h.rng _ (getD_mem (show i - 1 < c.length by omega))
      have := (prm_range hp).2 z (c.getD (i - 1) 0).toNat hz (by omega) h1
      have e2 : (z : Int) = c.getD (i - 1) 0 := by omega
      rw [e2]; exact getD_mem (by omega)
end Go.Proofs.Ythhnpchjjbjabaa.Ai
