/- Lists into which numbers are put in order, in plain Lean. No condition. -/
import Derived.Test.YthhnpchjjbjabaaPermP
namespace Go.Proofs.Ythhnpchjjbjabaa.Ai
open Go

/-- a number put into an ascending list -/
def put : List Int → Int → List Int
  | [], x => [x]
  | y :: ys, x => if y < x then y :: put ys x else if y = x then y :: ys else x :: y :: ys

theorem putAt_eq0 (l : List Int) (x : Int) : ∀ k, k ≤ l.length → (∀ j, j < k → l.getD j 0 < x) → (k < l.length → x ≤ l.getD k 0) → put l x = if k < l.length ∧ l.getD k 0 = x then l else l.take k ++ x :: l.drop k := by
  induction l with
  | nil => intro k hk _ _; simp at hk; subst hk; simp [put]
  | cons y ys ih =>
    intro k hk h1 h2
    cases k with
    | zero =>
      have := h2 (by simp)
      simp only [List.getD_cons_zero] at this
      simp only [put]
      rw [if_neg (by omega)]
      by_cases e : y = x
      · rw [if_pos e, if_pos ⟨by simp, by simpa using e⟩]
      · rw [if_neg e, if_neg (by rintro ⟨_, h⟩; exact e (by simpa using h))]; simp
    | succ k =>
      have := h1 0 (by omega)
      simp only [List.getD_cons_zero] at this
      simp only [put]
      rw [if_pos this, ih k (by simpa using hk) (fun j hj => by have := h1 (j + 1) (by omega); simpa using this) (fun hkk => by have := h2 (by simp; omega); simpa using this)]
      by_cases c : k < ys.length ∧ ys.getD k 0 = x
      · rw [if_pos c, if_pos (by simpa using c)]
      · rw [if_neg c, if_neg (by simpa using c)]; simp

theorem put_perm (l : List Int) (x : Int) (h : x ∉ l) : (put l x).Perm (x :: l) := by
  induction l with
  | nil => exact List.Perm.refl _
  | cons y ys ih =>
    simp only [List.mem_cons, not_or] at h
    simp only [put]
    split
    · exact ((ih h.2).cons y).trans (List.Perm.swap x y ys)
    · rw [if_neg (fun e => h.1 e.symm)]
theorem put_mem (l : List Int) (x y : Int) : y ∈ put l x ↔ y = x ∨ y ∈ l := by
  induction l with
  | nil => simp [put]
  | cons z zs ih =>
    simp only [put]
    split
    · simp only [List.mem_cons, ih]
      constructor
      · rintro (h | h | h)
        · exact .inr (.inl h)
        · exact .inl h
        · exact .inr (.inr h)
      · rintro (h | h | h)
        · exact .inr (.inl h)
        · exact .inl h
        · exact .inr (.inr h)
    · split
      · rename_i h1 h2
        subst h2
        simp
      · simp
theorem put_sorted (l : List Int) (x : Int) (h : l.Pairwise (· < ·)) : (put l x).Pairwise (· < ·) := by
  induction l with
  | nil => simp [put]
  | cons y ys ih =>
    simp only [List.pairwise_cons] at h
    simp only [put]
    split
    · rename_i h1
      rw [List.pairwise_cons]
      refine ⟨fun z hz => ?_, ih h.2⟩
      rcases (put_mem ys x z).1 hz with e | e
      · rw [e]; exact h1
      · exact h.1 z e
    · split
      · rw [List.pairwise_cons]; exact h
      · rename_i h1 h2
        rw [List.pairwise_cons]
        refine ⟨fun z hz => ?_, by rw [List.pairwise_cons]; exact h⟩
        rcases List.mem_cons.1 hz with e | e
        · rw [e]; omega
        · have := h.1 z e; omega
theorem put_len (l : List Int) (x : Int) : (put l x).length ≤ l.length + 1 := by
  induction l with
  | nil => simp [put]
  | cons y ys ih => simp only [put]; split <;> (try split) <;> simp <;> omega

/-- numbers put, one after the other -/
def puts (xs : List Int) : List Int := xs.foldl put []
theorem puts_step (xs : List Int) (x : Int) : puts (xs ++ [x]) = put (puts xs) x := by simp [puts]
theorem puts_perm : ∀ (n : Nat) (xs : List Int), xs.length = n → xs.Nodup → (puts xs).Perm xs ∧ (puts xs).Pairwise (· < ·) := by
  intro n
  induction n with
  | zero => intro xs h _; have : xs = [] := List.eq_nil_of_length_eq_zero h; subst this; exact ⟨List.Perm.refl _, List.Pairwise.nil⟩
  | succ n ih =>
    intro xs h hn
    rcases List.eq_nil_or_concat xs with e | ⟨ys, x, e⟩
    · subst e; simp at h
    · subst e
      rw [List.concat_eq_append] at h hn ⊢
      have hn' := List.nodup_append.1 hn
      obtain ⟨i1, i2⟩ := ih ys (by simpa using h) hn'.1
      have hx : x ∉ ys := fun hm => hn'.2.2 x hm x (by simp) rfl
      have hx2 : x ∉ puts ys := fun hm => hx (i1.mem_iff.1 hm)
      rw [puts_step]
      refine ⟨?_, put_sorted _ _ i2⟩
      exact (put_perm _ _ hx2).trans ((i1.cons x).trans (List.perm_append_singleton x ys).symm)
theorem asc_of {ys : List Int} (h : Asc ys) : ys.Pairwise (· ≤ ·) := by
  rw [List.pairwise_iff_getElem]
  intro i j hi hj hij
  have := h i j hij hj
  simpa [hi, hj] using this
/-- THE SORTED LIST is the one that comes of putting. -/
theorem puts_sorted {xs ys : List Int} (hn : xs.Nodup) (hp : ys.Perm xs) (ha : Asc ys) : ys = puts xs := by
  obtain ⟨h1, h2⟩ := puts_perm _ xs rfl hn
  refine List.Perm.eq_of_pairwise (le := (· ≤ ·)) (fun a b _ _ h h' => by omega) (asc_of ha) (h2.imp (fun h => by omega)) (hp.trans h1.symm)
end Go.Proofs.Ythhnpchjjbjabaa.Ai
