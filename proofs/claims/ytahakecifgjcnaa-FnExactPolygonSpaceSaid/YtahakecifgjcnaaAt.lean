/- Diagonals at corners; valid triangulations as propositions. -/
import Derived.Test.YtahakecifgjcnaaValid
import Derived.Test.YtahakecifgjcnaaTriP
namespace Go.Proofs.Ytahakecifgjcnaa.Ai
open Go Go.RowKit
set_option linter.unusedVariables false
set_option linter.unusedSimpArgs false

/-- a diagonal is at a corner -/
def At (d c : Int) : Prop := d.tdiv 10 = c ∨ d.tmod 10 = c
instance (d c : Int) : Decidable (At d c) := inferInstanceAs (Decidable (_ ∨ _))

/-- how many of a list are at a corner -/
def atN (xs : List Int) (c : Int) : Nat := (xs.filter fun d => decide (At d c)).length
theorem atN_step (xs : List Int) (c : Int) (k : Nat) (hk : k < xs.length) : atN (xs.take (k + 1)) c = atN (xs.take k) c + if At (xs.getD k 0) c then 1 else 0 := by
  unfold atN
  rw [List.take_add_one, List.getElem?_eq_getElem hk, List.filter_append, List.length_append]
  have : xs.getD k 0 = xs[k] := by simp [hk]
  rw [this]
  by_cases h : At xs[k] c <;> simp [h]
theorem atN_le (xs : List Int) (c : Int) : atN xs c ≤ xs.length := List.length_filter_le _ _

def Tri1 (n : Int) (xs : List Int) : Prop := (3 ≤ n ∧ n ≤ 8) ∧ triS n xs = true
instance (n : Int) (xs : List Int) : Decidable (Tri1 n xs) := inferInstanceAs (Decidable (_ ∧ _))
def Tri2 (n : Int) (xs ys : List Int) : Prop := (3 ≤ n ∧ n ≤ 8) ∧ triS n xs = true ∧ triS n ys = true
instance (n : Int) (xs ys : List Int) : Decidable (Tri2 n xs ys) := inferInstanceAs (Decidable (_ ∧ _))
theorem tri1_S (n : Int) (xs : List Int) : (decide (3 ≤ n ∧ n ≤ 8) && triS n xs) = decide (Tri1 n xs) := by
  unfold Tri1
  by_cases h : 3 ≤ n ∧ n ≤ 8 <;> simp [h]
theorem tri1_I (n : Int) (xs : List Int) : (decide (3 ≤ n ∧ n ≤ 8) && [xs].all (triI n)) = decide (Tri1 n xs) := by
  unfold Tri1
  by_cases h : 3 ≤ n ∧ n ≤ 8
  · have := tri_same n xs h
    simp [h, this]
  · simp [h]
theorem tri2_I (n : Int) (xs ys : List Int) : (decide (3 ≤ n ∧ n ≤ 8) && [xs, ys].all (triI n)) = decide (Tri2 n xs ys) := by
  unfold Tri2
  by_cases h : 3 ≤ n ∧ n ≤ 8
  · have h1 := tri_same n xs h
    have h2 := tri_same n ys h
    simp [h, h1, h2]
  · simp [h]
theorem Tri1.len {n : Int} {xs : List Int} (h : Tri1 n xs) : (xs.length : Int) = n - 3 := by
  have h := h.2
  unfold triS at h
  simp only [Bool.and_eq_true, decide_eq_true_eq] at h
  exact h.2
theorem Tri2.a {n : Int} {xs ys : List Int} (h : Tri2 n xs ys) : Tri1 n xs := ⟨h.1, h.2.1⟩
theorem Tri2.b {n : Int} {xs ys : List Int} (h : Tri2 n xs ys) : Tri1 n ys := ⟨h.1, h.2.2⟩
theorem Tri1.mem {n : Int} {xs : List Int} (h : Tri1 n xs) {d : Int} (hd : d ∈ xs) : d ∈ dgs n n.toNat := by
  have h := h.2
  unfold triS triOkS at h
  simp only [Bool.and_eq_true, List.all_eq_true, decide_eq_true_eq] at h
  obtain ⟨i, hi, e⟩ := List.getElem_of_mem hd
  have := (h.1 i (List.mem_range.2 hi)).1.1
  rw [List.getD_eq_getElem?_getD, List.getElem?_eq_getElem hi, Option.getD_some, e] at this
  exact this

theorem valid_c (n : Int) (v : Value) (xs : List Int) (H : AH) (hr : Row 3 H v xs) (hlen : xs.length ≤ 1099511627776) (hxs : ∀ y ∈ xs, I64 y) :
    ACalls Try.prog 65 [.int .i64 n, v] H fun r H' => r = .bool (decide (Tri1 n xs)) ∧ H <+: H' := by
  refine (l8Valid_c n v xs H hr hlen hxs).mono ?_
  rintro r H' ⟨rfl, hp⟩
  exact ⟨by rw [tri1_S], hp⟩
theorem are1_c (n : Int) (v : Value) (xs : List Int) (o : Nat) (H H0 : AH) (hh : H = H0 ++ [.cells [v] 22 false]) (ho : o = H0.length) (hr : Row 3 H0 v xs) (hlen : xs.length ≤ 1099511627776) (hxs : ∀ y ∈ xs, I64 y) :
    ACalls Try.prog 71 [.int .i64 n, .slice (some ⟨o, 0, none⟩) 1 1] H fun r H' => r = .bool (decide (Tri1 n xs)) ∧ H <+: H' := by
  subst hh ho
  refine (areTri_c n _ [v] [xs] _ (RowV.new 22 H0 [v]) (by simp) rfl ?_).mono ?_
  · intro i hi
    match i, hi with
    | 0, _ => exact ⟨hr.pre (List.prefix_append _ _), hlen, hxs⟩
  · rintro r H' ⟨rfl, hp⟩
    exact ⟨by rw [tri1_I], hp⟩
theorem are2_c (n : Int) (v w : Value) (xs ys : List Int) (o : Nat) (H H0 : AH) (hh : H = H0 ++ [.cells [v, w] 22 false]) (ho : o = H0.length) (hr : Row 3 H0 v xs) (hlen : xs.length ≤ 1099511627776) (hxs : ∀ y ∈ xs, I64 y) (hr2 : Row 3 H0 w ys) (hlen2 : ys.length ≤ 1099511627776) (hys : ∀ y ∈ ys, I64 y) :
    ACalls Try.prog 71 [.int .i64 n, .slice (some ⟨o, 0, none⟩) 2 2] H fun r H' => r = .bool (decide (Tri2 n xs ys)) ∧ H <+: H' := by
  subst hh ho
  refine (areTri_c n _ [v, w] [xs, ys] _ (RowV.new 22 H0 [v, w]) (by simp) rfl ?_).mono ?_
  · intro i hi
    match i, hi with
    | 0, _ => exact ⟨hr.pre (List.prefix_append _ _), hlen, hxs⟩
    | 1, _ => exact ⟨hr2.pre (List.prefix_append _ _), hlen2, hys⟩
  · rintro r H' ⟨rfl, hp⟩
    exact ⟨by rw [tri2_I], hp⟩
end Go.Proofs.Ytahakecifgjcnaa.Ai
