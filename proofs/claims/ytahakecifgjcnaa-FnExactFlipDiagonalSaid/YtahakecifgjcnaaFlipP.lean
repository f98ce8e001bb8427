/- Flips of triangulations, in plain Lean: each diagonal has a flip. No condition. -/
import Derived.Test.YtahakecifgjcnaaTriP
import Derived.Test.YtahakecifgjcnaaPutP
namespace Go.Proofs.Ytahakecifgjcnaa.Ai
open Go
set_option linter.unusedVariables false

/-- a triangulation, as a set -/
structure TriSet (n : Int) (xs : List Int) : Prop where
  len : (xs.length : Int) = n - 3
  up : xs.Pairwise (· < ·)
  mem : ∀ x ∈ xs, x ∈ dgs n n.toNat
  free : ∀ x ∈ xs, ∀ y ∈ xs, ¬ Crs x y

theorem crs_self (x : Int) : ¬ Crs x x := by unfold Crs; omega
theorem getD_eq {xs : List Int} {i : Nat} (h : i < xs.length) : xs.getD i 0 = xs[i] := by simp [h]
theorem triSet_iff (n : Int) (xs : List Int) : triS n xs = true ↔ TriSet n xs := by
  unfold triS triOkS
  simp only [Bool.and_eq_true, List.all_eq_true, decide_eq_true_eq, Bool.or_eq_true, List.mem_range, Bool.not_eq_true', List.any_eq_false]
  constructor
  · rintro ⟨h, hl⟩
    have step : ∀ i, 0 < i → i < xs.length → xs.getD (i - 1) 0 < xs.getD i 0 := by
      intro i h0 hi
      rcases (h i hi).1.2 with e | e
      · omega
      · exact e
    have lt : ∀ d i, i + d + 1 < xs.length → xs.getD i 0 < xs.getD (i + d + 1) 0 := by
      intro d
      induction d with
      | zero => intro i hi; have := step (i + 1) (by omega) hi; simpa using this
      | succ d ih =>
        intro i hi
        have h1 := ih i (by omega)
        have h2 := step (i + (d + 1) + 1) (by omega) hi
        rw [show i + (d + 1) + 1 - 1 = i + d + 1 from by omega] at h2
        omega
    have nc : ∀ i j, i < j → j < xs.length → ¬ Crs (xs.getD i 0) (xs.getD j 0) := by
      intro i j hij hj
      refine (h j hj).2 _ ?_
      rw [getD_eq (by omega), List.mem_take_iff_getElem]
      exact ⟨i, by omega, rfl⟩
    refine ⟨hl, ?_, ?_, ?_⟩
    · rw [List.pairwise_iff_getElem]
      intro i j hi hj hij
      have := lt (j - i - 1) i (by omega)
      rw [show i + (j - i - 1) + 1 = j from by omega, getD_eq hi, getD_eq hj] at this
      exact this
    · intro x hx
      obtain ⟨i, hi, e⟩ := List.getElem_of_mem hx
      have := (h i hi).1.1
      rw [getD_eq hi, e] at this; exact this
    · intro x hx y hy
      obtain ⟨i, hi, e⟩ := List.getElem_of_mem hx
      obtain ⟨j, hj, e2⟩ := List.getElem_of_mem hy
      rcases Nat.lt_trichotomy i j with c | c | c
      · have := nc i j c hj
        rw [getD_eq hi, getD_eq hj, e, e2] at this; exact this
      · subst c; rw [← e, ← e2]; exact crs_self _
      · have := nc j i c hi
        rw [getD_eq hi, getD_eq hj, e, e2] at this
        exact fun h => this ((crs_symm _ _).1 h)
  · rintro ⟨hl, hu, hm, hf⟩
    refine ⟨fun i hi => ⟨⟨?_, ?_⟩, ?_⟩, hl⟩
    · rw [getD_eq hi]; exact hm _ (List.getElem_mem hi)
    · by_cases h0 : i = 0
      · exact .inl h0
      · right
        rw [getD_eq hi, getD_eq (by omega)]
        exact (List.pairwise_iff_getElem.1 hu) (i - 1) i (by omega) hi (by omega)
    · intro y hy
      rw [getD_eq hi]
      exact hf _ (List.mem_of_mem_take hy) _ (List.getElem_mem hi)

/-- what is left without one -/
def rst (xs : List Int) (x : Int) : List Int := xs.filter fun y => decide (y ≠ x)
def flipOk (rest : List Int) (x d : Int) : Bool := decide (d ≠ x) && (!decide (d ∈ rest) && !rest.any fun e => decide (Crs e d))

/-- all sets of a list without crossings -/
def ncs : List Int → List (List Int)
  | [] => [[]]
  | d :: ds => ncs ds ++ ((ncs ds).filter fun l => l.all fun e => !decide (Crs e d)).map (d :: ·)
theorem ncs_mem : ∀ (L xs : List Int), xs.Sublist L → (∀ x ∈ xs, ∀ y ∈ xs, ¬ Crs x y) → xs ∈ ncs L
  | [], xs, h, _ => by
    have := List.sublist_nil.1 h
    subst this; simp [ncs]
  | d :: ds, xs, h, hf => by
    rw [ncs, List.mem_append]
    cases h with
    | cons _ h => exact .inl (ncs_mem ds xs h hf)
    | cons_cons _ h =>
      rename_i l
      right
      rw [List.mem_map]
      refine ⟨l, List.mem_filter.2 ⟨ncs_mem ds l h fun x hx y hy => hf x (by simp [hx]) y (by simp [hy]), ?_⟩, rfl⟩
      rw [List.all_eq_true]
      intro e he
      have := hf e (by simp [he]) d (by simp)
      simp [this]
theorem sub_of_sorted : ∀ (L xs : List Int), L.Pairwise (· < ·) → xs.Pairwise (· < ·) → (∀ x ∈ xs, x ∈ L) → xs.Sublist L
  | L, [], _, _, _ => List.nil_sublist _
  | [], x :: xs, _, _, h => absurd (h x (by simp)) (by simp)
  | d :: ds, x :: xs, hL, hx, h => by
    rw [List.pairwise_cons] at hL hx
    by_cases e : x = d
    · subst e
      refine List.Sublist.cons_cons _ (sub_of_sorted ds xs hL.2 hx.2 fun y hy => ?_)
      have h1 := hx.1 y hy
      rcases List.mem_cons.1 (h y (by simp [hy])) with h2 | h2
      · omega
      · exact h2
    · refine List.Sublist.cons _ (sub_of_sorted ds (x :: xs) hL.2 (List.pairwise_cons.2 hx) fun y hy => ?_)
      have hxd : x ∈ ds := (List.mem_cons.1 (h x (by simp))).resolve_left e
      have h0 := hL.1 x hxd
      rcases List.mem_cons.1 (h y hy) with h2 | h2
      · rcases List.mem_cons.1 hy with h3 | h3
        · omega
        · have := hx.1 y h3; omega
      · exact h2
theorem dgs_sorted : ∀ n : Fin 9, (dgs (n.val : Int) n.val).Pairwise (· < ·) := by decide +kernel
theorem flips_all : ∀ n : Fin 9, 3 ≤ n.val → ((ncs (dgs (n.val : Int) n.val)).all fun l => !decide (l.length + 3 = n.val) || l.all fun x => (dgs (n.val : Int) n.val).any fun d => flipOk (rst l x) x d) = true := by decide +kernel
theorem flip_ex {n x : Int} {xs : List Int} (hn : 3 ≤ n ∧ n ≤ 8) (h : TriSet n xs) (hx : x ∈ xs) : (dgs n n.toNat).any (fun d => flipOk (rst xs x) x d) = true := by
  obtain ⟨N, rfl⟩ : ∃ N : Nat, n = N := ⟨n.toNat, by omega⟩
  have hm := h.mem
  simp only [Int.toNat_natCast] at hm ⊢
  have h1 := ncs_mem _ xs (sub_of_sorted _ xs (dgs_sorted ⟨N, by omega⟩) h.up hm) h.free
  have h2 := flips_all ⟨N, by omega⟩ (by show 3 ≤ N; omega)
  rw [List.all_eq_true] at h2
  have h3 := h2 xs h1
  have hl := h.len
  rw [show decide (xs.length + 3 = N) = true from by simp; omega, Bool.not_true, Bool.false_or, List.all_eq_true] at h3
  exact h3 x hx

theorem TriSet.nodup {n : Int} {xs : List Int} (h : TriSet n xs) : xs.Nodup := h.up.imp (fun h => by omega)
theorem rst_len {xs : List Int} {x : Int} (hn : xs.Nodup) (hx : x ∈ xs) : (rst xs x).length + 1 = xs.length := by
  have h1 := hn.erase_eq_filter x
  have h2 := List.length_erase_of_mem hx
  have h3 : rst xs x = xs.filter (· != x) := by
    unfold rst
    congr 1
    funext y
    by_cases e : y = x <;> simp [e]
  have := List.length_pos_of_mem hx
  rw [h3, ← h1, h2]; omega
theorem rst_up {xs : List Int} {x : Int} (h : xs.Pairwise (· < ·)) : (rst xs x).Pairwise (· < ·) := h.sublist List.filter_sublist
theorem rst_mem {xs : List Int} {x y : Int} : y ∈ rst xs x ↔ y ∈ xs ∧ y ≠ x := by simp [rst]
theorem asc_up {xs : List Int} (h : xs.Pairwise (· < ·)) : Asc xs := by
  intro i j hij hj
  rw [getD_eq (by omega), getD_eq hj]
  have := (List.pairwise_iff_getElem.1 h) i j (by omega) hj hij
  omega
theorem puts_up {xs : List Int} (h : xs.Pairwise (· < ·)) : puts xs = xs :=
  (puts_sorted (h.imp (fun h => by omega)) (List.Perm.refl _) (asc_up h)).symm

/-- the flip's test, both sides -/
theorem flip_test {n x d : Int} {xs ys : List Int} (hn : 3 ≤ n ∧ n ≤ 8) (h : TriSet n xs) (hx : x ∈ xs) (hd : d ∈ dgs n n.toNat) (hdx : d ≠ x) (hp : ys.Perm (rst xs x ++ [d])) (ha : Asc ys) :
    triI n ys = flipOk (rst xs x) x d ∧ (flipOk (rst xs x) x d = true → ys = put (rst xs x) d) := by
  have hru := rst_up (x := x) h.up
  have hrn : (rst xs x).Nodup := hru.imp (fun h => by omega)
  have hlen := rst_len h.nodup hx
  have hyl := hp.length_eq
  simp only [List.length_append, List.length_cons, List.length_nil] at hyl
  have key : flipOk (rst xs x) x d = true → ys = put (rst xs x) d := by
    intro hk
    simp only [flipOk, Bool.and_eq_true, Bool.not_eq_true', decide_eq_false_iff_not] at hk
    have nd : (rst xs x ++ [d]).Nodup := by
      rw [List.nodup_append]
      refine ⟨hrn, by simp, fun a ha b hb e => ?_⟩
      simp only [List.mem_singleton] at hb
      subst hb; subst e
      exact hk.2.1 ha
    rw [puts_sorted nd hp ha, puts_step, puts_up hru]
  refine ⟨?_, key⟩
  rw [tri_same n ys hn, Bool.eq_iff_iff, triSet_iff]
  constructor
  · intro ht
    have nd := ht.nodup
    rw [hp.nodup_iff, List.nodup_append] at nd
    simp only [flipOk, Bool.and_eq_true, Bool.not_eq_true', decide_eq_false_iff_not, decide_eq_true_eq, List.any_eq_false]
    refine ⟨hdx, fun hm => nd.2.2 d hm d (by simp) rfl, fun e he => ?_⟩
    exact ht.free e (hp.mem_iff.2 (by simp [he])) d (hp.mem_iff.2 (by simp))
  · intro hk
    have he := key hk
    simp only [flipOk, Bool.and_eq_true, Bool.not_eq_true', decide_eq_false_iff_not, decide_eq_true_eq, List.any_eq_false] at hk
    have hl := h.len
    refine ⟨by omega, by rw [he]; exact put_sorted _ _ hru, fun z hz => ?_, fun y hy z hz => ?_⟩
    · have := hp.mem_iff.1 hz
      simp only [List.mem_append, List.mem_singleton] at this
      rcases this with g | g
      · exact h.mem _ (rst_mem.1 g).1
      · rw [g]; exact hd
    · have h1 := hp.mem_iff.1 hy
      have h2 := hp.mem_iff.1 hz
      simp only [List.mem_append, List.mem_singleton] at h1 h2
      rcases h1 with g | g <;> rcases h2 with g' | g'
      · exact h.free _ (rst_mem.1 g).1 _ (rst_mem.1 g').1
      · rw [g']; exact hk.2.2 y g
      · rw [g]; exact fun c => hk.2.2 z g' ((crs_symm _ _).1 c)
      · rw [g, g']; exact crs_self _

/-- the flip -/
def flipK (n : Int) (xs : List Int) (x : Int) : Int := idxP (fun d => flipOk (rst xs x) x d) (dgs n n.toNat) 0
def flipD (n : Int) (xs : List Int) (x : Int) : Int := (dgs n n.toNat).getD (flipK n xs x).toNat 0
end Go.Proofs.Ytahakecifgjcnaa.Ai
