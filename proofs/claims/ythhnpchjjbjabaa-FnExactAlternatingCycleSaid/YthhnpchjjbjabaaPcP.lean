/- Pieces of the difference of two matchings; in plain Lean. -/
import Derived.Test.YthhnpchjjbjabaaEvenQ
import Derived.Test.YthhnpchjjbjabaaBits
import Derived.Test.YthhnpchjjbjabaaNear
namespace Go.Proofs.Ythhnpchjjbjabaa.Ai
open Go
set_option linter.unusedVariables false

/-- the places that only one of two has -/
def dix (a b : List Int) : Nat → List Int
  | 0 => []
  | k + 1 => dix a b k ++ (if (decide ((k : Int) ∈ a) != decide ((k : Int) ∈ b)) = true then [(k : Int)] else [])
theorem dix_mem (a b : List Int) (x : Int) : ∀ k, x ∈ dix a b k ↔ (0 ≤ x ∧ x < k) ∧ (decide (x ∈ a) != decide (x ∈ b)) = true
  | 0 => by simp [dix]; omega
  | k + 1 => by
    simp only [dix, List.mem_append, dix_mem a b x k]
    constructor
    · rintro (⟨h1, h2⟩ | h)
      · exact ⟨by omega, h2⟩
      · split at h
        · rename_i hk
          simp only [List.mem_singleton] at h
          subst h
          exact ⟨by omega, hk⟩
        · simp at h
    · rintro ⟨h1, h2⟩
      by_cases e : x = k
      · right
        subst e
        rw [if_pos h2]; simp
      · exact .inl ⟨by omega, h2⟩
theorem dix_len (a b : List Int) : ∀ k, (dix a b k).length ≤ k
  | 0 => Nat.le_refl _
  | k + 1 => by
    have := dix_len a b k
    simp only [dix, List.length_append]
    split <;> simp <;> omega
theorem dix_more (a b : List Int) {N : Nat} (ha : ∀ x ∈ a, x < N) (hb : ∀ x ∈ b, x < N) : ∀ k, N ≤ k → dix a b k = dix a b N := by
  intro k hk
  induction k with
  | zero =>
    have : N = 0 := by omega
    rw [this]
  | succ k ih =>
    by_cases e : N = k + 1
    · rw [e]
    · simp only [dix]
      rw [ih (by omega)]
      have h1 : (k : Int) ∉ a := fun h => by have := ha _ h; omega
      have h2 : (k : Int) ∉ b := fun h => by have := hb _ h; omega
      rw [decide_eq_false h1, decide_eq_false h2]
      simp
def dED (es : List (Int × Int)) (ds : List Int) : List (Int × Int) := ds.map fun i => es.getD i.toNat (0, 0)
/-- the edges that only one of two has -/
def dE (es : List (Int × Int)) (a b : List Int) : List (Int × Int) := dED es (dix a b es.length)
theorem dE_mem {es : List (Int × Int)} {a b : List Int} {e : Int × Int} (h : e ∈ dE es a b) : e ∈ es := by
  unfold dE dED at h
  rw [List.mem_map] at h
  obtain ⟨i, hi, rfl⟩ := h
  have := ((dix_mem a b i es.length).1 hi).1
  have hlt : i.toNat < es.length := by omega
  simp [hlt]
theorem dE_near {es : List (Int × Int)} {a b : List Int} {x y : Int} (h : nearB (dE es a b) x y = true) : nearB es x y = true := by
  rw [nearB_iff] at h ⊢
  exact h.imp dE_mem dE_mem
theorem dE_rng {n : Int} {es : List (Int × Int)} (hg : Grd n es) {a b : List Int} {x y : Int} (h : nearB (dE es a b) x y = true) : (0 ≤ x ∧ x < n) ∧ (0 ≤ y ∧ y < n) ∧ x ≠ y := near_rng hg (dE_near h)

/-- at some edge -/
def nbB (es : List (Int × Int)) (n : Nat) (x : Int) : Bool := decide (0 < (nbsU es x n).length)
theorem nbB_iff (es : List (Int × Int)) (n : Nat) (x : Int) : nbB es n x = true ↔ ∃ y : Int, (0 ≤ y ∧ y < n) ∧ nearB es x y = true := by
  unfold nbB
  rw [decide_eq_true_iff, List.length_pos_iff_exists_mem]
  exact exists_congr fun y => nbsU_mem es x n y
/-- the nodes at edges, of the first few -/
def domL (es : List (Int × Int)) (n : Nat) (k : Nat) : List Int := (alls k).filter (nbB es n)
theorem domL_succ (es : List (Int × Int)) (n k : Nat) : domL es n (k + 1) = domL es n k ++ (if nbB es n (k : Int) = true then [(k : Int)] else []) := by
  unfold domL
  rw [alls_succ, List.filter_append]
  congr 1
  by_cases h : nbB es n (k : Int) = true
  · rw [if_pos h]; simp [h]
  · rw [if_neg h]; simp [h]
theorem domL_mem (es : List (Int × Int)) (n k : Nat) (x : Int) : x ∈ domL es n k ↔ (0 ≤ x ∧ x < k) ∧ nbB es n x = true := by
  unfold domL; rw [List.mem_filter, alls_mem]
theorem domL_len (es : List (Int × Int)) (n k : Nat) : (domL es n k).length ≤ k := by
  unfold domL
  have := List.length_filter_le (nbB es n) (alls k)
  rw [alls_len] at this; exact this

section
variable {es : List (Int × Int)} {n : Nat} (hr : ∀ x y : Int, nearB es x y = true → (0 ≤ x ∧ x < n) ∧ (0 ≤ y ∧ y < n))
include hr
theorem nb_of {x y : Int} (h : nearB es x y = true) : nbB es n y = true := (nbB_iff es n y).2 ⟨x, (hr x y h).1, by rw [nearB_comm]; exact h⟩
theorem rch_dom {x z : Int} (h : Rch (fun a b => nearB es a b = true) (· ∈ alls n) x z) : Rch (fun a b => nearB es a b = true) (· ∈ domL es n n) x z := by
  induction h with
  | refl => exact .refl
  | step h1 h2 h3 ih => exact .step ih h2 ((domL_mem es n n _).2 ⟨(alls_mem n _).1 h3, nb_of hr h2⟩)
theorem reach_lone {x : Int} (hx : x ∈ alls n) (h : nbB es n x = false) : reachL es (alls n) x = [x] := by
  refine srt_ext (reach_srt es _ x) (by simp) fun z => ?_
  rw [reach_iff es _ x hx, List.mem_singleton]
  constructor
  · intro hz
    have : z = x ∧ True := by
      induction hz with
      | refl => exact ⟨rfl, trivial⟩
      | step h1 h2 h3 ih =>
        have e := ih.1
        subst e
        have hp := hr _ _ h2
        have : nbB es n _ = true := (nbB_iff es n _).2 ⟨_, hp.2, h2⟩
        rw [h] at this; cases this
    exact this.1
  · rintro rfl; exact .refl
theorem reach_dom {x : Int} (hx : x ∈ domL es n n) : reachL es (alls n) x = reachL es (domL es n n) x := by
  have hxa : x ∈ alls n := (alls_mem n x).2 ((domL_mem es n n x).1 hx).1
  refine srt_ext (reach_srt es _ x) (reach_srt es _ x) fun z => ?_
  rw [reach_iff es _ x hxa, reach_iff es _ x hx]
  exact ⟨rch_dom hr, fun h => h.mono fun y hy => (alls_mem n y).2 ((domL_mem es n n y).1 hy).1⟩
theorem pc_dom : ∀ (l : List Int), (∀ x ∈ l, x ∈ alls n) → ∀ (s t : List (List Int) × List Int), t.1 = s.1.filter (fun p => nbB es n (p.getD 0 0)) → (∀ z, nbB es n z = true → (z ∈ s.2 ↔ z ∈ t.2)) →
    ((l.filter (nbB es n)).foldl (pcS es (domL es n n)) t).1 = (l.foldl (pcS es (alls n)) s).1.filter (fun p => nbB es n (p.getD 0 0))
  | [], _, s, t, h1, _ => h1
  | x :: l, hl, s, t, h1, h2 => by
    have hxa := hl x (by simp)
    have hl' : ∀ y ∈ l, y ∈ alls n := fun y hy => hl y (by simp [hy])
    by_cases hx : nbB es n x = true
    · rw [List.filter_cons, if_pos hx, List.foldl_cons, List.foldl_cons]
      have hxd : x ∈ domL es n n := (domL_mem es n n x).2 ⟨(alls_mem n x).1 hxa, hx⟩
      by_cases hs : x ∈ s.2
      · rw [show pcS es (alls n) s x = s from if_pos hs, show pcS es (domL es n n) t x = t from if_pos ((h2 x hx).1 hs)]
        exact pc_dom l hl' s t h1 h2
      · rw [show pcS es (alls n) s x = (s.1 ++ [reachL es (alls n) x], (reachL es (alls n) x).foldl put s.2) from if_neg hs, show pcS es (domL es n n) t x = (t.1 ++ [reachL es (domL es n n) x], (reachL es (domL es n n) x).foldl put t.2) from if_neg (fun h => hs ((h2 x hx).2 h))]
        rw [reach_dom hr hxd]
        refine pc_dom l hl' _ _ ?_ ?_
        · show t.1 ++ [reachL es (domL es n n) x] = (s.1 ++ [reachL es (domL es n n) x]).filter _
          rw [List.filter_append, ← h1]
          congr 1
          have hf : (reachL es (domL es n n) x).getD 0 0 ∈ reachL es (domL es n n) x := by
            have := List.length_pos_of_mem (reach_x es (domL es n n) x)
            simp [this]
          have hd := ((reach_iff es _ x hxd _).1 hf).in_ (S := (· ∈ domL es n n)) hxd
          have := ((domL_mem es n n _).1 hd).2
          rw [List.filter_cons, if_pos this]; rfl
        · intro z hz
          show z ∈ (reachL es (domL es n n) x).foldl put s.2 ↔ z ∈ (reachL es (domL es n n) x).foldl put t.2
          rw [puts_mem, puts_mem, h2 z hz]
    · have hx' : nbB es n x = false := by simpa using hx
      rw [List.filter_cons, if_neg hx, List.foldl_cons]
      by_cases hs : x ∈ s.2
      · rw [show pcS es (alls n) s x = s from if_pos hs]
        exact pc_dom l hl' s t h1 h2
      · rw [show pcS es (alls n) s x = (s.1 ++ [reachL es (alls n) x], (reachL es (alls n) x).foldl put s.2) from if_neg hs]
        rw [reach_lone hr hxa hx']
        refine pc_dom l hl' _ _ ?_ ?_
        · show t.1 = (s.1 ++ [[x]]).filter _
          rw [List.filter_append, ← h1, List.filter_cons, if_neg (show ¬ nbB es n ([x].getD 0 0) = true by simpa using hx')]
          simp
        · intro z hz
          show z ∈ [x].foldl put s.2 ↔ z ∈ t.2
          rw [puts_mem, h2 z hz, List.mem_singleton]
          constructor
          · rintro (rfl | h)
            · exact absurd hz hx
            · exact h
          · exact .inr
/-- the pieces of the nodes at edges are the pieces of all that begin with one -/
theorem pieces_dom : (piecesL es (alls n)).filter (fun p => nbB es n (p.getD 0 0)) = piecesL es (domL es n n) := by
  have := pc_dom hr (alls n) (fun x h => h) ([], []) ([], []) rfl (fun z _ => Iff.rfl)
  unfold piecesL pcK
  exact this.symm
end

/- lists of neighbours, an edge at a time -/
def adj1 (L : List (List Int)) (e : Int × Int) : List (List Int) := (L.set e.1.toNat (L.getD e.1.toNat [] ++ [e.2])).set e.2.toNat (L.getD e.2.toNat [] ++ [e.1])
def adjL (n : Nat) (ps : List (Int × Int)) : List (List Int) := ps.foldl adj1 (List.replicate n [])
theorem adj1_len (L : List (List Int)) (e : Int × Int) : (adj1 L e).length = L.length := by simp [adj1]
theorem adjF_len : ∀ (ps : List (Int × Int)) (L : List (List Int)), (ps.foldl adj1 L).length = L.length
  | [], L => rfl
  | e :: ps, L => by rw [List.foldl_cons, adjF_len ps, adj1_len]
theorem adjL_len (n : Nat) (ps : List (Int × Int)) : (adjL n ps).length = n := by unfold adjL; rw [adjF_len]; simp
theorem adj1_mem {L : List (List Int)} {e : Int × Int} (he : 0 ≤ e.1 ∧ e.1 < e.2 ∧ e.2 < L.length) {x : Nat} (hx : x < L.length) (y : Int) : y ∈ (adj1 L e).getD x [] ↔ y ∈ L.getD x [] ∨ ((x : Int) = e.1 ∧ y = e.2) ∨ ((x : Int) = e.2 ∧ y = e.1) := by
  unfold adj1
  rw [List.getD_eq_getElem?_getD, List.getElem?_set]
  by_cases h2 : e.2.toNat = x
  · rw [if_pos h2, if_pos (by simp; omega)]
    simp only [Option.getD_some, List.mem_append, List.mem_singleton]
    rw [h2]
    constructor
    · rintro (h | h)
      · exact .inl h
      · exact .inr (.inr ⟨by omega, h⟩)
    · rintro (h | ⟨h, _⟩ | ⟨_, h⟩)
      · exact .inl h
      · omega
      · exact .inr h
  · rw [if_neg h2, List.getElem?_set]
    by_cases h1 : e.1.toNat = x
    · rw [if_pos h1, if_pos (by omega)]
      simp only [Option.getD_some, List.mem_append, List.mem_singleton]
      rw [h1]
      constructor
      · rintro (h | h)
        · exact .inl h
        · exact .inr (.inl ⟨by omega, h⟩)
      · rintro (h | ⟨_, h⟩ | ⟨h, _⟩)
        · exact .inl h
        · exact .inr h
        · omega
    · rw [if_neg h1, ← List.getD_eq_getElem?_getD]
      constructor
      · exact .inl
      · rintro (h | ⟨h, _⟩ | ⟨h, _⟩)
        · exact h
        · omega
        · omega
theorem adjF_mem : ∀ (ps : List (Int × Int)) (L : List (List Int)), (∀ e ∈ ps, 0 ≤ e.1 ∧ e.1 < e.2 ∧ e.2 < L.length) → ∀ {x : Nat}, x < L.length → ∀ y, y ∈ (ps.foldl adj1 L).getD x [] ↔ y ∈ L.getD x [] ∨ ∃ e ∈ ps, ((x : Int) = e.1 ∧ y = e.2) ∨ ((x : Int) = e.2 ∧ y = e.1)
  | [], L, _, x, _, y => by simp
  | e :: ps, L, h, x, hx, y => by
    rw [List.foldl_cons, adjF_mem ps (adj1 L e) (fun q hq => by rw [adj1_len]; exact h q (by simp [hq])) (by rw [adj1_len]; exact hx), adj1_mem (h e (by simp)) hx]
    simp only [List.mem_cons, exists_eq_or_imp, or_assoc]
theorem adjL_near {n : Nat} {ps : List (Int × Int)} (h : ∀ e ∈ ps, 0 ≤ e.1 ∧ e.1 < e.2 ∧ e.2 < n) {x : Nat} (hx : x < n) (y : Int) : y ∈ (adjL n ps).getD x [] ↔ nearB ps x y = true := by
  unfold adjL
  rw [adjF_mem ps _ (by simpa using h) (by simpa using hx), nearB_iff]
  have h0 : (List.replicate n ([] : List Int)).getD x [] = [] := by simp [hx]
  rw [h0]
  simp only [List.not_mem_nil, false_or]
  constructor
  · rintro ⟨e, he, ⟨e1, e2⟩ | ⟨e1, e2⟩⟩
    · exact .inl (by rw [e1, e2]; exact he)
    · exact .inr (by rw [e1, e2]; exact he)
  · rintro (he | he)
    · exact ⟨_, he, .inl ⟨rfl, rfl⟩⟩
    · exact ⟨_, he, .inr ⟨rfl, rfl⟩⟩
theorem adjL_adj {n : Nat} {ps : List (Int × Int)} (h : ∀ e ∈ ps, 0 ≤ e.1 ∧ e.1 < e.2 ∧ e.2 < n) : ∀ x, x < (adjL n ps).length → ∀ y, y ∈ (adjL n ps).getD x [] ↔ ((0 ≤ y ∧ y < (adjL n ps).length) ∧ nearB ps x y = true) := by
  intro x hx y
  rw [adjL_len] at hx ⊢
  rw [adjL_near h hx]
  constructor
  · intro hn
    refine ⟨?_, hn⟩
    rw [nearB_iff] at hn
    rcases hn with g | g
    · have := h _ g; simp only at this; omega
    · have := h _ g; simp only at this; omega
  · exact fun h => h.2

/- sets of numbers in a bag -/
/-- the numbers in a bag are those below 64 in a list -/
def BagI (b : Nat) (s : List Int) : Prop := b < 2 ^ 32 ∧ ∀ z : Nat, z < 64 → b.testBit z = decide ((z : Int) ∈ s)
theorem BagI.zero : BagI 0 [] := ⟨by decide, fun z _ => by simp⟩
theorem BagI.or {b y : Nat} {s : List Int} (h : BagI b s) (hy : y < 32) : BagI (b ||| 2 ^ y) (s ++ [(y : Int)]) := by
  refine ⟨Nat.or_lt_two_pow h.1 (Nat.pow_lt_pow_right (by decide) hy), fun z hz => ?_⟩
  rw [Nat.testBit_or, h.2 z hz, Nat.testBit_two_pow]
  by_cases e : y = z
  · subst e; simp
  · have e2 : ¬ ((z : Int) = y) := by omega
    simp [e, e2]
theorem BagI.congr {b : Nat} {s t : List Int} (h : BagI b s) (he : ∀ z : Nat, z < 64 → ((z : Int) ∈ s ↔ (z : Int) ∈ t)) : BagI b t :=
  ⟨h.1, fun z hz => by rw [h.2 z hz]; exact decide_eq_decide.2 (he z hz)⟩
end Go.Proofs.Ythhnpchjjbjabaa.Ai
