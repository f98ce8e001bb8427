/- Sorting a permutation by swaps, in plain Lean. No condition. -/
import Derived.Test.YthhnpchjjbjabaaCycP
import Derived.Test.YthhnpchjjbjabaaIdxP
namespace Go.Proofs.Ythhnpchjjbjabaa.Ai
open Go
set_option linter.unusedVariables false

/-- the place of a number -/
def ax (q : List Int) (x : Int) : Int := idxP (fun y => decide (x = y)) q 0
theorem idxP_at (p : Int → Bool) : ∀ (xs : List Int) (k : Nat), xs.any p = true → ∃ i : Nat, i < xs.length ∧ idxP p xs k = ((k + i : Nat) : Int) ∧ p (xs.getD i 0) = true
  | [], k, h => by simp at h
  | x :: xs, k, h => by
    by_cases hx : p x = true
    · exact ⟨0, by simp, by simp [idxP, hx], by simpa using hx⟩
    · have : xs.any p = true := by simpa [hx] using h
      obtain ⟨i, h1, h2, h3⟩ := idxP_at p xs (k + 1) this
      refine ⟨i + 1, by simpa using h1, ?_, by simpa using h3⟩
      rw [idxP, if_neg hx, h2]
      congr 1; omega
theorem ax_at {q : List Int} {x : Int} (h : x ∈ q) : ∃ i : Nat, i < q.length ∧ ax q x = (i : Int) ∧ q.getD i 0 = x := by
  obtain ⟨i, h1, h2, h3⟩ := idxP_at (fun y => decide (x = y)) q 0 (by simpa using h)
  refine ⟨i, h1, by rw [ax, h2]; congr 1; omega, ?_⟩
  have := of_decide_eq_true h3
  exact this.symm

def swp (p : List Int) (a b : Nat) : List Int := (p.set a (p.getD b 0)).set b (p.getD a 0)
theorem swp_len (p : List Int) (a b : Nat) : (swp p a b).length = p.length := by simp [swp]
theorem swp_at (p : List Int) (a b k : Nat) (ha : a < p.length) (hb : b < p.length) (hk : k < p.length) : (swp p a b).getD k 0 = if k = b then p.getD a 0 else if k = a then p.getD b 0 else p.getD k 0 := by
  unfold swp
  rw [List.getD_eq_getElem?_getD, List.getElem?_set]
  by_cases h1 : b = k
  · subst h1
    rw [if_pos rfl, if_pos (by simpa using hb), if_pos rfl]; rfl
  · rw [if_neg h1, if_neg (fun e => h1 e.symm), List.getElem?_set]
    by_cases h2 : a = k
    · subst h2
      rw [if_pos rfl, if_pos ha, if_pos rfl]; rfl
    · rw [if_neg h2, if_neg (fun e => h2 e.symm), ← List.getD_eq_getElem?_getD]
theorem mem_getD {q : List Int} {k : Nat} (h : k < q.length) : q.getD k 0 ∈ q := by simp [h]
theorem swp_prm {p : List Int} (h : Prm p) {a b : Nat} (ha : a < p.length) (hb : b < p.length) : Prm (swp p a b) := by
  refine ⟨by rw [swp_len]; exact h.1, fun x hx => ?_⟩
  rw [swp_len] at hx
  obtain ⟨i, hi, e⟩ := pos_ex (h.2 x hx)
  have mk : ∀ k, k < p.length → (swp p a b).getD k 0 = x → (x : Int) ∈ swp p a b := fun k hk e => by
    rw [← e]; exact mem_getD (by rw [swp_len]; exact hk)
  by_cases h1 : i = a
  · subst h1; exact mk b hb (by rw [swp_at p _ b b ha hb hb, if_pos rfl]; exact e)
  · by_cases h2 : i = b
    · subst h2
      by_cases h3 : a = i
      · exact absurd h3.symm h1
      · exact mk a ha (by rw [swp_at p a _ a ha hb ha, if_neg h3, if_pos rfl]; exact e)
    · exact mk i hi (by rw [swp_at p a b i ha hb hi, if_neg h2, if_neg h1]; exact e)

def srtSt (p : List Int) : Nat → List (Int × Int) × List Int
  | 0 => ([], p)
  | x + 1 => if ax (srtSt p x).2 x = x then srtSt p x else ((srtSt p x).1 ++ [((x : Int), ax (srtSt p x).2 x)], swp (srtSt p x).2 x (ax (srtSt p x).2 x).toNat)

structure SrtOk (p : List Int) (x : Nat) (o : List (Int × Int)) (q : List Int) : Prop where
  prm : Prm q
  len : q.length = p.length
  fix : ∀ y, y < x → q.getD y 0 = y
  few : o.length ≤ x

theorem SrtOk.place {p : List Int} {x : Nat} {o : List (Int × Int)} {q : List Int} (h : SrtOk p x o q) (hx : x < p.length) : ∃ i : Nat, x ≤ i ∧ i < p.length ∧ ax q x = (i : Int) ∧ q.getD i 0 = x ∧ (q.getD x 0 = x ↔ i = x) := by
  obtain ⟨i, h1, h2, h3⟩ := ax_at (h.prm.2 x (by rw [h.len]; exact hx))
  have hl := h.len
  refine ⟨i, ?_, by omega, h2, h3, fun e => ?_, fun e => by rw [← e]; rw [h3]; rw [e]⟩
  · by_cases hlt : i < x
    · have := h.fix i hlt
      omega
    · omega
  · exact (prm_range h.prm).2 i x h1 (by omega) (by rw [h3, e])
theorem SrtOk.stay {p : List Int} {x : Nat} {o : List (Int × Int)} {q : List Int} (h : SrtOk p x o q) (e : q.getD x 0 = x) : SrtOk p (x + 1) o q :=
  ⟨h.prm, h.len, fun y hy => by
    by_cases hc : y = x
    · subst hc; exact e
    · exact h.fix y (by omega), by have := h.few; omega⟩
theorem SrtOk.next {p : List Int} {x i : Nat} {o : List (Int × Int)} {q : List Int} (h : SrtOk p x o q) (hx : x < p.length) (h1 : x ≤ i) (h2 : i < p.length) (h3 : q.getD i 0 = x) (hne : i ≠ x) : SrtOk p (x + 1) (o ++ [((x : Int), (i : Int))]) (swp q x i) := by
  have hl := h.len
  refine ⟨swp_prm h.prm (by omega) (by omega), by rw [swp_len]; exact hl, fun y hy => ?_, by have := h.few; simp; omega⟩
  rw [swp_at q x i y (by omega) (by omega) (by omega), if_neg (by omega)]
  by_cases hc : y = x
  · rw [if_pos hc, h3, hc]
  · rw [if_neg hc]; exact h.fix y (by omega)
theorem srt_ok {p : List Int} (h : Prm p) : ∀ x, x ≤ p.length → SrtOk p x (srtSt p x).1 (srtSt p x).2 := by
  intro x
  induction x with
  | zero => intro _; exact ⟨h, rfl, fun y hy => absurd hy (Nat.not_lt_zero _), by simp [srtSt]⟩
  | succ x ih =>
    intro hx
    have ok := ih (by omega)
    obtain ⟨i, h1, h2, h3, h4, h5⟩ := ok.place (by omega)
    rw [srtSt, h3]
    by_cases hc : i = x
    · rw [if_pos (by rw [hc])]; exact ok.stay (h5.2 hc)
    · rw [if_neg (by omega)]
      exact ok.next (by omega) h1 h2 h4 hc
/-- sorting by swaps, one step -/
theorem srt_step {p : List Int} (h : Prm p) {x : Nat} (hx : x < p.length) : ∃ i : Nat, x ≤ i ∧ i < p.length ∧ ax (srtSt p x).2 x = (i : Int) ∧ ((srtSt p x).2.getD x 0 = x ↔ i = x) ∧ (srtSt p (x + 1) = if i = x then srtSt p x else ((srtSt p x).1 ++ [((x : Int), (i : Int))], swp (srtSt p x).2 x i)) := by
  obtain ⟨i, h1, h2, h3, h4, h5⟩ := (srt_ok h x (by omega)).place hx
  refine ⟨i, h1, h2, h3, h5, ?_⟩
  rw [srtSt, h3]
  by_cases hc : i = x
  · rw [if_pos (by rw [hc]), if_pos hc]
  · rw [if_neg (by omega), if_neg hc]; rfl
def sortR (p : List Int) : List (Int × Int) := if Prm p then (srtSt p p.length).1 else []
theorem sortR_len (p : List Int) : (sortR p).length ≤ 8 := by
  unfold sortR
  split
  · rename_i h
    have h1 := (srt_ok h p.length (Nat.le_refl _)).few
    have h2 := h.1
    omega
  · simp

/- ---------- a list of swaps ---------- -/
def swOk (n : Nat) (s : Int × Int) : Prop := 0 ≤ s.1 ∧ s.1 < s.2 ∧ s.2 < n
instance (n : Nat) (s : Int × Int) : Decidable (swOk n s) := inferInstanceAs (Decidable (_ ∧ _))
def plcOk (p : List Int) (ss : List (Int × Int)) : Prop := Prm p ∧ ∀ s ∈ ss, swOk p.length s
instance (p : List Int) (ss : List (Int × Int)) : Decidable (plcOk p ss) := inferInstanceAs (Decidable (_ ∧ _))
def plcSt (p : List Int) (ss : List (Int × Int)) : List Int := ss.foldl (fun q s => swp q s.1.toNat s.2.toNat) p
theorem plcSt_len (ss : List (Int × Int)) : ∀ p, (plcSt p ss).length = p.length := by
  induction ss with
  | nil => intro p; rfl
  | cons s ss ih => intro p; simp only [plcSt, List.foldl_cons]; rw [show List.foldl _ _ ss = plcSt (swp p s.1.toNat s.2.toNat) ss from rfl, ih, swp_len]
theorem plcSt_snoc (p : List Int) (ss : List (Int × Int)) (s : Int × Int) : plcSt p (ss ++ [s]) = swp (plcSt p ss) s.1.toNat s.2.toNat := by simp [plcSt]
theorem plcSt_step (p : List Int) (ss : List (Int × Int)) (i : Nat) (hi : i < ss.length) : plcSt p (ss.take (i + 1)) = swp (plcSt p (ss.take i)) (ss.getD i (0, 0)).1.toNat (ss.getD i (0, 0)).2.toNat := by
  rw [List.take_add_one, List.getElem?_eq_getElem hi]
  have : ss.getD i (0, 0) = ss[i] := by simp [hi]
  rw [this]
  exact plcSt_snoc _ _ _
def placeR (p : List Int) (ss : List (Int × Int)) : List Int := if plcOk p ss then plcSt p ss else []
theorem placeR_len (p : List Int) (ss : List (Int × Int)) : (placeR p ss).length ≤ 8 := by
  unfold placeR
  split
  · rename_i h; rw [plcSt_len]; exact h.1.1
  · simp
end Go.Proofs.Ythhnpchjjbjabaa.Ai
