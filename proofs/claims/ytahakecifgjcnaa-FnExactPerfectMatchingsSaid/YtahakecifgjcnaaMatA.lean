/- All matchings in order, and the first of the greatest, in plain Lean. -/
import Derived.Test.YtahakecifgjcnaaMatP
import Derived.Test.YtahakecifgjcnaaGood
namespace Go.Proofs.Ytahakecifgjcnaa.Ai
open Go
set_option linter.unusedVariables false

/-- an edge that meets none of some -/
def frE (es : List (Int × Int)) (ed : List Int) (e : Int) : Prop := ed1 es e ∉ seenL es ed ∧ ed2 es e ∉ seenL es ed
instance (es : List (Int × Int)) (ed : List Int) (e : Int) : Decidable (frE es ed e) := by unfold frE; infer_instance
/-- all matchings that begin with some edges and have more, of the last k edges; in order -/
def mall (es : List (Int × Int)) : Nat → List Int → List (List Int)
  | 0, _ => []
  | k + 1, ed => (if frE es ed ((es.length - (k + 1) : Nat) : Int) then (ed ++ [((es.length - (k + 1) : Nat) : Int)]) :: mall es k (ed ++ [((es.length - (k + 1) : Nat) : Int)]) else []) ++ mall es k ed
/-- a fold that may stop -/
def sfold {σ : Type} (cb : σ → List Int → σ × Bool) : List (List Int) → σ → σ × Bool
  | [], s => (s, true)
  | x :: xs, s => if (cb s x).2 = true then sfold cb xs (cb s x).1 else ((cb s x).1, false)
theorem sfold_append {σ : Type} (cb : σ → List Int → σ × Bool) (xs ys : List (List Int)) (s : σ) : sfold cb (xs ++ ys) s = if (sfold cb xs s).2 = true then sfold cb ys (sfold cb xs s).1 else sfold cb xs s := by
  induction xs generalizing s with
  | nil => simp [sfold]
  | cons x xs ih =>
    by_cases h : (cb s x).2 = true
    · have e1 : sfold cb (x :: xs) s = sfold cb xs (cb s x).1 := by rw [sfold, if_pos h]
      have e2 : sfold cb ((x :: xs) ++ ys) s = sfold cb (xs ++ ys) (cb s x).1 := by rw [List.cons_append, sfold, if_pos h]
      rw [e1, e2, ih]
    · have e1 : sfold cb (x :: xs) s = ((cb s x).1, false) := by rw [sfold, if_neg h]
      have e2 : sfold cb ((x :: xs) ++ ys) s = ((cb s x).1, false) := by rw [List.cons_append, sfold, if_neg h]
      rw [e1, e2]; simp
theorem mall_longer (es : List (Int × Int)) : ∀ (k : Nat) (ed : List Int), ∀ x ∈ mall es k ed, ed.length < x.length
  | 0, ed, x, hx => by simp [mall] at hx
  | k + 1, ed, x, hx => by
    simp only [mall, List.mem_append] at hx
    rcases hx with hx | hx
    · split at hx
      · simp only [List.mem_cons] at hx
        rcases hx with rfl | hx
        · simp
        · have := mall_longer es k _ x hx
          simp at this; omega
      · simp at hx
    · exact mall_longer es k ed x hx
/-- those with j edges -/
def mext (es : List (Int × Int)) (k : Nat) (ed : List Int) (j : Nat) : List (List Int) := (ed :: mall es k ed).filter fun x => decide (x.length = j)
theorem mext_done (es : List (Int × Int)) (k : Nat) (ed : List Int) : mext es k ed ed.length = [ed] := by
  unfold mext
  rw [List.filter_cons, if_pos (by simp)]
  have : (mall es k ed).filter (fun x => decide (x.length = ed.length)) = [] := by
    rw [List.filter_eq_nil_iff]
    intro x hx
    have := mall_longer es k ed x hx
    simp; omega
  rw [this]
/-- the loop of the reference: those that go on with one of the last k edges -/
def mlpE (es : List (Int × Int)) (k : Nat) (ed : List Int) (j : Nat) : List (List Int) := (mall es k ed).filter fun x => decide (x.length = j)
theorem mext_loop (es : List (Int × Int)) (k : Nat) (ed : List Int) (j : Nat) (h : ed.length ≠ j) : mext es k ed j = mlpE es k ed j := by
  unfold mext mlpE
  rw [List.filter_cons, if_neg (by simpa using h)]
theorem mlpE_step (es : List (Int × Int)) (k : Nat) (ed : List Int) (j : Nat) : mlpE es (k + 1) ed j = (if frE es ed ((es.length - (k + 1) : Nat) : Int) then mext es k (ed ++ [((es.length - (k + 1) : Nat) : Int)]) j else []) ++ mlpE es k ed j := by
  unfold mlpE mext
  rw [mall, List.filter_append]
  split <;> rfl

/-- the longest, the first of several -/
def bestOf (b : List Int) (x : List Int) : List Int := if b.length < x.length then x else b
theorem foldBest : ∀ (l : List (List Int)) (b r : List Int), l.foldl bestOf b = r → b.length ≤ r.length ∧ (∀ x ∈ l, x.length ≤ r.length) ∧
    (r = b ∨ (b.length < r.length ∧ (l.filter fun x => decide (x.length = r.length)).head? = some r))
  | [], b, r, h => by
    have : b = r := h
    subst this
    exact ⟨Nat.le_refl _, fun x hx => absurd hx (by simp), .inl rfl⟩
  | x :: l, b, r, h => by
    obtain ⟨h1, h2, h3⟩ := foldBest l (bestOf b x) r h
    have hb : b.length ≤ (bestOf b x).length ∧ x.length ≤ (bestOf b x).length := by unfold bestOf; split <;> omega
    refine ⟨by omega, ?_, ?_⟩
    · intro y hy
      rcases List.mem_cons.1 hy with rfl | hy
      · omega
      · exact h2 y hy
    · rcases h3 with h3 | ⟨h3, h4⟩
      · by_cases hx : b.length < x.length
        · right
          have e : bestOf b x = x := by unfold bestOf; rw [if_pos hx]
          rw [e] at h3
          subst h3
          refine ⟨hx, ?_⟩
          rw [List.filter_cons, if_pos (by simp)]; rfl
        · left
          have e : bestOf b x = b := by unfold bestOf; rw [if_neg hx]
          rw [h3, e]
      · right
        refine ⟨by omega, ?_⟩
        rw [List.filter_cons, if_neg (by simp; omega)]
        exact h4
theorem sfold_best (l : List (List Int)) (b : List Int) : sfold (fun b x => (bestOf b x, true)) l b = (l.foldl bestOf b, true) := by
  induction l generalizing b with
  | nil => rfl
  | cons x l ih => simp only [sfold, List.foldl_cons, if_true]; exact ih _
/-- the first of the greatest -/
def mbest (es : List (Int × Int)) : List Int := ([] :: mall es es.length []).foldl bestOf []
theorem mbest_most (es : List (Int × Int)) (j : Nat) (h : (mbest es).length < j) : mext es es.length [] j = [] := by
  unfold mext
  rw [List.filter_eq_nil_iff]
  intro x hx
  have := (foldBest ([] :: mall es es.length []) [] (mbest es) rfl).2.1 x hx
  simp; omega
theorem mbest_at (es : List (Int × Int)) : (mext es es.length [] (mbest es).length).head? = some (mbest es) := by
  unfold mext
  rcases (foldBest ([] :: mall es es.length []) [] (mbest es) rfl).2.2 with h | ⟨_, h⟩
  · have e : mbest es = [] := h
    rw [e]
    rfl
  · exact h

/-- numbers of a range, each once -/
theorem nodup_le : ∀ (n : Nat) (l : List Int), l.Nodup → (∀ x ∈ l, 0 ≤ x ∧ x < n) → l.length ≤ n
  | 0, l, _, h => by
    cases l with
    | nil => simp
    | cons x l => have := h x (by simp); omega
  | n + 1, l, hd, h => by
    have h1 := nodup_le n (l.erase (n : Int)) (hd.erase _) (fun x hx => by
      have := (hd.mem_erase_iff).1 hx
      have h2 := h x this.2
      have : x ≠ (n : Int) := this.1
      omega)
    have : l.length ≤ (l.erase (n : Int)).length + 1 := by
      rw [List.length_erase]
      split <;> omega
    omega
/-- nodes of different edges, each once -/
def Mgo (n : Int) (es : List (Int × Int)) (ed : List Int) : Prop := (seenL es ed).Nodup ∧ ∀ z ∈ seenL es ed, 0 ≤ z ∧ z < n
theorem Mgo.nil (n : Int) (es : List (Int × Int)) : Mgo n es [] := ⟨by simp [seenL], fun z hz => by simp [seenL] at hz⟩
theorem Mgo.snoc {n : Int} {es : List (Int × Int)} {ed : List Int} {e : Int} (hg : Grd n es) (h : Mgo n es ed) (he : e.toNat < es.length) (hf : frE es ed e) : Mgo n es (ed ++ [e]) := by
  obtain ⟨a1, a2, a3, _⟩ := hg.2 e.toNat he
  have b1 : ed1 es e < ed2 es e := a2
  have b2 : 0 ≤ ed1 es e := a1
  have b3 : ed2 es e < n := a3
  refine ⟨?_, ?_⟩
  · rw [seenL_snoc, List.nodup_append]
    refine ⟨h.1, ?_, ?_⟩
    · simp; omega
    · intro x hx y hy hxy
      subst hxy
      simp only [List.mem_cons, List.not_mem_nil, or_false] at hy
      rcases hy with rfl | rfl
      · exact hf.1 hx
      · exact hf.2 hx
  · intro z hz
    rw [seenL_snoc, List.mem_append] at hz
    rcases hz with hz | hz
    · exact h.2 z hz
    · simp only [List.mem_cons, List.not_mem_nil, or_false] at hz
      omega
theorem Mgo.all {n : Int} {es : List (Int × Int)} (hg : Grd n es) : ∀ (k : Nat) (ed : List Int), k ≤ es.length → Mgo n es ed → ∀ x ∈ mall es k ed, Mgo n es x
  | 0, ed, _, h, x, hx => by simp [mall] at hx
  | k + 1, ed, hk, h, x, hx => by
    simp only [mall, List.mem_append] at hx
    rcases hx with hx | hx
    · split at hx
      · rename_i hf
        have h2 := h.snoc hg (by rw [Int.toNat_natCast]; omega) hf
        simp only [List.mem_cons] at hx
        rcases hx with rfl | hx
        · exact h2
        · exact Mgo.all hg k _ (by omega) h2 x hx
      · simp at hx
    · exact Mgo.all hg k ed (by omega) h x hx
theorem Mgo.len {n : Int} {es : List (Int × Int)} {ed : List Int} (hn : 0 ≤ n) (h : Mgo n es ed) : 2 * ed.length ≤ n.toNat := by
  have := nodup_le n.toNat (seenL es ed) h.1 (fun z hz => by have := h.2 z hz; omega)
  rw [seenL_len] at this
  exact this
theorem mbest_len {n : Int} {es : List (Int × Int)} (hg : Grd n es) : 2 * (mbest es).length ≤ n.toNat := by
  have h := mbest_at es
  have hm : mbest es ∈ mext es es.length [] (mbest es).length := List.mem_of_head? h
  unfold mext at hm
  have hm2 := (List.mem_filter.1 hm).1
  simp only [List.mem_cons] at hm2
  rcases hm2 with h0 | h0
  · rw [h0]; simp
  · exact (Mgo.all hg es.length [] (Nat.le_refl _) (Mgo.nil n es) _ h0).len hg.1.1

/-- a graph has at most 28 edges -/
def rnkE (a b : Nat) : Nat := a * (15 - a) / 2 + (b - a - 1)
theorem rnkE_lt : ∀ a b c d : Fin 8, a.1 < b.1 → c.1 < d.1 → (a.1 < c.1 ∨ a.1 = c.1 ∧ b.1 < d.1) → rnkE a.1 b.1 + 1 ≤ rnkE c.1 d.1 := by decide +kernel
theorem rnkE_le : ∀ a b : Fin 8, a.1 < b.1 → rnkE a.1 b.1 ≤ 27 := by decide +kernel
theorem grd_nat {n : Int} {es : List (Int × Int)} (hg : Grd n es) {i : Nat} (hi : i < es.length) : ∃ a b : Fin 8, a.1 < b.1 ∧ es.getD i (0, 0) = ((a.1 : Int), (b.1 : Int)) := by
  obtain ⟨h1, h2, h3, _⟩ := hg.2 i hi
  have := hg.1
  refine ⟨⟨(es.getD i (0, 0)).1.toNat, by omega⟩, ⟨(es.getD i (0, 0)).2.toNat, by omega⟩, by show (es.getD i (0, 0)).1.toNat < (es.getD i (0, 0)).2.toNat; omega, ?_⟩
  apply Prod.ext
  · show _ = (((es.getD i (0, 0)).1.toNat : Nat) : Int); omega
  · show _ = (((es.getD i (0, 0)).2.toNat : Nat) : Int); omega
theorem grd_len {n : Int} {es : List (Int × Int)} (hg : Grd n es) : es.length ≤ 28 := by
  have key : ∀ i, i < es.length → ∃ a b : Fin 8, a.1 < b.1 ∧ es.getD i (0, 0) = ((a.1 : Int), (b.1 : Int)) ∧ i ≤ rnkE a.1 b.1 := by
    intro i
    induction i with
    | zero => intro hi; obtain ⟨a, b, h1, h2⟩ := grd_nat hg hi; exact ⟨a, b, h1, h2, Nat.zero_le _⟩
    | succ i ih =>
      intro hi
      obtain ⟨a, b, h1, h2, h3⟩ := ih (by omega)
      obtain ⟨c, d, k1, k2⟩ := grd_nat hg hi
      have hlt := (hg.2 (i + 1) hi).2.2.2 (by omega)
      rw [Nat.add_sub_cancel, h2, k2] at hlt
      unfold pairLt at hlt
      simp only at hlt
      have := rnkE_lt a b c d h1 k1 (by omega)
      exact ⟨c, d, k1, k2, by omega⟩
  apply Decidable.byContradiction
  intro hc
  obtain ⟨a, b, h1, _, h3⟩ := key 28 (by omega)
  have := rnkE_le a b h1
  omega
end Go.Proofs.Ytahakecifgjcnaa.Ai
