/- The parts of places that are joined by roads, in plain Lean. -/
import Derived.Test.YthhnpchjjbjabaaBfsP
import Derived.Test.YthhnpchjjbjabaaPermP
import Derived.Test.YthhnpchjjbjabaaPutP
namespace Go.Proofs.Ythhnpchjjbjabaa.Ai
open Go
set_option linter.unusedVariables false

/-- the neighbors of one place: those not seen yet are added -/
def ptIn : List Int → List Bool × List Int → List Bool × List Int
  | [], st => st
  | j :: r, st => if st.1.getD j.toNat false = true then ptIn r st else ptIn r (st.1.set j.toNat true, st.2 ++ [j])
def ptF (L : List (List Int)) : Nat → List Bool × List Int → Nat → List Bool × List Int
  | 0, st, _ => st
  | f + 1, st, k => if k < st.2.length then ptF L f (ptIn (L.getD (st.2.getD k 0).toNat []) st) (k + 1) else st
/-- the numbers of a list, in order -/
def inOrd (N : Nat) (q : List Int) : List Int := ((List.range N).map fun z : Nat => (z : Int)).filter fun z => decide (z ∈ q)
/-- the parts that begin at the first k places -/
def prF (L : List (List Int)) (s0 : List Bool) : Nat → List Bool × List (List Int)
  | 0 => (s0, [])
  | k + 1 => if (prF L s0 k).1.getD k false = true then prF L s0 k else
      ((ptF L (L.length + 1) ((prF L s0 k).1.set k true, [(k : Int)]) 0).1, (prF L s0 k).2 ++ [inOrd L.length (ptF L (L.length + 1) ((prF L s0 k).1.set k true, [(k : Int)]) 0).2])
def seen0 (N : Nat) (without : Int) : List Bool := if 0 ≤ without then (List.replicate N false).set without.toNat true else List.replicate N false
/-- all parts, without a place -/
def partsL (L : List (List Int)) (without : Int) : List (List Int) := (prF L (seen0 L.length without) L.length).2

structure PI (N C : Nat) (st : List Bool × List Int) : Prop where
  len : st.1.length = N
  q : ∀ x ∈ st.2, (0 ≤ x ∧ x < N) ∧ st.1.getD x.toNat false = true
  nd : st.2.Nodup
  cnt : st.2.length + st.1.countP (fun b => !b) = C
  le : C ≤ N
theorem getD_setBool (xs : List Bool) (j v : Nat) (d : Bool) (hv : v < xs.length) : (xs.set j d).getD v false = if j = v then d else xs.getD v false := by
  rw [List.getD_eq_getElem?_getD, List.getD_eq_getElem?_getD, List.getElem?_set]
  by_cases h : j = v
  · subst h; rw [if_pos rfl, if_pos rfl, if_pos hv]; rfl
  · rw [if_neg h, if_neg h]
theorem countP_set_true : ∀ (xs : List Bool) (j : Nat), j < xs.length → xs.getD j false = false → (xs.set j true).countP (fun b => !b) + 1 = xs.countP (fun b => !b)
  | [], j, h, _ => by simp at h
  | x :: xs, 0, _, h => by
    have hx : x = false := by simpa using h
    subst hx
    simp [List.countP_cons]
  | x :: xs, j + 1, hj, h => by
    have := countP_set_true xs j (by simpa using hj) (by simpa using h)
    simp only [List.set_cons_succ, List.countP_cons]
    omega
theorem PI.len_le {N C : Nat} {st : List Bool × List Int} (h : PI N C st) : st.2.length ≤ N := by have := h.cnt; have := h.le; omega
theorem PI.put {N C : Nat} {st : List Bool × List Int} (h : PI N C st) {j : Int} (hj : 0 ≤ j ∧ j < N) (hn : ¬ st.1.getD j.toNat false = true) : PI N C (st.1.set j.toNat true, st.2 ++ [j]) := by
  have hl := h.len
  have hf : st.1.getD j.toNat false = false := by simpa using hn
  refine ⟨by simp [hl], ?_, ?_, ?_, h.le⟩
  · intro x hx
    simp only [List.mem_append, List.mem_cons, List.not_mem_nil, or_false] at hx
    rcases hx with hx | rfl
    · obtain ⟨h1, h2⟩ := h.q x hx
      refine ⟨h1, ?_⟩
      show (st.1.set j.toNat true).getD x.toNat false = true
      rw [getD_setBool _ _ _ _ (by omega)]
      split
      · rfl
      · exact h2
    · refine ⟨hj, ?_⟩
      show (st.1.set x.toNat true).getD x.toNat false = true
      rw [getD_setBool _ _ _ _ (by omega), if_pos rfl]
  · rw [List.nodup_append]
    refine ⟨h.nd, by simp, ?_⟩
    intro a ha b hb hab
    simp only [List.mem_cons, List.not_mem_nil, or_false] at hb
    subst hab; subst hb
    exact hn (h.q a ha).2
  · have := countP_set_true st.1 j.toNat (by omega) hf
    have := h.cnt
    show (st.2 ++ [j]).length + (st.1.set j.toNat true).countP (fun b => !b) = C
    simp only [List.length_append, List.length_cons, List.length_nil]
    omega
theorem PI.first {N : Nat} {s : List Bool} (hs : s.length = N) {k : Nat} (hk : k < N) (hn : ¬ s.getD k false = true) : PI N (s.countP fun b => !b) (s.set k true, [(k : Int)]) := by
  have hf : s.getD k false = false := by simpa using hn
  refine ⟨by simp [hs], ?_, by simp, ?_, ?_⟩
  · intro x hx
    simp only [List.mem_cons, List.not_mem_nil, or_false] at hx
    subst hx
    refine ⟨by omega, ?_⟩
    show (s.set k true).getD (k : Int).toNat false = true
    rw [Int.toNat_natCast, getD_setBool _ _ _ _ (by omega), if_pos rfl]
  · have := countP_set_true s k (by omega) hf
    show [(k : Int)].length + (s.set k true).countP (fun b => !b) = _
    simp only [List.length_cons, List.length_nil]
    omega
  · rw [← hs]; exact List.countP_le_length
theorem PI.inn {N C : Nat} : ∀ (l : List Int) {st : List Bool × List Int}, PI N C st → (∀ y ∈ l, 0 ≤ y ∧ y < N) → PI N C (ptIn l st)
  | [], st, h, _ => h
  | j :: r, st, h, hl => by
    simp only [ptIn]
    split
    · exact PI.inn r h (fun y hy => hl y (by simp [hy]))
    · rename_i hn
      exact PI.inn r (h.put (hl j (by simp)) hn) (fun y hy => hl y (by simp [hy]))
theorem ptIn_pre : ∀ (l : List Int) (st : List Bool × List Int), st.2 <+: (ptIn l st).2
  | [], st => List.prefix_refl _
  | j :: r, st => by
    simp only [ptIn]
    split
    · exact ptIn_pre r st
    · exact (List.prefix_append st.2 [j]).trans (ptIn_pre r (st.1.set j.toNat true, st.2 ++ [j]))
theorem ptF_done (L : List (List Int)) (f : Nat) (st : List Bool × List Int) (k : Nat) (h : st.2.length ≤ k) : ptF L f st k = st := by
  cases f with
  | zero => rfl
  | succ f => simp only [ptF]; rw [if_neg (by omega)]
theorem ptF_step (L : List (List Int)) (f : Nat) (st : List Bool × List Int) (k : Nat) (h : k < st.2.length) : ptF L (f + 1) st k = ptF L f (ptIn (L.getD (st.2.getD k 0).toNat []) st) (k + 1) := by
  simp only [ptF]; rw [if_pos h]
theorem ptF_PI (L : List (List Int)) (hL : LOk L.length L) {C : Nat} : ∀ (f : Nat) (st : List Bool × List Int) (k : Nat), PI L.length C st → PI L.length C (ptF L f st k)
  | 0, st, k, h => h
  | f + 1, st, k, h => by
    simp only [ptF]
    split
    · exact ptF_PI L hL f _ _ (PI.inn _ h (hL _))
    · exact h
theorem ptIn_drop (l : List Int) (j : Nat) (hj : j < l.length) (st : List Bool × List Int) : ptIn (l.drop j) st = if st.1.getD (l.getD j 0).toNat false = true then ptIn (l.drop (j + 1)) st else ptIn (l.drop (j + 1)) (st.1.set (l.getD j 0).toNat true, st.2 ++ [l.getD j 0]) := by
  have e : l.getD j 0 = l[j] := by simp [hj]
  rw [List.drop_eq_getElem_cons hj, e]
  rfl
/-- in order and the same numbers -/
theorem inOrd_eq {N : Nat} {q ys : List Int} (hq : q.Nodup) (hr : ∀ x ∈ q, 0 ≤ x ∧ x < N) (hp : ys.Perm q) (ha : Asc ys) : ys = inOrd N q := by
  have hnd : (inOrd N q).Nodup := by
    unfold inOrd
    refine List.Pairwise.filter _ ?_
    refine List.Pairwise.map _ ?_ List.nodup_range
    intro a b hab e
    exact hab (by omega)
  have hperm : ys.Perm (inOrd N q) := by
    refine hp.trans ((List.perm_ext_iff_of_nodup hq hnd).2 fun z => ?_)
    unfold inOrd
    rw [List.mem_filter, decide_eq_true_iff]
    constructor
    · intro hz
      have := hr z hz
      exact ⟨List.mem_map.2 ⟨z.toNat, List.mem_range.2 (by omega), by omega⟩, hz⟩
    · exact fun h => h.2
  have hs : (inOrd N q).Pairwise (· ≤ ·) := by
    unfold inOrd
    refine List.Pairwise.filter _ ?_
    refine List.Pairwise.map _ ?_ List.pairwise_lt_range
    intro a b hab
    omega
  exact hperm.eq_of_pairwise (fun a b _ _ h1 h2 => by omega) (asc_of ha) hs
theorem prF_len (L : List (List Int)) (s0 : List Bool) (h0 : s0.length = L.length) (hL : LOk L.length L) (k : Nat) (hk : k ≤ L.length) : (prF L s0 k).1.length = L.length ∧ (prF L s0 k).2.length ≤ k := by
  induction k with
  | zero => exact ⟨h0, by simp [prF]⟩
  | succ k ih =>
    obtain ⟨i1, i2⟩ := ih (by omega)
    simp only [prF]
    split
    · exact ⟨i1, by omega⟩
    · rename_i hn
      have := ptF_PI L hL (L.length + 1) _ 0 (PI.first i1 (by omega) hn)
      exact ⟨this.len, by simp; omega⟩
end Go.Proofs.Ythhnpchjjbjabaa.Ai
