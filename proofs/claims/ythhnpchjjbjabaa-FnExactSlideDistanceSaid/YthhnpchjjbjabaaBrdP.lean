/- The boards that moves reach, with their least numbers of moves, by a queue; in plain Lean. -/
import Derived.Test.YthhnpchjjbjabaaPmE
namespace Go.Proofs.Ythhnpchjjbjabaa.Ai
open Go
set_option linter.unusedVariables false

/-- the boards of a list that are not known yet, behind those that are -/
def bdIn (d : Int) : List (List Int) → List (List Int × Int) → List (List Int × Int)
  | [], st => st
  | b :: r, st => bdIn d r (if b ∈ st.map (·.1) then st else st ++ [(b, d)])
def bdF (nx : List Int → List (List Int)) : Nat → List (List Int × Int) → Nat → List (List Int × Int)
  | 0, st, _ => st
  | f + 1, st, k => if k < st.length then bdF nx f (bdIn ((st.getD k ([], 0)).2 + 1) (nx (st.getD k ([], 0)).1) st) (k + 1) else st
/-- all that are reached from one -/
def bdA (nx : List Int → List (List Int)) (p : List Int) : List (List Int × Int) := bdF nx 721 [(p, 0)] 0

/-- boards of n places -/
def Bd (n : Nat) (p : List Int) : Prop := Prm p ∧ p.length = n
structure BdI (n : Nat) (nx : List Int → List (List Int)) (p : List Int) (st : List (List Int × Int)) (k : Nat) : Prop where
  ok : ∀ e ∈ st, Bd n e.1
  nd : (st.map (·.1)).Nodup
  rng : ∀ e ∈ st, 0 ≤ e.2 ∧ e.2 < st.length
  src : ∀ e ∈ st, e = (p, 0) ∨ ∃ u ∈ st, e.1 ∈ nx u.1 ∧ e.2 = u.2 + 1
  cl : ∀ j, j < k → ∀ b ∈ nx (st.getD j ([], 0)).1, b ∈ st.map (·.1)
  le : k ≤ st.length
  start : st.getD 0 ([], 0) = (p, 0) ∧ 0 < st.length
theorem nodupI_le : ∀ (n : Nat) (l : List Int), l.Nodup → (∀ x ∈ l, 0 ≤ x ∧ x < n) → l.length ≤ n
  | 0, l, _, h => by
    cases l with
    | nil => simp
    | cons a l => have := h a (by simp); omega
  | n + 1, l, hn, h => by
    have := nodupI_le n (l.erase (n : Int)) (hn.erase _) (fun x hx => by
      have h1 := h x (List.mem_of_mem_erase hx)
      have h2 : x ≠ n := fun e => by subst e; exact (hn.not_mem_erase) hx
      omega)
    have h3 : l.length ≤ (l.erase (n : Int)).length + 1 := by rw [List.length_erase]; split <;> omega
    omega
theorem BdI.len_le {n : Nat} (hn : n ≤ 6) {nx : List Int → List (List Int)} {p : List Int} {st : List (List Int × Int)} {k : Nat} (h : BdI n nx p st k) : st.length ≤ mny n := by
  have := nodupI_le (mny n) ((st.map (·.1)).map cod) (by
    rw [List.Nodup, List.pairwise_map]
    refine List.Pairwise.imp_of_mem ?_ h.nd
    intro a b ha hb hab e
    obtain ⟨u, hu, rfl⟩ := List.mem_map.1 ha
    obtain ⟨v, hv, rfl⟩ := List.mem_map.1 hb
    have h1 := h.ok u hu
    have h2 := h.ok v hv
    exact hab (cod_inj h1.1 h2.1 (by rw [h1.2]; exact hn) (by rw [h1.2, h2.2]) e)) (fun x hx => by
    obtain ⟨a, ha, rfl⟩ := List.mem_map.1 hx
    obtain ⟨u, hu, rfl⟩ := List.mem_map.1 ha
    have h1 := h.ok u hu
    have := cod_rng h1.1 (by rw [h1.2]; exact hn)
    rw [h1.2] at this; exact this)
  simpa using this
theorem bdIn_pre (d : Int) : ∀ (l : List (List Int)) (st : List (List Int × Int)), st <+: bdIn d l st
  | [], st => List.prefix_refl _
  | b :: r, st => by
    simp only [bdIn]
    split
    · exact bdIn_pre d r st
    · exact (List.prefix_append _ _).trans (bdIn_pre d r _)
theorem bdIn_mem (d : Int) : ∀ (l : List (List Int)) (st : List (List Int × Int)) (e : List Int × Int), e ∈ bdIn d l st → e ∈ st ∨ (e.2 = d ∧ e.1 ∈ l)
  | [], st, e, h => .inl h
  | b :: r, st, e, h => by
    simp only [bdIn] at h
    rcases bdIn_mem d r _ e h with h1 | ⟨h1, h2⟩
    · split at h1
      · exact .inl h1
      · rcases List.mem_append.1 h1 with h1 | h1
        · exact .inl h1
        · simp only [List.mem_cons, List.not_mem_nil, or_false] at h1
          subst h1; exact .inr ⟨rfl, by simp⟩
    · exact .inr ⟨h1, by simp [h2]⟩
theorem bdIn_get (d : Int) : ∀ (l : List (List Int)) (st : List (List Int × Int)), ∀ b ∈ l, b ∈ (bdIn d l st).map (·.1)
  | [], st, b, h => by simp at h
  | c :: r, st, b, h => by
    simp only [bdIn]
    rcases List.mem_cons.1 h with rfl | h
    · obtain ⟨t, ht⟩ := bdIn_pre d r (if b ∈ st.map (·.1) then st else st ++ [(b, d)])
      rw [← ht, List.map_append]
      refine List.mem_append.2 (.inl ?_)
      split
      · assumption
      · simp
    · exact bdIn_get d r _ b h
theorem bdIn_nd (d : Int) : ∀ (l : List (List Int)) (st : List (List Int × Int)), (st.map (·.1)).Nodup → ((bdIn d l st).map (·.1)).Nodup
  | [], st, h => h
  | b :: r, st, h => by
    simp only [bdIn]
    refine bdIn_nd d r _ ?_
    split
    · exact h
    · rename_i hb
      rw [List.map_append, List.Nodup, List.pairwise_append]
      refine ⟨h, by simp, fun x hx y hy e => ?_⟩
      simp only [List.map_cons, List.map_nil, List.mem_cons, List.not_mem_nil, or_false] at hy
      subst hy; subst e; exact hb hx
theorem BdI.step {n : Nat} {nx : List Int → List (List Int)} (hnx : ∀ b, Bd n b → ∀ c ∈ nx b, Bd n c) {p : List Int} {st : List (List Int × Int)} {k : Nat} (h : BdI n nx p st k) (hk : k < st.length) :
    BdI n nx p (bdIn ((st.getD k ([], 0)).2 + 1) (nx (st.getD k ([], 0)).1) st) (k + 1) := by
  have hm : st.getD k ([], 0) ∈ st := by simp [hk]
  generalize hu : st.getD k ([], 0) = u at *
  have hpre := bdIn_pre (u.2 + 1) (nx u.1) st
  have hle := hpre.length_le
  have keep : ∀ j, j < st.length → (bdIn (u.2 + 1) (nx u.1) st).getD j ([], 0) = st.getD j ([], 0) := by
    intro j hj
    obtain ⟨t, ht⟩ := hpre
    rw [← ht, List.getD_eq_getElem?_getD, List.getElem?_append_left hj, ← List.getD_eq_getElem?_getD]
  have hku := h.rng u hm
  have hgrow : ∀ e ∈ bdIn (u.2 + 1) (nx u.1) st, e ∉ st → st.length < (bdIn (u.2 + 1) (nx u.1) st).length := by
    intro e he hn
    obtain ⟨t, ht⟩ := hpre
    rw [← ht] at he ⊢
    rcases List.mem_append.1 he with h1 | h1
    · exact absurd h1 hn
    · rw [List.length_append]
      have := List.length_pos_of_mem h1
      omega
  refine ⟨?_, bdIn_nd _ _ _ h.nd, ?_, ?_, ?_, by omega, ?_⟩
  · intro e he
    rcases bdIn_mem _ _ _ e he with h1 | ⟨_, h2⟩
    · exact h.ok e h1
    · exact hnx u.1 (h.ok u hm) _ h2
  · intro e he
    by_cases h1 : e ∈ st
    · have := h.rng e h1; omega
    · have := hgrow e he h1
      rcases bdIn_mem _ _ _ e he with h3 | ⟨h3, _⟩
      · exact absurd h3 h1
      · omega
  · intro e he
    rcases bdIn_mem _ _ _ e he with h1 | ⟨h1, h2⟩
    · rcases h.src e h1 with h3 | ⟨v, h3, h4⟩
      · exact .inl h3
      · exact .inr ⟨v, hpre.subset h3, h4⟩
    · exact .inr ⟨u, hpre.subset hm, h2, h1⟩
  · intro j hj b hb
    rw [keep j (by omega)] at hb
    by_cases e : j = k
    · subst e; rw [hu] at hb
      exact bdIn_get _ _ _ b hb
    · have := h.cl j (by omega) b hb
      obtain ⟨e, h1, h2⟩ := List.mem_map.1 this
      exact List.mem_map.2 ⟨e, hpre.subset h1, h2⟩
  · exact ⟨by rw [keep 0 h.start.2]; exact h.start.1, by have := h.start.2; omega⟩
theorem BdI.zero {n : Nat} {nx : List Int → List (List Int)} {p : List Int} (hp : Bd n p) : BdI n nx p [(p, 0)] 0 := by
  refine ⟨fun e he => ?_, by simp, fun e he => ?_, fun e he => .inl (by simpa using he), fun j hj => absurd hj (Nat.not_lt_zero j), Nat.zero_le _, ⟨rfl, by simp⟩⟩
  · simp only [List.mem_cons, List.not_mem_nil, or_false] at he
    subst he; exact hp
  · simp only [List.mem_cons, List.not_mem_nil, or_false] at he
    subst he; simp
theorem bdF_run {n : Nat} (hn : n ≤ 6) {nx : List Int → List (List Int)} (hnx : ∀ b, Bd n b → ∀ c ∈ nx b, Bd n c) {p : List Int} : ∀ (f : Nat) (st : List (List Int × Int)) (k : Nat), mny n < f + k → BdI n nx p st k → BdI n nx p (bdF nx f st k) (bdF nx f st k).length
  | 0, st, k, hf, h => by have := h.len_le hn; have := h.le; omega
  | f + 1, st, k, hf, h => by
    simp only [bdF]
    split
    · rename_i hk
      exact bdF_run hn hnx f _ _ (by omega) (h.step hnx hk)
    · have e : k = st.length := by have := h.le; omega
      rw [← e]; exact h
theorem bdA_I {n : Nat} (hn : n ≤ 6) {nx : List Int → List (List Int)} (hnx : ∀ b, Bd n b → ∀ c ∈ nx b, Bd n c) {p : List Int} (hp : Bd n p) : BdI n nx p (bdA nx p) (bdA nx p).length :=
  bdF_run hn hnx 721 _ 0 (by have := mny_le hn; omega) (BdI.zero hp)
theorem bdF_done (nx : List Int → List (List Int)) (f : Nat) (st : List (List Int × Int)) (k : Nat) (h : st.length ≤ k) : bdF nx f st k = st := by
  cases f with
  | zero => rfl
  | succ f => simp only [bdF]; rw [if_neg (by omega)]
theorem bdF_step (nx : List Int → List (List Int)) (f : Nat) (st : List (List Int × Int)) (k : Nat) (h : k < st.length) : bdF nx (f + 1) st k = bdF nx f (bdIn ((st.getD k ([], 0)).2 + 1) (nx (st.getD k ([], 0)).1) st) (k + 1) := by
  simp only [bdF]; rw [if_pos h]
theorem bdIn_drop (d : Int) (l : List (List Int)) (j : Nat) (hj : j < l.length) (st : List (List Int × Int)) : bdIn d (l.drop j) st = bdIn d (l.drop (j + 1)) (if l.getD j [] ∈ st.map (·.1) then st else st ++ [(l.getD j [], d)]) := by
  have e : l.getD j [] = l[j] := by simp [hj]
  rw [List.drop_eq_getElem_cons hj, e]
  rfl
/-- the distance of a board -/
def bdD (st : List (List Int × Int)) (b : List Int) : Option Int := (st.find? fun e => decide (e.1 = b)).map (·.2)
theorem bdD_some {st : List (List Int × Int)} (hn : (st.map (·.1)).Nodup) {e : List Int × Int} (he : e ∈ st) : bdD st e.1 = some e.2 := by
  unfold bdD
  induction st with
  | nil => simp at he
  | cons x st ih =>
    rw [List.find?_cons]
    have hx := List.pairwise_cons.1 (by simpa using hn : (x.1 :: st.map (·.1)).Nodup)
    rcases List.mem_cons.1 he with rfl | he
    · simp
    · have : ¬ x.1 = e.1 := hx.1 e.1 (List.mem_map.2 ⟨e, he, rfl⟩)
      rw [decide_eq_false this]
      exact ih hx.2 he
theorem bdD_none {st : List (List Int × Int)} {b : List Int} (h : b ∉ st.map (·.1)) : bdD st b = none := by
  unfold bdD
  have : st.find? (fun e => decide (e.1 = b)) = none := by
    rw [List.find?_eq_none]
    intro e he
    simp only [decide_eq_true_eq]
    exact fun g => h (List.mem_map.2 ⟨e, he, g⟩)
  rw [this]; rfl
theorem bdD_mem {st : List (List Int × Int)} {b : List Int} {d : Int} (h : bdD st b = some d) : (b, d) ∈ st := by
  unfold bdD at h
  cases hf : st.find? (fun e => decide (e.1 = b)) with
  | none => rw [hf] at h; cases h
  | some e =>
    rw [hf] at h
    have h1 := List.find?_some hf
    have h2 := List.mem_of_find?_eq_some hf
    simp only [decide_eq_true_eq] at h1
    simp only [Option.map_some, Option.some.injEq] at h
    rw [← h1, ← h]; exact h2
end Go.Proofs.Ythhnpchjjbjabaa.Ai
