/- Pieces by putting numbers, and parts by a queue: the same, in plain Lean. -/
import Derived.Test.YthhnpchjjbjabaaPartP
import Derived.Test.YthhnpchjjbjabaaNear
namespace Go.Proofs.Ythhnpchjjbjabaa.Ai
open Go
set_option linter.unusedVariables false

def rcIn (es : List (Int × Int)) (out : List Int) (y : Int) : List Int := if y ∈ out then out else if (out.any fun o => nearB es o y) = true then put out y else out
def rcRound (es : List (Int × Int)) (set out : List Int) : List Int := set.foldl (rcIn es) out
def rcIter (es : List (Int × Int)) (set : List Int) : Nat → List Int → List Int
  | 0, o => o
  | k + 1, o => rcRound es set (rcIter es set k o)
/-- the numbers of a set that are reached from one of them -/
def reachL (es : List (Int × Int)) (set : List Int) (x : Int) : List Int := rcIter es set set.length [x]
def pcS (es : List (Int × Int)) (set : List Int) (st : List (List Int) × List Int) (x : Int) : List (List Int) × List Int :=
  if x ∈ st.2 then st else (st.1 ++ [reachL es set x], (reachL es set x).foldl put st.2)
def pcK (es : List (Int × Int)) (set : List Int) (l : List Int) : List (List Int) × List Int := l.foldl (pcS es set) ([], [])
/-- all pieces of a set -/
def piecesL (es : List (Int × Int)) (set : List Int) : List (List Int) := (pcK es set set).1

/-- reached by roads, all of them to places of a kind -/
inductive Rch (adj : Int → Int → Prop) (S : Int → Prop) (x : Int) : Int → Prop
  | refl : Rch adj S x x
  | step {y z : Int} : Rch adj S x y → adj y z → S z → Rch adj S x z
theorem Rch.mono {adj : Int → Int → Prop} {S T : Int → Prop} {x z : Int} (h : Rch adj S x z) (hs : ∀ y, S y → T y) : Rch adj T x z := by
  induction h with
  | refl => exact .refl
  | step _ h1 h2 ih => exact .step ih h1 (hs _ h2)
theorem Rch.in_ {adj : Int → Int → Prop} {S : Int → Prop} {x z : Int} (h : Rch adj S x z) (hx : S x) : S z := by
  cases h with
  | refl => exact hx
  | step _ _ h2 => exact h2

theorem nodup_le {a b : List Int} (ha : a.Nodup) (h : ∀ x ∈ a, x ∈ b) : a.length ≤ b.length := by
  induction a generalizing b with
  | nil => simp
  | cons x a ih =>
    have hx : x ∈ b := h x (by simp)
    rw [List.nodup_cons] at ha
    have hl := List.length_erase_of_mem hx
    have hp := List.length_pos_of_mem hx
    have := ih (b := b.erase x) ha.2 fun y hy => (List.mem_erase_of_ne (fun e : y = x => ha.1 (by rw [← e]; exact hy))).2 (h y (by simp [hy]))
    simp only [List.length_cons]
    omega
theorem lt_nodup {l : List Int} (h : l.Pairwise (· < ·)) : l.Nodup := h.imp fun h => by omega
theorem rcIn_mem (es : List (Int × Int)) (out : List Int) (y : Int) {z : Int} (h : z ∈ out) : z ∈ rcIn es out y := by
  unfold rcIn
  split
  · exact h
  · split
    · exact (put_mem _ _ _).2 (.inr h)
    · exact h
theorem fold_mem (es : List (Int × Int)) (set : List Int) : ∀ (out : List Int) {z : Int}, z ∈ out → z ∈ set.foldl (rcIn es) out := by
  induction set with
  | nil => intro out z h; exact h
  | cons y ys ih => intro out z h; exact ih _ (rcIn_mem es out y h)
theorem rcIn_srt (es : List (Int × Int)) (out : List Int) (y : Int) (h : out.Pairwise (· < ·)) : (rcIn es out y).Pairwise (· < ·) := by
  unfold rcIn
  split
  · exact h
  · split
    · exact put_sorted _ _ h
    · exact h
theorem fold_srt (es : List (Int × Int)) (set : List Int) : ∀ (out : List Int), out.Pairwise (· < ·) → (set.foldl (rcIn es) out).Pairwise (· < ·) := by
  induction set with
  | nil => intro out h; exact h
  | cons y ys ih => intro out h; exact ih _ (rcIn_srt es out y h)
theorem rcIn_inv (es : List (Int × Int)) (S : Int → Prop) (x : Int) (out : List Int) (y : Int) (hy : S y) (h : ∀ z ∈ out, Rch (fun a b => nearB es a b = true) S x z) : ∀ z ∈ rcIn es out y, Rch (fun a b => nearB es a b = true) S x z := by
  unfold rcIn
  split
  · exact h
  · split
    · rename_i e
      intro z hz
      rcases (put_mem _ _ _).1 hz with rfl | hz
      · obtain ⟨o, ho, hn⟩ := List.any_eq_true.1 e
        exact .step (h o ho) hn hy
      · exact h z hz
    · exact h
theorem fold_inv (es : List (Int × Int)) (S : Int → Prop) (x : Int) (set : List Int) : ∀ (out : List Int), (∀ y ∈ set, S y) → (∀ z ∈ out, Rch (fun a b => nearB es a b = true) S x z) → ∀ z ∈ set.foldl (rcIn es) out, Rch (fun a b => nearB es a b = true) S x z := by
  induction set with
  | nil => intro out _ h; exact h
  | cons y ys ih => intro out hs h; exact ih _ (fun z hz => hs z (by simp [hz])) (rcIn_inv es S x out y (hs y (by simp)) h)
theorem rcIter_srt (es : List (Int × Int)) (set : List Int) (x : Int) (k : Nat) : (rcIter es set k [x]).Pairwise (· < ·) := by
  induction k with
  | zero => exact List.pairwise_singleton _ _
  | succ k ih => exact fold_srt es set _ ih
theorem rcIter_x (es : List (Int × Int)) (set : List Int) (x : Int) (k : Nat) : x ∈ rcIter es set k [x] := by
  induction k with
  | zero => simp [rcIter]
  | succ k ih => exact fold_mem es set _ ih
theorem rcIter_inv (es : List (Int × Int)) (set : List Int) (x : Int) (k : Nat) : ∀ z ∈ rcIter es set k [x], Rch (fun a b => nearB es a b = true) (· ∈ set) x z := by
  induction k with
  | zero => intro z hz; simp [rcIter] at hz; subst hz; exact .refl
  | succ k ih => exact fold_inv es (· ∈ set) x set _ (fun _ h => h) ih
def Clo (es : List (Int × Int)) (set out : List Int) : Prop := ∀ a ∈ out, ∀ b ∈ set, nearB es a b = true → b ∈ out
theorem fold_get (es : List (Int × Int)) {a b : Int} (hn : nearB es a b = true) : ∀ (set out : List Int), b ∈ set → a ∈ out → b ∈ set.foldl (rcIn es) out
  | [], out, h, _ => by simp at h
  | y :: ys, out, h, ha => by
    rw [List.foldl_cons]
    rcases List.mem_cons.1 h with rfl | h
    · refine fold_mem es ys _ ?_
      unfold rcIn
      split
      · rename_i hm; exact hm
      · rw [if_pos (List.any_eq_true.2 ⟨a, ha, hn⟩)]
        exact (put_mem _ _ _).2 (.inl rfl)
    · exact fold_get es hn ys _ h (rcIn_mem es out y ha)
theorem fold_clo (es : List (Int × Int)) (set : List Int) (out : List Int) (hc : Clo es set out) : ∀ l : List Int, (∀ y ∈ l, y ∈ set) → l.foldl (rcIn es) out = out
  | [], _ => rfl
  | y :: ys, h => by
    have : rcIn es out y = out := by
      unfold rcIn
      split
      · rfl
      · rename_i hm
        rw [if_neg]
        intro e
        obtain ⟨o, ho, hn⟩ := List.any_eq_true.1 e
        exact hm (hc o ho y (h y (by simp)) hn)
    rw [List.foldl_cons, this]
    exact fold_clo es set out hc ys fun z hz => h z (by simp [hz])
theorem rcIter_or (es : List (Int × Int)) (set : List Int) (x : Int) (k : Nat) : Clo es set (rcIter es set k [x]) ∨ k + 1 ≤ (rcIter es set k [x]).length := by
  induction k with
  | zero => exact .inr (by simp [rcIter])
  | succ k ih =>
    by_cases hc : Clo es set (rcIter es set k [x])
    · left
      have : rcIter es set (k + 1) [x] = rcIter es set k [x] := fold_clo es set _ hc set fun _ h => h
      rw [this]; exact hc
    · right
      have ih := ih.resolve_left hc
      have hex : ∃ a b, a ∈ rcIter es set k [x] ∧ b ∈ set ∧ nearB es a b = true ∧ b ∉ rcIter es set k [x] := Classical.byContradiction fun h => hc fun a ha b hb hn => Classical.byContradiction fun hm => h ⟨a, b, ha, hb, hn, hm⟩
      obtain ⟨a, b, ha, hb, hn, hm⟩ := hex
      have hb2 : b ∈ rcIter es set (k + 1) [x] := fold_get es hn set _ hb ha
      have := nodup_le (a := b :: rcIter es set k [x]) (b := rcIter es set (k + 1) [x]) (by
        rw [List.nodup_cons]; exact ⟨hm, lt_nodup (rcIter_srt es set x k)⟩) (by
        intro z hz
        rcases List.mem_cons.1 hz with rfl | hz
        · exact hb2
        · exact fold_mem es set _ hz)
      simp only [List.length_cons] at this
      omega
theorem reach_iff (es : List (Int × Int)) (set : List Int) (x : Int) (hx : x ∈ set) (z : Int) : z ∈ reachL es set x ↔ Rch (fun a b => nearB es a b = true) (· ∈ set) x z := by
  constructor
  · exact rcIter_inv es set x _ z
  · have hc : Clo es set (reachL es set x) := by
      rcases rcIter_or es set x set.length with h | h
      · exact h
      · have := nodup_le (a := rcIter es set set.length [x]) (b := set) (lt_nodup (rcIter_srt es set x _)) fun y hy => (rcIter_inv es set x _ y hy).in_ hx
        omega
    intro h
    induction h with
    | refl => exact rcIter_x es set x _
    | step _ h1 h2 ih => exact hc _ ih _ h2 h1
theorem reach_srt (es : List (Int × Int)) (set : List Int) (x : Int) : (reachL es set x).Pairwise (· < ·) := rcIter_srt es set x _
theorem puts_mem (z : Int) : ∀ (l s : List Int), z ∈ l.foldl put s ↔ z ∈ l ∨ z ∈ s
  | [], s => by simp
  | y :: ys, s => by
    rw [List.foldl_cons, puts_mem z ys, put_mem, List.mem_cons]
    constructor
    · rintro (h | h | h)
      · exact .inl (.inr h)
      · exact .inl (.inl h)
      · exact .inr h
    · rintro ((h | h) | h)
      · exact .inr (.inl h)
      · exact .inl h
      · exact .inr (.inr h)

/- the queue -/
theorem ptIn_seen {N C : Nat} (v : Nat) (hv : v < N) : ∀ (l : List Int) (st : List Bool × List Int), PI N C st → (∀ y ∈ l, 0 ≤ y ∧ y < N) → ((ptIn l st).1.getD v false = true ↔ (st.1.getD v false = true ∨ (v : Int) ∈ l))
  | [], st, h, _ => by simp [ptIn]
  | j :: r, st, h, hl => by
    have hj := hl j (by simp)
    simp only [ptIn]
    split
    · rename_i hs
      rw [ptIn_seen v hv r st h (fun y hy => hl y (by simp [hy])), List.mem_cons]
      constructor
      · rintro (h1 | h1)
        · exact .inl h1
        · exact .inr (.inr h1)
      · rintro (h1 | h1 | h1)
        · exact .inl h1
        · left; rw [← h1] at hs; simpa using hs
        · exact .inr h1
    · rename_i hn
      have hlen := h.len
      rw [ptIn_seen v hv r _ (h.put hj hn) (fun y hy => hl y (by simp [hy])), List.mem_cons]
      show ((st.1.set j.toNat true).getD v false = true ∨ _) ↔ _
      rw [getD_setBool _ _ _ _ (by omega)]
      by_cases e : j.toNat = v
      · rw [if_pos e]
        have : (v : Int) = j := by omega
        simp [this]
      · rw [if_neg e]
        have : ¬ (v : Int) = j := by omega
        simp [this]
theorem ptIn_q (z : Int) : ∀ (l : List Int) (st : List Bool × List Int), z ∈ (ptIn l st).2 → z ∈ st.2 ∨ (z ∈ l ∧ ¬ st.1.getD z.toNat false = true)
  | [], st, h => .inl h
  | j :: r, st, h => by
    simp only [ptIn] at h
    split at h
    · rcases ptIn_q z r st h with h | ⟨h, h2⟩
      · exact .inl h
      · exact .inr ⟨by simp [h], h2⟩
    · rename_i hn
      rcases ptIn_q z r _ h with h | ⟨h, h2⟩
      · simp only [List.mem_append, List.mem_cons, List.not_mem_nil, or_false] at h
        rcases h with h | rfl
        · exact .inl h
        · exact .inr ⟨by simp, hn⟩
      · refine .inr ⟨by simp [h], fun h3 => h2 ?_⟩
        show (st.1.set j.toNat true).getD z.toNat false = true
        rw [List.getD_eq_getElem?_getD, List.getElem?_set]
        rw [List.getD_eq_getElem?_getD] at h3
        split
        · split
          · rfl
          · rename_i e1 e2
            rw [← e1, List.getElem?_eq_none (by omega)] at h3
            exact h3
        · exact h3
/-- what holds of the queue from a place, all along: s is what was seen before -/
structure QI (L : List (List Int)) (s : List Bool) (x : Nat) (C : Nat) (st : List Bool × List Int) (k : Nat) : Prop where
  pi : PI L.length C st
  seen : ∀ v, v < L.length → (st.1.getD v false = true ↔ (s.getD v false = true ∨ (v : Int) ∈ st.2))
  rch : ∀ z ∈ st.2, Rch (fun a b => b ∈ L.getD a.toNat []) (fun z => 0 ≤ z ∧ z < L.length ∧ ¬ s.getD z.toNat false = true) x z
  cl : ∀ i, i < k → ∀ y ∈ L.getD (st.2.getD i 0).toNat [], st.1.getD y.toNat false = true
  le : k ≤ st.2.length
  x : (x : Int) ∈ st.2
theorem QI.step {L : List (List Int)} (hL : LOk L.length L) {s : List Bool} {x C : Nat} {st : List Bool × List Int} {k : Nat} (h : QI L s x C st k) (hk : k < st.2.length) : QI L s x C (ptIn (L.getD (st.2.getD k 0).toNat []) st) (k + 1) := by
  have hpre := ptIn_pre (L.getD (st.2.getD k 0).toNat []) st
  have hPI := PI.inn _ h.pi (hL (st.2.getD k 0).toNat)
  have hm : st.2.getD k 0 ∈ st.2 := by simp [hk]
  have hsn : ∀ v, v < L.length → _ := fun v hv => ptIn_seen v hv (L.getD (st.2.getD k 0).toNat []) st h.pi (hL _)
  refine ⟨hPI, ?_, ?_, ?_, ?_, hpre.subset h.x⟩
  · intro v hv
    constructor
    · intro hh
      rcases (hsn v hv).1 hh with h1 | h1
      · rcases (h.seen v hv).1 h1 with h2 | h2
        · exact .inl h2
        · exact .inr (hpre.subset h2)
      · by_cases h2 : st.1.getD v false = true
        · rcases (h.seen v hv).1 h2 with h2 | h2
          · exact .inl h2
          · exact .inr (hpre.subset h2)
        · right
          -- it is put into the queue
          have key : ∀ (l : List Int) (st : List Bool × List Int), PI L.length C st → (∀ y ∈ l, 0 ≤ y ∧ y < L.length) → (v : Int) ∈ l → ¬ st.1.getD v false = true → (v : Int) ∈ (ptIn l st).2 := by
            intro l
            induction l with
            | nil => intro st _ _ h3; simp at h3
            | cons j r ih =>
              intro st hp hl h3 h4
              have hj := hl j (by simp)
              simp only [ptIn]
              by_cases e : j = (v : Int)
              · subst e
                rw [Int.toNat_natCast, if_neg h4]
                exact (ptIn_pre r _).subset (by simp)
              · have h3' : (v : Int) ∈ r := by
                  rcases List.mem_cons.1 h3 with h | h
                  · exact absurd h.symm e
                  · exact h
                split
                · exact ih st hp (fun y hy => hl y (by simp [hy])) h3' h4
                · rename_i hn
                  refine ih _ (hp.put hj hn) (fun y hy => hl y (by simp [hy])) h3' ?_
                  show ¬ (st.1.set j.toNat true).getD v false = true
                  have := hp.len
                  rw [getD_setBool _ _ _ _ (by omega), if_neg (by omega)]
                  exact h4
          exact key _ st h.pi (hL _) h1 h2
    · rintro (h1 | h1)
      · exact (hsn v hv).2 (.inl ((h.seen v hv).2 (.inl h1)))
      · obtain ⟨_, h2⟩ := hPI.q _ h1
        simpa using h2
  · intro z hz
    rcases ptIn_q z _ st hz with h1 | ⟨h1, h2⟩
    · exact h.rch z h1
    · have hr := hL _ z h1
      refine .step (h.rch _ hm) h1 ⟨hr.1, hr.2, fun h3 => h2 ?_⟩
      exact (h.seen z.toNat (by omega)).2 (.inl h3)
  · intro i hi y hy
    have hg : (ptIn (L.getD (st.2.getD k 0).toNat []) st).2.getD i 0 = st.2.getD i 0 := by
      obtain ⟨t, ht⟩ := hpre
      rw [← ht, List.getD_eq_getElem?_getD, List.getElem?_append_left (by omega), ← List.getD_eq_getElem?_getD]
    rw [hg] at hy
    have hr := hL _ y hy
    refine (hsn y.toNat (by omega)).2 ?_
    by_cases e : i = k
    · subst e
      right
      rw [Int.toNat_of_nonneg hr.1]; exact hy
    · exact .inl (h.cl i (by omega) y hy)
  · have := hpre.length_le
    by_cases e : (ptIn (L.getD (st.2.getD k 0).toNat []) st).2.length = st.2.length <;> omega
theorem QI.run {L : List (List Int)} (hL : LOk L.length L) {s : List Bool} {x C : Nat} : ∀ (f : Nat) (st : List Bool × List Int) (k : Nat), f + k = L.length + 1 → QI L s x C st k → QI L s x C (ptF L f st k) (ptF L f st k).2.length
  | 0, st, k, hf, h => by have := h.pi.len_le; have := h.le; omega
  | f + 1, st, k, hf, h => by
    simp only [ptF]
    split
    · rename_i hk
      exact QI.run hL f _ _ (by omega) (h.step hL hk)
    · have : k = st.2.length := by have := h.le; omega
      rw [← this]; exact h
/-- what the queue holds at last -/
theorem queue_iff {L : List (List Int)} (hL : LOk L.length L) {s : List Bool} (hs : s.length = L.length) {x : Nat} (hx : x < L.length) (hn : ¬ s.getD x false = true) :
    (∀ z, z ∈ (ptF L (L.length + 1) (s.set x true, [(x : Int)]) 0).2 ↔ Rch (fun a b => b ∈ L.getD a.toNat []) (fun z => 0 ≤ z ∧ z < L.length ∧ ¬ s.getD z.toNat false = true) x z)
    ∧ (∀ v, v < L.length → ((ptF L (L.length + 1) (s.set x true, [(x : Int)]) 0).1.getD v false = true ↔ (s.getD v false = true ∨ (v : Int) ∈ (ptF L (L.length + 1) (s.set x true, [(x : Int)]) 0).2)))
    ∧ (ptF L (L.length + 1) (s.set x true, [(x : Int)]) 0).1.length = L.length := by
  have h0 : QI L s x (s.countP fun b => !b) (s.set x true, [(x : Int)]) 0 := by
    refine ⟨PI.first hs hx hn, ?_, ?_, fun i hi => absurd hi (Nat.not_lt_zero i), Nat.zero_le _, by simp⟩
    · intro v hv
      show (s.set x true).getD v false = true ↔ _
      rw [getD_setBool _ _ _ _ (by omega)]
      by_cases e : x = v
      · rw [if_pos e]; simp [e]
      · rw [if_neg e]
        have : ¬ (v : Int) = (x : Int) := by omega
        simp [this]
    · intro z hz
      simp only [List.mem_cons, List.not_mem_nil, or_false] at hz
      subst hz; exact .refl
  have h := QI.run hL (L.length + 1) _ 0 (by omega) h0
  refine ⟨fun z => ⟨h.rch z, fun hz => ?_⟩, h.seen, h.pi.len⟩
  induction hz with
  | refl => exact h.x
  | step _ h1 h2 ih =>
    rename_i y z _
    obtain ⟨i, hi, e⟩ := List.mem_iff_getElem.1 ih
    have e2 : (ptF L (L.length + 1) (s.set x true, [(x : Int)]) 0).2.getD i 0 = y := by simp [hi, e]
    have h3 := h.cl i hi z (by rw [e2]; exact h1)
    rcases (h.seen z.toNat (by omega)).1 h3 with h4 | h4
    · exact absurd h4 h2.2.2
    · rw [Int.toNat_of_nonneg h2.1] at h4; exact h4

/-- the places not seen at first -/
def setW (s0 : List Bool) : Nat → List Int
  | 0 => []
  | k + 1 => setW s0 k ++ if s0.getD k false = true then [] else [(k : Int)]
theorem setW_mem (s0 : List Bool) (k : Nat) (z : Int) : z ∈ setW s0 k ↔ (0 ≤ z ∧ z < k ∧ ¬ s0.getD z.toNat false = true) := by
  induction k with
  | zero =>
    simp only [setW, List.not_mem_nil, false_iff]
    rintro ⟨h1, h2, _⟩
    omega
  | succ k ih =>
    have e0 : setW s0 (k + 1) = setW s0 k ++ if s0.getD k false = true then [] else [(k : Int)] := rfl
    rw [e0, List.mem_append, ih]
    by_cases hs : s0.getD k false = true
    · rw [if_pos hs]
      simp only [List.not_mem_nil, or_false]
      constructor
      · rintro ⟨h1, h2, h3⟩; exact ⟨h1, by omega, h3⟩
      · rintro ⟨h1, h2, h3⟩
        refine ⟨h1, ?_, h3⟩
        by_cases e : z = k
        · subst e; rw [Int.toNat_natCast] at h3; exact absurd hs h3
        · omega
    · rw [if_neg hs]
      simp only [List.mem_cons, List.not_mem_nil, or_false]
      constructor
      · rintro (⟨h1, h2, h3⟩ | rfl)
        · exact ⟨h1, by omega, h3⟩
        · exact ⟨by omega, by omega, by rw [Int.toNat_natCast]; exact hs⟩
      · rintro ⟨h1, h2, h3⟩
        by_cases e : z = k
        · exact .inr e
        · exact .inl ⟨h1, by omega, h3⟩
theorem srt_ext {a b : List Int} (ha : a.Pairwise (· < ·)) (hb : b.Pairwise (· < ·)) (h : ∀ z, z ∈ a ↔ z ∈ b) : a = b := by
  have hp : a.Perm b := (List.perm_ext_iff_of_nodup (lt_nodup ha) (lt_nodup hb)).2 h
  exact List.Perm.eq_of_pairwise (le := (· < ·)) (fun x y _ _ h1 h2 => by omega) ha hb hp
theorem inOrd_srt (N : Nat) (q : List Int) : (inOrd N q).Pairwise (· < ·) := by
  unfold inOrd
  refine List.Pairwise.filter _ ?_
  refine List.Pairwise.map _ ?_ List.pairwise_lt_range
  intro a b hab
  omega
theorem inOrd_mem (N : Nat) (q : List Int) (z : Int) : z ∈ inOrd N q ↔ (0 ≤ z ∧ z < N) ∧ z ∈ q := by
  unfold inOrd
  rw [List.mem_filter, decide_eq_true_iff, List.mem_map]
  constructor
  · rintro ⟨⟨a, ha, rfl⟩, h⟩
    have := List.mem_range.1 ha
    exact ⟨by omega, h⟩
  · rintro ⟨⟨h1, h2⟩, h⟩
    exact ⟨⟨z.toNat, List.mem_range.2 (by omega), by omega⟩, h⟩
structure PR (L : List (List Int)) (es : List (Int × Int)) (s0 : List Bool) (k : Nat) : Prop where
  eq : (prF L s0 k).2 = (pcK es (setW s0 L.length) (setW s0 k)).1
  len : (prF L s0 k).1.length = L.length
  seen : ∀ v, v < L.length → ((prF L s0 k).1.getD v false = true ↔ (s0.getD v false = true ∨ (v : Int) ∈ (pcK es (setW s0 L.length) (setW s0 k)).2))
  sub : ∀ z ∈ (pcK es (setW s0 L.length) (setW s0 k)).2, z ∈ setW s0 L.length
  clo : Clo es (setW s0 L.length) (pcK es (setW s0 L.length) (setW s0 k)).2
theorem parts_pc {L : List (List Int)} {es : List (Int × Int)} (hadj : ∀ x, x < L.length → ∀ y, y ∈ L.getD x [] ↔ ((0 ≤ y ∧ y < L.length) ∧ nearB es x y = true)) (s0 : List Bool) (hs : s0.length = L.length) {k : Nat} : k ≤ L.length → PR L es s0 k := by
  have hL : LOk L.length L := by
    intro i y hy
    by_cases hi : i < L.length
    · exact ((hadj i hi y).1 hy).1
    · have : L.getD i [] = [] := by simp [List.getElem?_eq_none (by omega : L.length ≤ i)]
      rw [this] at hy; simp at hy
  induction k with
  | zero =>
    intro _
    refine ⟨rfl, hs, ?_, ?_, ?_⟩
    · intro v hv; simp [prF, setW, pcK]
    · intro z hz; simp [setW, pcK] at hz
    · intro a ha; simp [setW, pcK] at ha
  | succ k ih =>
    intro hk
    have h := ih (by omega)
    obtain ⟨h1, h2, h3, h4, h5⟩ := h
    have e0 : setW s0 (k + 1) = setW s0 k ++ if s0.getD k false = true then [] else [(k : Int)] := rfl
    have p0 : prF L s0 (k + 1) = if (prF L s0 k).1.getD k false = true then prF L s0 k else
      ((ptF L (L.length + 1) ((prF L s0 k).1.set k true, [(k : Int)]) 0).1, (prF L s0 k).2 ++ [inOrd L.length (ptF L (L.length + 1) ((prF L s0 k).1.set k true, [(k : Int)]) 0).2]) := rfl
    by_cases hk0 : s0.getD k false = true
    · rw [if_pos hk0, List.append_nil] at e0
      have hk1 : (prF L s0 k).1.getD k false = true := (h3 k (by omega)).2 (.inl hk0)
      rw [if_pos hk1] at p0
      refine ⟨?_, ?_, ?_, ?_, ?_⟩
      · rw [p0, e0]; exact h1
      · rw [p0]; exact h2
      · rw [p0, e0]; exact h3
      · rw [e0]; exact h4
      · rw [e0]; exact h5
    · rw [if_neg hk0] at e0
      have hkS : (k : Int) ∈ setW s0 L.length := (setW_mem s0 L.length k).2 ⟨by omega, by omega, by rw [Int.toNat_natCast]; exact hk0⟩
      have c0 : pcK es (setW s0 L.length) (setW s0 (k + 1)) = pcS es (setW s0 L.length) (pcK es (setW s0 L.length) (setW s0 k)) k := by
        rw [e0]; unfold pcK; rw [List.foldl_append]; rfl
      generalize hS : setW s0 L.length = S at *
      generalize hP : pcK es S (setW s0 k) = P at *
      by_cases hk1 : (k : Int) ∈ P.2
      · have hk2 : (prF L s0 k).1.getD k false = true := (h3 k (by omega)).2 (.inr hk1)
        rw [if_pos hk2] at p0
        have c1 : pcK es S (setW s0 (k + 1)) = P := by rw [c0]; unfold pcS; rw [if_pos hk1]
        refine ⟨?_, ?_, ?_, ?_, ?_⟩
        · rw [p0, hS, c1]; exact h1
        · rw [p0]; exact h2
        · rw [p0, hS, c1]; exact h3
        · rw [hS, c1]; exact h4
        · rw [hS, c1]; exact h5
      · have hk2 : ¬ (prF L s0 k).1.getD k false = true := fun h => by
          rcases (h3 k (by omega)).1 h with h | h
          · exact hk0 h
          · exact hk1 h
        rw [if_neg hk2] at p0
        have c1 : pcK es S (setW s0 (k + 1)) = (P.1 ++ [reachL es S k], (reachL es S k).foldl put P.2) := by rw [c0]; unfold pcS; rw [if_neg hk1]
        obtain ⟨q1, q2, q3⟩ := queue_iff hL h2 (x := k) (by omega) hk2
        have hri := reach_iff es S k hkS
        -- what is reached is the same
        have same : ∀ z, z ∈ (ptF L (L.length + 1) ((prF L s0 k).1.set k true, [(k : Int)]) 0).2 ↔ z ∈ reachL es S k := by
          intro z
          rw [q1, hri]
          constructor
          · intro h
            induction h with
            | refl => exact .refl
            | step hy h1' h2' ih =>
              rename_i y z
              have hyr0 := hy.in_ (S := fun z : Int => 0 ≤ z ∧ z < L.length ∧ ¬ (prF L s0 k).1.getD z.toNat false = true) ⟨by omega, by omega, by rw [Int.toNat_natCast]; exact hk2⟩
              have hyr : 0 ≤ y ∧ y < L.length := ⟨hyr0.1, hyr0.2.1⟩
              have hn := ((hadj y.toNat (by omega) z).1 h1').2
              rw [Int.toNat_of_nonneg hyr.1] at hn
              refine .step ih hn ?_
              show z ∈ S
              rw [← hS, setW_mem]
              exact ⟨h2'.1, h2'.2.1, fun h => h2'.2.2 ((h3 z.toNat (by omega)).2 (.inl h))⟩
          · intro h
            have key : (z ∉ P.2 ∧ z ∈ S) ∧ Rch (fun a b => b ∈ L.getD a.toNat []) (fun z => 0 ≤ z ∧ z < L.length ∧ ¬ (prF L s0 k).1.getD z.toNat false = true) k z := by
              induction h with
              | refl => exact ⟨⟨hk1, hkS⟩, .refl⟩
              | step _ hn hz ih =>
                rename_i y z _
                obtain ⟨⟨i1, i2⟩, i3⟩ := ih
                have hz' : z ∈ S := hz
                have hzP : z ∉ P.2 := fun hm => i1 (h5 z hm y i2 (by rw [nearB_comm]; exact hn))
                have hzr := hz'
                rw [← hS, setW_mem] at hzr
                have hyr := i2
                rw [← hS, setW_mem] at hyr
                refine ⟨⟨hzP, hz'⟩, .step i3 ?_ ⟨hzr.1, hzr.2.1, fun h => ?_⟩⟩
                · refine (hadj y.toNat (by omega) z).2 ⟨⟨hzr.1, hzr.2.1⟩, ?_⟩
                  rw [Int.toNat_of_nonneg hyr.1]; exact hn
                · rcases (h3 z.toNat (by omega)).1 h with h | h
                  · exact hzr.2.2 h
                  · rw [Int.toNat_of_nonneg hzr.1] at h; exact hzP h
            exact key.2
        have hsub : ∀ z ∈ reachL es S k, z ∈ S := fun z hz => ((hri z).1 hz).in_ (S := (· ∈ S)) hkS
        have hrng : ∀ z ∈ S, 0 ≤ z ∧ z < L.length := fun z hz => by rw [← hS, setW_mem] at hz; exact ⟨hz.1, hz.2.1⟩
        have heq : inOrd L.length (ptF L (L.length + 1) ((prF L s0 k).1.set k true, [(k : Int)]) 0).2 = reachL es S k := by
          refine srt_ext (inOrd_srt _ _) (reach_srt es S k) fun z => ?_
          rw [inOrd_mem, same]
          exact ⟨fun h => h.2, fun h => ⟨hrng z (hsub z h), h⟩⟩
        refine ⟨?_, ?_, ?_, ?_, ?_⟩
        · rw [p0, hS, c1, heq, h1]
        · rw [p0]; exact q3
        · intro v hv
          rw [p0, hS, c1]
          show (ptF L (L.length + 1) ((prF L s0 k).1.set k true, [(k : Int)]) 0).1.getD v false = true ↔ (_ ∨ (v : Int) ∈ (reachL es S k).foldl put P.2)
          rw [q2 v hv, puts_mem, h3 v hv, same]
          constructor
          · rintro ((h | h) | h)
            · exact .inl h
            · exact .inr (.inr h)
            · exact .inr (.inl h)
          · rintro (h | h | h)
            · exact .inl (.inl h)
            · exact .inr h
            · exact .inl (.inr h)
        · rw [hS, c1]
          intro z hz
          rcases (puts_mem z _ _).1 hz with h | h
          · exact hsub z h
          · exact h4 z h
        · rw [hS, c1]
          intro a ha b hb hn
          refine (puts_mem b _ _).2 ?_
          rcases (puts_mem a _ _).1 ha with h | h
          · exact .inl ((hri b).2 (.step ((hri a).1 h) hn hb))
          · exact .inr (h5 a h b hb hn)
/-- THE PARTS are the pieces. -/
theorem parts_pieces {L : List (List Int)} {es : List (Int × Int)} (hadj : ∀ x, x < L.length → ∀ y, y ∈ L.getD x [] ↔ ((0 ≤ y ∧ y < L.length) ∧ nearB es x y = true)) (wo : Int) : partsL L wo = piecesL es (setW (seen0 L.length wo) L.length) := by
  have hs : (seen0 L.length wo).length = L.length := by unfold seen0; split <;> simp
  exact (parts_pc hadj _ hs (k := L.length) (Nat.le_refl _)).eq
end Go.Proofs.Ythhnpchjjbjabaa.Ai
