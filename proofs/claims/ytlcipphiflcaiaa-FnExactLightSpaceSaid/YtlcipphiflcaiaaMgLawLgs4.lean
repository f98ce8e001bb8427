/- Texts of this claim, joined: ReachP, BfsQ, Bag, Rep, Bfs, Roads, Bits, TreQ, MatP, MatA, SrtL, SrtF, JmpS, GrA, Kru, Ones, TrbA, Pop. -/
import Derived.Laws.Bits64
import Derived.Test.YtlcipphiflcaiaaProg
import Derived.KernelRfl
import Derived.Test.YtlcipphiflcaiaaMgLawLgs3
namespace Go.Proofs.Ytlcipphiflcaiaa.Ai
open Go
set_option linter.unusedVariables false
/-- reached by roads, all of them to places of a kind -/
inductive Rch (adj : Int → Int → Prop) (S : Int → Prop) (x : Int) : Int → Prop
  | refl : Rch adj S x x
  | step {y z : Int} : Rch adj S x y → adj y z → S z → Rch adj S x z
theorem Rch.mono {adj : Int → Int → Prop} {S T : Int → Prop} {x z : Int} (h : Rch adj S x z) (hs : ∀ y, S y → T y) : Rch adj T x z := by
  induction h with
  | refl => exact .refl
  | step _ h1 h2 ih => exact .step ih h1 (hs _ h2)
theorem Rch.in_ {adj : Int → Int → Prop} {S : Int → Prop} {x z : Int} (h : Rch adj S x z) (hx : S x) : S z := by
  cases h with
  | refl => exact hx
  | step _ _ h2 => exact h2
theorem nodup_le {a b : List Int} (ha : a.Nodup) (h : ∀ x ∈ a, x ∈ b) : a.length ≤ b.length := by
  induction a generalizing b with
  | nil => simp
  | cons x a ih =>
    have hx : x ∈ b := h x (by simp)
    rw [List.nodup_cons] at ha
    have hl := List.length_erase_of_mem hx
    have hp := List.length_pos_of_mem hx
    have := ih (b := b.erase x) ha.2 fun y hy => (List.mem_erase_of_ne (fun e : y = x => ha.1 (by rw [← e]; exact hy))).2 (h y (by simp [hy]))
    simp only [List.length_cons]
    omega
theorem lt_nodup {l : List Int} (h : l.Pairwise (· < ·)) : l.Nodup := h.imp fun h => by omega
theorem ptIn_seen {N C : Nat} (v : Nat) (hv : v < N) : ∀ (l : List Int) (st : List Bool × List Int), PI N C st → (∀ y ∈ l, 0 ≤ y ∧ y < N) → ((ptIn l st).1.getD v false = true ↔ (st.1.getD v false = true ∨ (v : Int) ∈ l))
  | [], st, h, _ => by simp [ptIn]
  | j :: r, st, h, hl => by
    have hj := hl j (by simp)
    simp only [ptIn]
    split
    · rename_i hs
      rw [ptIn_seen v hv r st h (fun y hy => hl y (by simp [hy])), List.mem_cons]
      constructor
      · rintro (h1 | h1)
        · exact .inl h1
        · exact .inr (.inr h1)
      · rintro (h1 | h1 | h1)
        · exact .inl h1
        · left; rw [← h1] at hs; simpa using hs
        · exact .inr h1
    · rename_i hn
      have hlen := h.len
      rw [ptIn_seen v hv r _ (h.put hj hn) (fun y hy => hl y (by simp [hy])), List.mem_cons]
      show ((st.1.set j.toNat true).getD v false = true ∨ _) ↔ _
      rw [getD_setBool _ _ _ _ (by omega)]
      by_cases e : j.toNat = v
      · rw [if_pos e]
        have : (v : Int) = j := by omega
        simp [this]
      · rw [if_neg e]
        have : ¬ (v : Int) = j := by omega
        simp [this]
theorem ptIn_q (z : Int) : ∀ (l : List Int) (st : List Bool × List Int), z ∈ (ptIn l st).2 → z ∈ st.2 ∨ (z ∈ l ∧ ¬ st.1.getD z.toNat false = true)
  | [], st, h => .inl h
  | j :: r, st, h => by
    simp only [ptIn] at h
    split at h
    · rcases ptIn_q z r st h with h | ⟨h, h2⟩
      · exact .inl h
      · exact .inr ⟨by simp [h], h2⟩
    · rename_i hn
      rcases ptIn_q z r _ h with h | ⟨h, h2⟩
      · simp only [List.mem_append, List.mem_cons, List.not_mem_nil, or_false] at h
        rcases h with h | rfl
        · exact .inl h
        · exact .inr ⟨by simp, hn⟩
      · refine .inr ⟨by simp [h], fun h3 => h2 ?_⟩
        show (st.1.set j.toNat true).getD z.toNat false = true
        rw [List.getD_eq_getElem?_getD, List.getElem?_set]
        rw [List.getD_eq_getElem?_getD] at h3
        split
        · split
          · rfl
          · rename_i e1 e2
            rw [← e1, List.getElem?_eq_none (by omega)] at h3
            exact h3
        · exact h3
/-- what holds of the queue from a place, all along: s is what was seen before -/
structure QI (L : List (List Int)) (s : List Bool) (x : Nat) (C : Nat) (st : List Bool × List Int) (k : Nat) : Prop where
  pi : PI L.length C st
  seen : ∀ v, v < L.length → (st.1.getD v false = true ↔ (s.getD v false = true ∨ (v : Int) ∈ st.2))
  rch : ∀ z ∈ st.2, Rch (fun a b => b ∈ L.getD a.toNat []) (fun z => 0 ≤ z ∧ z < L.length ∧ ¬ s.getD z.toNat false = true) x z
  cl : ∀ i, i < k → ∀ y ∈ L.getD (st.2.getD i 0).toNat [], st.1.getD y.toNat false = true
  le : k ≤ st.2.length
  x : (x : Int) ∈ st.2
theorem QI.step {L : List (List Int)} (hL : LOk L.length L) {s : List Bool} {x C : Nat} {st : List Bool × List Int} {k : Nat} (h : QI L s x C st k) (hk : k < st.2.length) : QI L s x C (ptIn (L.getD (st.2.getD k 0).toNat []) st) (k + 1) := by
  have hpre := ptIn_pre (L.getD (st.2.getD k 0).toNat []) st
  have hPI := PI.inn _ h.pi (hL (st.2.getD k 0).toNat)
  have hm : st.2.getD k 0 ∈ st.2 := by simp [hk]
  have hsn : ∀ v, v < L.length → _ := fun v hv => ptIn_seen v hv (L.getD (st.2.getD k 0).toNat []) st h.pi (hL _)
  refine ⟨hPI, ?_, ?_, ?_, ?_, hpre.subset h.x⟩
  · intro v hv
    constructor
    · intro hh
      rcases (hsn v hv).1 hh with h1 | h1
      · rcases (h.seen v hv).1 h1 with h2 | h2
        · exact .inl h2
        · exact .inr (hpre.subset h2)
      · by_cases h2 : st.1.getD v false = true
        · rcases (h.seen v hv).1 h2 with h2 | h2
          · exact .inl h2
          · exact .inr (hpre.subset h2)
        · right
          -- it is put into the queue
          have key : ∀ (l : List Int) (st : List Bool × List Int), PI L.length C st → (∀ y ∈ l, 0 ≤ y ∧ y < L.length) → (v : Int) ∈ l → ¬ st.1.getD v false = true → (v : Int) ∈ (ptIn l st).2 := by
            intro l
            induction l with
            | nil => intro st _ _ h3; simp at h3
            | cons j r ih =>
              intro st hp hl h3 h4
              have hj := hl j (by simp)
              simp only [ptIn]
              by_cases e : j = (v : Int)
              · subst e
                rw [Int.toNat_natCast, if_neg h4]
                exact (ptIn_pre r _).subset (by simp)
              · have h3' : (v : Int) ∈ r := by
                  rcases List.mem_cons.1 h3 with h | h
                  · exact absurd h.symm e
                  · exact h
                split
                · exact ih st hp (fun y hy => hl y (by simp [hy])) h3' h4
                · rename_i hn
                  refine ih _ (hp.put hj hn) (fun y hy => hl y (by simp [hy])) h3' ?_
                  show ¬ (st.1.set j.toNat true).getD v false = true
                  have := hp.len
                  rw [getD_setBool _ _ _ _ (by omega), if_neg (by omega)]
                  exact h4
          exact key _ st h.pi (hL _) h1 h2
    · rintro (h1 | h1)
      · exact (hsn v hv).2 (.inl ((h.seen v hv).2 (.inl h1)))
      · obtain ⟨_, h2⟩ := hPI.q _ h1
        simpa using h2
  · intro z hz
    rcases ptIn_q z _ st hz with h1 | ⟨h1, h2⟩
    · exact h.rch z h1
    · have hr := hL _ z h1
      refine .step (h.rch _ hm) h1 ⟨hr.1, hr.2, fun h3 => h2 ?_⟩
      exact (h.seen z.toNat (by omega)).2 (.inl h3)
  · intro i hi y hy
    have hg : (ptIn (L.getD (st.2.getD k 0).toNat []) st).2.getD i 0 = st.2.getD i 0 := by
      obtain ⟨t, ht⟩ := hpre
      rw [← ht, List.getD_eq_getElem?_getD, List.getElem?_append_left (by omega), ← List.getD_eq_getElem?_getD]
    rw [hg] at hy
    have hr := hL _ y hy
    refine (hsn y.toNat (by omega)).2 ?_
    by_cases e : i = k
    · subst e
      right
      rw [Int.toNat_of_nonneg hr.1]; exact hy
    · exact .inl (h.cl i (by omega) y hy)
  · have := hpre.length_le
    by_cases e : (ptIn (L.getD (st.2.getD k 0).toNat []) st).2.length = st.2.length <;> omega
theorem QI.run {L : List (List Int)} (hL : LOk L.length L) {s : List Bool} {x C : Nat} : ∀ (f : Nat) (st : List Bool × List Int) (k : Nat), f + k = L.length + 1 → QI L s x C st k → QI L s x C (ptF L f st k) (ptF L f st k).2.length
  | 0, st, k, hf, h => by have := h.pi.len_le; have := h.le; omega
  | f + 1, st, k, hf, h => by
    simp only [ptF]
    split
    · rename_i hk
      exact QI.run hL f _ _ (by omega) (h.step hL hk)
    · have : k = st.2.length := by have := h.le; omega
      rw [← this]; exact h
end Go.Proofs.Ytlcipphiflcaiaa.Ai
namespace Go.Proofs.Ytlcipphiflcaiaa.Ai
open Go
set_option linter.unusedVariables false
structure DI (L : List (List Int)) (i : Nat) (st : List Int × List Int) (k : Nat) : Prop where
  bi : BI L.length st
  iff : ∀ v, v < L.length → (0 ≤ st.1.getD v 0 ↔ (v : Int) ∈ st.2)
  src : ∀ v, v < L.length → 0 ≤ st.1.getD v 0 → (v = i ∧ st.1.getD v 0 = 0) ∨ ∃ u, u < L.length ∧ 0 ≤ st.1.getD u 0 ∧ (v : Int) ∈ L.getD u [] ∧ st.1.getD v 0 = st.1.getD u 0 + 1
  cl : ∀ j, j < k → ∀ y ∈ L.getD (st.2.getD j 0).toNat [], 0 ≤ st.1.getD y.toNat 0
  le : k ≤ st.2.length
  at_ : 0 ≤ st.1.getD i 0
theorem bfsIn_keep (d : Int) (v : Nat) : ∀ (l : List Int) (st : List Int × List Int), (∀ y ∈ l, 0 ≤ y ∧ y < st.1.length) → 0 ≤ st.1.getD v 0 → (bfsIn d l st).1.getD v 0 = st.1.getD v 0
  | [], st, _, _ => rfl
  | j :: r, st, hl, h => by
    simp only [bfsIn]
    have hj := hl j (by simp)
    split
    · rename_i hn
      have hvj : j.toNat ≠ v := fun e => by rw [e] at hn; omega
      have e1 : (st.1.set j.toNat d).getD v 0 = st.1.getD v 0 := by
        rw [List.getD_eq_getElem?_getD, List.getD_eq_getElem?_getD, List.getElem?_set_ne hvj]
      rw [bfsIn_keep d v r _ (fun y hy => by simpa using hl y (by simp [hy])) (by show 0 ≤ (st.1.set j.toNat d).getD v 0; rw [e1]; exact h)]
      exact e1
    · exact bfsIn_keep d v r st (fun y hy => hl y (by simp [hy])) h
theorem bfsIn_new (d : Int) (hd : 0 ≤ d) (v : Nat) : ∀ (l : List Int) (st : List Int × List Int), (∀ y ∈ l, 0 ≤ y ∧ y < st.1.length) → v < st.1.length → st.1.getD v 0 < 0 →
    (((v : Int) ∈ l ∧ (bfsIn d l st).1.getD v 0 = d ∧ (v : Int) ∈ (bfsIn d l st).2) ∨ ((v : Int) ∉ l ∧ (bfsIn d l st).1.getD v 0 = st.1.getD v 0 ∧ ((v : Int) ∈ (bfsIn d l st).2 → (v : Int) ∈ st.2)))
  | [], st, _, _, h => .inr ⟨by simp, rfl, id⟩
  | j :: r, st, hl, hv, h => by
    have hj := hl j (by simp)
    simp only [bfsIn]
    by_cases e : j = (v : Int)
    · subst e
      rw [Int.toNat_natCast, if_pos h]
      have e1 : (st.1.set v d).getD v 0 = d := by rw [getD_setB _ _ _ _ hv, if_pos rfl]
      refine .inl ⟨by simp, ?_, ?_⟩
      · rw [bfsIn_keep d v r _ (fun y hy => by simpa using hl y (by simp [hy])) (by show 0 ≤ (st.1.set v d).getD v 0; rw [e1]; exact hd)]
        exact e1
      · exact (bfsIn_pre d r _).subset (by simp)
    · have hne : ¬ (v : Int) = j := fun h => e h.symm
      split
      · rename_i hn
        have e1 : (st.1.set j.toNat d).getD v 0 = st.1.getD v 0 := by
          rw [getD_setB _ _ _ _ hv, if_neg (by omega)]
        rcases bfsIn_new d hd v r (st.1.set j.toNat d, st.2 ++ [j]) (fun y hy => by simpa using hl y (by simp [hy])) (by simpa using hv) (by show (st.1.set j.toNat d).getD v 0 < 0; rw [e1]; exact h) with ⟨h1, h2, h3⟩ | ⟨h1, h2, h3⟩
        · exact .inl ⟨by simp [h1], h2, h3⟩
        · refine .inr ⟨by simp [hne, h1], by rw [h2]; exact e1, fun h4 => ?_⟩
          have := h3 h4
          simpa [hne] using this
      · rcases bfsIn_new d hd v r st (fun y hy => hl y (by simp [hy])) hv h with ⟨h1, h2, h3⟩ | ⟨h1, h2, h3⟩
        · exact .inl ⟨by simp [h1], h2, h3⟩
        · exact .inr ⟨by simp [hne, h1], h2, h3⟩
theorem DI.step {L : List (List Int)} (hL : LOk L.length L) {i : Nat} {st : List Int × List Int} {k : Nat} (h : DI L i st k) (hk : k < st.2.length) :
    DI L i (bfsIn (st.1.getD (st.2.getD k 0).toNat 0 + 1) (L.getD (st.2.getD k 0).toNat []) st) (k + 1) := by
  have hm : st.2.getD k 0 ∈ st.2 := by simp [hk]
  obtain ⟨hxr, hx0⟩ := h.bi.q _ hm
  have hlo := h.bi.lo (st.2.getD k 0).toNat (by omega)
  have hlen := h.bi.len
  generalize hx : (st.2.getD k 0).toNat = x at *
  generalize hd : st.1.getD x 0 + 1 = d at *
  have hl := hL x
  have hl' : ∀ y ∈ L.getD x [], 0 ≤ y ∧ y < (st.1.length : Int) := by rw [hlen]; exact hl
  have hbi := BI.inn (d := d) _ h.bi hl (by omega)
  have hpre := bfsIn_pre d (L.getD x []) st
  have keep : ∀ v, 0 ≤ st.1.getD v 0 → _ := fun v hv => bfsIn_keep d v (L.getD x []) st hl' hv
  have new : ∀ v, v < L.length → st.1.getD v 0 < 0 → _ := fun v hv hn => bfsIn_new d (by omega) v (L.getD x []) st hl' (by omega) hn
  refine ⟨hbi, ?_, ?_, ?_, ?_, ?_⟩
  · intro v hv
    by_cases hn : 0 ≤ st.1.getD v 0
    · rw [keep v hn]
      exact ⟨fun _ => hpre.subset ((h.iff v hv).1 hn), fun _ => hn⟩
    · rcases new v hv (by omega) with ⟨h1, h2, h3⟩ | ⟨h1, h2, h3⟩
      · rw [h2]; exact ⟨fun _ => h3, fun _ => by omega⟩
      · rw [h2]; exact ⟨fun g => absurd g hn, fun g => (h.iff v hv).2 (h3 g)⟩
  · intro v hv hp
    by_cases hn : 0 ≤ st.1.getD v 0
    · rw [keep v hn]
      rcases h.src v hv hn with h1 | ⟨u, u1, u2, u3, u4⟩
      · exact .inl h1
      · exact .inr ⟨u, u1, by rw [keep u u2]; exact u2, u3, by rw [keep u u2]; exact u4⟩
    · rcases new v hv (by omega) with ⟨h1, h2, h3⟩ | ⟨h1, h2, h3⟩
      · refine .inr ⟨x, by omega, by rw [keep x hx0]; exact hx0, h1, ?_⟩
        rw [h2, keep x hx0, ← hd]
      · rw [h2] at hp; exact absurd hp hn
  · intro j hj y hy
    have hg : (bfsIn d (L.getD x []) st).2.getD j 0 = st.2.getD j 0 := by
      obtain ⟨t, ht⟩ := hpre
      rw [← ht, List.getD_eq_getElem?_getD, List.getElem?_append_left (by omega), ← List.getD_eq_getElem?_getD]
    rw [hg] at hy
    by_cases hn : 0 ≤ st.1.getD y.toNat 0
    · rw [keep _ hn]; exact hn
    · by_cases e : j = k
      · subst e
        rw [hx] at hy
        have hr := hl y hy
        rcases new y.toNat (by omega) (by omega) with ⟨h1, h2, h3⟩ | ⟨h1, h2, h3⟩
        · rw [h2]; omega
        · rw [Int.toNat_of_nonneg hr.1] at h1; exact absurd hy h1
      · exact absurd (h.cl j (by omega) y hy) hn
  · have := hpre.length_le
    omega
  · rw [keep i h.at_]; exact h.at_
theorem DI.run {L : List (List Int)} (hL : LOk L.length L) {i : Nat} : ∀ (f : Nat) (st : List Int × List Int) (k : Nat), f + k = L.length + 1 → DI L i st k → ∃ q, DI L i (bfsF L f st k, q) q.length
  | 0, st, k, hf, h => by have := h.bi.len_le; have := h.le; omega
  | f + 1, st, k, hf, h => by
    simp only [bfsF]
    split
    · rename_i hk
      exact DI.run hL f _ _ (by omega) (h.step hL hk)
    · have e : k = st.2.length := by have := h.le; omega
      exact ⟨st.2, by rw [← e]; exact h⟩
theorem DI.zero {L : List (List Int)} {i : Nat} (hi : i < L.length) : DI L i (bfs0 L.length i, [(i : Int)]) 0 := by
  have hat : ∀ v, v < L.length → (bfs0 L.length i).getD v 0 = if i = v then 0 else -1 := by
    intro v hv
    unfold bfs0
    rw [getD_setB _ _ _ _ (by simpa using hv)]
    split
    · rfl
    · rw [List.getD_eq_getElem?_getD, List.getElem?_replicate, if_pos hv]; rfl
  refine ⟨bfs0_BI _ i hi, ?_, ?_, fun j hj => absurd hj (Nat.not_lt_zero j), Nat.zero_le _, ?_⟩
  · intro v hv
    show 0 ≤ (bfs0 L.length i).getD v 0 ↔ (v : Int) ∈ [(i : Int)]
    rw [hat v hv, List.mem_singleton]
    split <;> omega
  · intro v hv h
    left
    have h' : 0 ≤ (bfs0 L.length i).getD v 0 := h
    rw [hat v hv] at h'
    show v = i ∧ (bfs0 L.length i).getD v 0 = 0
    rw [hat v hv]
    by_cases e : i = v
    · exact ⟨e.symm, by rw [if_pos e]⟩
    · rw [if_neg e] at h'; omega
  · show 0 ≤ (bfs0 L.length i).getD i 0
    rw [hat i hi, if_pos rfl]; omega
theorem bfs_DI {L : List (List Int)} (hL : LOk L.length L) {i : Nat} (hi : i < L.length) : ∃ q, DI L i (bfs L i, q) q.length := DI.run hL _ _ _ (by omega) (DI.zero hi)
/-- neighbors of what is met are met -/
theorem bfs_clo {L : List (List Int)} (hL : LOk L.length L) {i : Nat} (hi : i < L.length) {u : Nat} (hu : u < L.length) (h0 : 0 ≤ (bfs L i).getD u 0) {y : Int} (hy : y ∈ L.getD u []) : 0 ≤ (bfs L i).getD y.toNat 0 := by
  obtain ⟨q, h⟩ := bfs_DI hL hi
  obtain ⟨j, hj, e⟩ := List.mem_iff_getElem.1 ((h.iff u hu).1 h0)
  refine h.cl j hj y ?_
  have e2 : q.getD j 0 = (u : Int) := by simp [hj, e]
  show y ∈ L.getD (q.getD j 0).toNat []
  rw [e2, Int.toNat_natCast]; exact hy
/-- the distance of a place in the queue -/
def dq (st : List Int × List Int) (a : Nat) : Int := st.1.getD (st.2.getD a 0).toNat 0
theorem bfsIn_mono (d : Int) (hd : 0 ≤ d) : ∀ (l : List Int) (st : List Int × List Int), (∀ y ∈ l, 0 ≤ y ∧ y < st.1.length) → (∀ x ∈ st.2, (0 ≤ x ∧ x < st.1.length) ∧ 0 ≤ st.1.getD x.toNat 0) →
    (∀ a b, a ≤ b → b < st.2.length → dq st a ≤ dq st b) → (∀ b, b < st.2.length → dq st b ≤ d) →
    (∀ a b, a ≤ b → b < (bfsIn d l st).2.length → dq (bfsIn d l st) a ≤ dq (bfsIn d l st) b) ∧ ∀ b, b < (bfsIn d l st).2.length → dq (bfsIn d l st) b ≤ d
  | [], st, _, _, h1, h2 => ⟨h1, h2⟩
  | j :: r, st, hl, hq, h1, h2 => by
    have hj := hl j (by simp)
    simp only [bfsIn]
    split
    · rename_i hn
      have keep : ∀ a, a < st.2.length → dq (st.1.set j.toNat d, st.2 ++ [j]) a = dq st a := by
        intro a ha
        have hm : st.2.getD a 0 ∈ st.2 := by simp [ha]
        have hx := hq _ hm
        unfold dq
        have e1 : (st.2 ++ [j]).getD a 0 = st.2.getD a 0 := by
          rw [List.getD_eq_getElem?_getD, List.getElem?_append_left ha, ← List.getD_eq_getElem?_getD]
        show (st.1.set j.toNat d).getD ((st.2 ++ [j]).getD a 0).toNat 0 = _
        rw [e1, getD_setB _ _ _ _ (by omega), if_neg (fun e => by rw [e] at hn; omega)]
      have last : dq (st.1.set j.toNat d, st.2 ++ [j]) st.2.length = d := by
        unfold dq
        show (st.1.set j.toNat d).getD ((st.2 ++ [j]).getD st.2.length 0).toNat 0 = d
        rw [show (st.2 ++ [j]).getD st.2.length 0 = j by simp, getD_setB _ _ _ _ (by omega), if_pos rfl]
      refine bfsIn_mono d hd r _ (fun y hy => by simpa using hl y (by simp [hy])) ?_ ?_ ?_
      · intro x hx
        rcases List.mem_append.1 hx with hx | hx
        · have := hq x hx
          refine ⟨by simpa using this.1, ?_⟩
          show 0 ≤ (st.1.set j.toNat d).getD x.toNat 0
          rw [getD_setB _ _ _ _ (by omega)]
          split <;> omega
        · rw [List.mem_singleton] at hx; subst hx
          refine ⟨by simpa using hj, ?_⟩
          show 0 ≤ (st.1.set x.toNat d).getD x.toNat 0
          rw [getD_setB _ _ _ _ (by omega), if_pos rfl]; exact hd
      · intro a b hab hb
        have hb' : b < st.2.length + 1 := by simpa using hb
        by_cases eb : b = st.2.length
        · subst eb
          rw [last]
          by_cases ea : a = st.2.length
          · subst ea; rw [last]; exact Int.le_refl _
          · rw [keep a (by omega)]; exact h2 a (by omega)
        · rw [keep b (by omega), keep a (by omega)]; exact h1 a b hab (by omega)
      · intro b hb
        have hb' : b < st.2.length + 1 := by simpa using hb
        by_cases eb : b = st.2.length
        · subst eb; rw [last]; exact Int.le_refl _
        · rw [keep b (by omega)]; exact h2 b (by omega)
    · exact bfsIn_mono d hd r st (fun y hy => hl y (by simp [hy])) hq h1 h2
structure DS (L : List (List Int)) (i : Nat) (st : List Int × List Int) (k : Nat) : Prop where
  di : DI L i st k
  zero : st.1.getD i 0 = 0
  mono : ∀ a b, a ≤ b → b < st.2.length → dq st a ≤ dq st b
  near : ∀ a b, k ≤ a → a < st.2.length → b < st.2.length → dq st b ≤ dq st a + 1
  ed : ∀ a, a < k → ∀ y ∈ L.getD (st.2.getD a 0).toNat [], 0 ≤ st.1.getD y.toNat 0 ∧ st.1.getD y.toNat 0 ≤ dq st a + 1
theorem DS.step {L : List (List Int)} (hL : LOk L.length L) {i : Nat} (hi : i < L.length) {st : List Int × List Int} {k : Nat} (h : DS L i st k) (hk : k < st.2.length) :
    DS L i (bfsIn (st.1.getD (st.2.getD k 0).toNat 0 + 1) (L.getD (st.2.getD k 0).toNat []) st) (k + 1) := by
  have hd1 := h.di.step hL hk
  have hm : st.2.getD k 0 ∈ st.2 := by simp [hk]
  obtain ⟨hxr, hx0⟩ := h.di.bi.q _ hm
  have hlen := h.di.bi.len
  have hl := hL (st.2.getD k 0).toNat
  have hdk : dq st k + 1 = st.1.getD (st.2.getD k 0).toNat 0 + 1 := rfl
  have hl' : ∀ y ∈ L.getD (st.2.getD k 0).toNat [], 0 ≤ y ∧ y < (st.1.length : Int) := by rw [hlen]; exact hl
  have hmono := bfsIn_mono (dq st k + 1) (by unfold dq; omega) _ st hl' (fun x hx => by have := h.di.bi.q x hx; rw [hlen]; exact this) h.mono (fun b hb => h.near k b (Nat.le_refl _) hk hb)
  have hpre := bfsIn_pre (dq st k + 1) (L.getD (st.2.getD k 0).toNat []) st
  have keep : ∀ v, 0 ≤ st.1.getD v 0 → _ := fun v hv => bfsIn_keep (dq st k + 1) v (L.getD (st.2.getD k 0).toNat []) st hl' hv
  have gq : ∀ a, a < st.2.length → (bfsIn (dq st k + 1) (L.getD (st.2.getD k 0).toNat []) st).2.getD a 0 = st.2.getD a 0 := by
    intro a ha
    obtain ⟨t, ht⟩ := hpre
    rw [← ht, List.getD_eq_getElem?_getD, List.getElem?_append_left ha, ← List.getD_eq_getElem?_getD]
  have kq : ∀ a, a < st.2.length → dq (bfsIn (dq st k + 1) (L.getD (st.2.getD k 0).toNat []) st) a = dq st a := by
    intro a ha
    have hma : st.2.getD a 0 ∈ st.2 := by simp [ha]
    unfold dq at *
    rw [gq a ha]
    exact keep _ (h.di.bi.q _ hma).2
  have hpl := hpre.length_le
  rw [← hdk] at hd1 ⊢
  refine ⟨hd1, ?_, hmono.1, ?_, ?_⟩
  · rw [keep i (by rw [h.zero]; exact Int.le_refl _)]; exact h.zero
  · intro a b ha hal hb
    have h1 := hmono.2 b hb
    have h2 := hmono.1 k a (by omega) hal
    rw [kq k hk] at h2
    omega
  · intro a ha y hy
    rw [gq a (by omega)] at hy
    by_cases e : a = k
    · subst e
      rw [kq a hk]
      have hyr := hl y hy
      by_cases hn : 0 ≤ st.1.getD y.toNat 0
      · rw [keep _ hn]
        refine ⟨hn, ?_⟩
        have hin := (h.di.iff y.toNat (by omega)).1 hn
        rw [Int.toNat_of_nonneg hyr.1] at hin
        obtain ⟨b, hb, eb⟩ := List.mem_iff_getElem.1 hin
        have e2 : st.2.getD b 0 = y := by simp [hb, eb]
        have := h.near a b (Nat.le_refl _) hk hb
        have e3 : dq st b = st.1.getD y.toNat 0 := by unfold dq; rw [e2]
        rw [e3] at this; exact this
      · rcases bfsIn_new (dq st a + 1) (by unfold dq; omega) y.toNat _ st hl' (by omega) (by omega) with ⟨_, g2, _⟩ | ⟨g1, _⟩
        · rw [g2]; exact ⟨by unfold dq; omega, Int.le_refl _⟩
        · rw [Int.toNat_of_nonneg hyr.1] at g1; exact absurd hy g1
    · rw [kq a (by omega)]
      have h1 := h.ed a (by omega) y hy
      rw [keep _ h1.1]; exact h1
theorem DS.run {L : List (List Int)} (hL : LOk L.length L) {i : Nat} (hi : i < L.length) : ∀ (f : Nat) (st : List Int × List Int) (k : Nat), f + k = L.length + 1 → DS L i st k → ∃ q, DS L i (bfsF L f st k, q) q.length
  | 0, st, k, hf, h => by have := h.di.bi.len_le; have := h.di.le; omega
  | f + 1, st, k, hf, h => by
    simp only [bfsF]
    split
    · rename_i hk
      exact DS.run hL hi f _ _ (by omega) (h.step hL hi hk)
    · have e : k = st.2.length := by have := h.di.le; omega
      exact ⟨st.2, by rw [← e]; exact h⟩
theorem bfs_DS {L : List (List Int)} (hL : LOk L.length L) {i : Nat} (hi : i < L.length) : ∃ q, DS L i (bfs L i, q) q.length := by
  refine DS.run hL hi _ _ _ (by omega) ⟨DI.zero hi, ?_, ?_, ?_, fun a ha => absurd ha (Nat.not_lt_zero a)⟩
  · show (bfs0 L.length i).getD i 0 = 0
    unfold bfs0
    rw [getD_setB _ _ _ _ (by simpa using hi), if_pos rfl]
  · intro a b hab hb
    have hb' : b < 1 := hb
    have e1 : a = 0 := by omega
    have e2 : b = 0 := by omega
    rw [e1, e2]; exact Int.le_refl _
  · intro a b _ ha hb
    have ha' : a < 1 := ha
    have hb' : b < 1 := hb
    have e1 : a = 0 := by omega
    have e2 : b = 0 := by omega
    rw [e1, e2]; omega
theorem bfs_zero {L : List (List Int)} (hL : LOk L.length L) {i : Nat} (hi : i < L.length) : (bfs L i).getD i 0 = 0 := by
  obtain ⟨q, h⟩ := bfs_DS hL hi
  exact h.zero
end Go.Proofs.Ytlcipphiflcaiaa.Ai
namespace Go.Proofs.Ytlcipphiflcaiaa.Ai
open Go Go.RowKit
set_option linter.unusedVariables false
set_option linter.unusedSimpArgs false
theorem ofInt_nat (n : Nat) (h : n < 2 ^ 64) : (BitVec.ofInt 64 (n : Int)).toNat = n := by
  rw [BitVec.ofInt_natCast, BitVec.toNat_ofNat, Nat.mod_eq_of_lt h]
theorem and_nat (a b : Nat) (ha : a < 2 ^ 64) (hb : b < 2 ^ 64) : bitsA .and .u64 (a : Int) (b : Int) = ((a &&& b : Nat) : Int) := by
  have h : a &&& b < 2 ^ 64 := Nat.lt_of_le_of_lt Nat.and_le_left ha
  have e : (BitVec.ofInt 64 (a : Int) &&& BitVec.ofInt 64 (b : Int)).toNat = a &&& b := by rw [BitVec.toNat_and, ofInt_nat a ha, ofInt_nat b hb]
  show IntKind.u64.wrap (((BitVec.ofInt 64 (a : Int) &&& BitVec.ofInt 64 (b : Int)).toNat : Nat) : Int) = _
  rw [e, IntKind.wrap_u64]; omega
theorem or_nat (a b : Nat) (ha : a < 2 ^ 64) (hb : b < 2 ^ 64) : bitsA .or .u64 (a : Int) (b : Int) = ((a ||| b : Nat) : Int) := by
  have h : a ||| b < 2 ^ 64 := Nat.or_lt_two_pow ha hb
  have e : (BitVec.ofInt 64 (a : Int) ||| BitVec.ofInt 64 (b : Int)).toNat = a ||| b := by rw [BitVec.toNat_or, ofInt_nat a ha, ofInt_nat b hb]
  show IntKind.u64.wrap (((BitVec.ofInt 64 (a : Int) ||| BitVec.ofInt 64 (b : Int)).toNat : Nat) : Int) = _
  rw [e, IntKind.wrap_u64]; omega
theorem shr_nat (a y : Nat) (hy : y ≤ 64) : (a : Int).fdiv (2 ^ (min (y : Int).toNat 64)) = ((a / 2 ^ y : Nat) : Int) := by
  rw [Int.toNat_natCast, Nat.min_eq_left hy]
  rw [Int.fdiv_eq_ediv_of_nonneg _ (Int.le_of_lt (Int.pow_pos (by decide)))]
  norm_cast
theorem bin_and (P : Program) (t : TypeId) (a b : Nat) (ha : a < 2 ^ 64) (hb : b < 2 ^ 64) : binA P .and t (.int .u64 (a : Int)) (.int .u64 (b : Int)) = some (.int .u64 ((a &&& b : Nat) : Int)) := by
  simp only [binA, intA, and_nat a b ha hb]
  simp
theorem bin_or (P : Program) (t : TypeId) (a b : Nat) (ha : a < 2 ^ 64) (hb : b < 2 ^ 64) : binA P .or t (.int .u64 (a : Int)) (.int .u64 (b : Int)) = some (.int .u64 ((a ||| b : Nat) : Int)) := by
  simp only [binA, intA, or_nat a b ha hb]
  simp
theorem bin_shl (P : Program) (t : TypeId) (y : Nat) (hy : y < 64) : binA P .shl t (.int .u64 1) (.int .i64 (y : Int)) = some (.int .u64 ((2 ^ y : Nat) : Int)) := by
  have h0 : ¬ ((y : Int) < 0) := by omega
  have h1 : 2 ^ y < 2 ^ 64 := Nat.pow_lt_pow_right (by decide) hy
  have h2 : (1 : Int) * 2 ^ (min (y : Int).toNat 64) = ((2 ^ y : Nat) : Int) := by
    rw [Int.toNat_natCast, Nat.min_eq_left (by omega), Int.one_mul]; norm_cast
  have h3 : binA P .shl t (.int .u64 1) (.int .i64 (y : Int)) = some (.int .u64 (IntKind.u64.wrap ((1 : Int) * 2 ^ (min (y : Int).toNat 64)))) := by
    simp only [binA, shiftA]
    rw [if_pos (.inl trivial), if_neg h0]; rfl
  have h4 : ((2 ^ y : Nat) : Int) % 18446744073709551616 = ((2 ^ y : Nat) : Int) := by
    generalize 2 ^ y = z at h1
    omega
  rw [h3, h2, IntKind.wrap_u64, h4]
/-- a word that is a set of numbers below L -/
def Bits (b : Nat) (L : Nat) (s : List Int) : Prop := b < 256 ∧ ∀ z, z < L → b.testBit z = decide ((z : Int) ∈ s)
theorem Bits.or {b L y : Nat} {s : List Int} (h : Bits b L s) (hy : y < 8) : Bits (b ||| 2 ^ y) L (s ++ [(y : Int)]) := by
  refine ⟨?_, fun z hz => ?_⟩
  · have h1 : 2 ^ y < 2 ^ 8 := Nat.pow_lt_pow_right (by decide) hy
    exact Nat.or_lt_two_pow (n := 8) h.1 h1
  · rw [Nat.testBit_or, h.2 z hz, Nat.testBit_two_pow]
    have e : (y = z) ↔ ((z : Int) = y) := by omega
    by_cases hm : (z : Int) ∈ s <;> by_cases hz2 : y = z <;> simp [hm, hz2, e]
    · intro hh; exact hz2 (by omega)
theorem Bits.no {b L x y : Nat} {s : List Int} (h : Bits b L s) (hx : x < L) (hy : y < L) : (b &&& (2 ^ x ||| 2 ^ y) ≠ 0) ↔ ((x : Int) ∈ s ∨ (y : Int) ∈ s) := by
  have hbx := h.2 x hx
  have hby := h.2 y hy
  constructor
  · intro hne
    apply Decidable.byContradiction
    intro hno
    rw [not_or] at hno
    rw [decide_eq_false hno.1] at hbx
    rw [decide_eq_false hno.2] at hby
    apply hne
    apply Nat.eq_of_testBit_eq
    intro z
    rw [Nat.testBit_and, Nat.testBit_or, Nat.testBit_two_pow, Nat.testBit_two_pow, Nat.zero_testBit]
    by_cases e1 : x = z
    · subst e1; rw [hbx]; rfl
    · by_cases e2 : y = z
      · subst e2; rw [hby]; rfl
      · simp [e1, e2]
  · rintro h' h0
    rcases h' with g | g
    · rw [decide_eq_true g] at hbx
      have := congrArg (fun n => Nat.testBit n x) h0
      simp only [Nat.testBit_and, Nat.testBit_or, Nat.testBit_two_pow, Nat.zero_testBit, hbx] at this
      simp at this
    · rw [decide_eq_true g] at hby
      have := congrArg (fun n => Nat.testBit n y) h0
      simp only [Nat.testBit_and, Nat.testBit_or, Nat.testBit_two_pow, Nat.zero_testBit, hby] at this
      simp at this
end Go.Proofs.Ytlcipphiflcaiaa.Ai
namespace Go.Proofs.Ytlcipphiflcaiaa.Ai
open Go Go.RowKit
set_option linter.unusedVariables false
set_option linter.unusedSimpArgs false
/-- a part of an object -/
theorem sl_own {P : Program} {t e : TypeId} (hu : P.underlying t = some (.slice e)) (hc : P.cellsOf e = 1) {H : AH} {o k n c : Nat} {vs : List Value} {ro : Bool} (ho : H[o]? = some (.cells vs e ro)) {lo hi : Option Value} {l r : Nat} (h1 : boundA lo 0 = some l) (h2 : boundA hi n = some r) (hl : l ≤ r) (hr : r ≤ n) :
    sliceA P t (.slice (some ⟨o, k, none⟩) n c) lo hi none H = some (.slice (some ⟨o, k + l, none⟩) (r - l) (r - l)) := by
  simp only [sliceA, hu, h1, h2, ho, hc, Nat.mul_one]
  rw [if_pos ⟨hl, hr, trivial, Nat.one_pos⟩]
def rpN (N k : Nat) : List Int := List.replicate k (-1) ++ List.replicate (N - k) 0
theorem rpN_len (N k : Nat) (h : k ≤ N) : (rpN N k).length = N := by simp [rpN]; omega
theorem rpN_set (N j : Nat) (hj : j < N) : (rpN N j).set j (-1) = rpN N (j + 1) := by
  unfold rpN
  rw [List.set_append_right _ _ (by simp)]
  obtain ⟨n, hn⟩ : ∃ n, N - j = n + 1 := ⟨N - j - 1, by omega⟩
  rw [hn, List.length_replicate, Nat.sub_self, List.replicate_succ, List.set_cons_zero, List.replicate_succ', List.append_assoc]
  have : N - (j + 1) = n := by omega
  rw [this]; rfl
end Go.Proofs.Ytlcipphiflcaiaa.Ai
namespace Go.Proofs.Ytlcipphiflcaiaa.Ai
open Go
def ords75 : List (Nat × List (Nat × Bool)) := [(16, [(0, false), (1, false), (2, false), (3, false), (4, false), (5, false), (6, false), (7, false), (8, false), (9, false), (10, false), (11, false), (12, false), (13, false), (14, true)])]
def cd75 : Cd := (.seq (.reg [⟨⟨some 4, Op.assign (Operand.const (Value.slice none 0 0)), none⟩, []⟩]) (.seq (.reg [⟨⟨some 11, Op.move (Operand.tmp 0), none⟩, []⟩,
  ⟨⟨some 12, Op.call { callee := (Callee.builtin Builtin.len), args := #[(Operand.tmp 11)], argTypes := #[27] }, none⟩, []⟩,
  ⟨⟨some 13, Op.makeSlice 25 (Operand.tmp 12) (Operand.tmp 12), none⟩, []⟩,
  ⟨⟨some 5, Op.assign (Operand.tmp 13), none⟩, []⟩]) (.seq (.seq (.reg [⟨⟨some 6, Op.assign (Operand.const (Value.int IntKind.i64 0)), none⟩, []⟩]) (.block 0 (.loop (.seq (.seq (.reg [⟨⟨some 14, Op.move (Operand.tmp 6), none⟩, []⟩,
  ⟨⟨some 15, Op.move (Operand.tmp 5), none⟩, []⟩,
  ⟨⟨some 16, Op.call { callee := (Callee.builtin Builtin.len), args := #[(Operand.tmp 15)], argTypes := #[25] }, none⟩, []⟩,
  ⟨⟨some 17, Op.binOp BinOp.lss 3 (Operand.tmp 14) (Operand.tmp 16) 3, none⟩, []⟩]) (.cond (Operand.tmp 17) .skip (.exit 0))) (.seq (.block 1 (.reg [⟨⟨some 20, Op.move (Operand.tmp 5), none⟩, []⟩,
  ⟨⟨some 21, Op.move (Operand.tmp 6), none⟩, []⟩,
  ⟨⟨some 22, Op.indexAddr 25 (Operand.tmp 20) (Operand.tmp 21), none⟩, []⟩,
  ⟨⟨none, Op.store 3 (Operand.tmp 22) (Operand.const (Value.int IntKind.i64 (-1))), none⟩, []⟩])) (.reg [⟨⟨some 18, Op.move (Operand.tmp 6), none⟩, []⟩,
  ⟨⟨some 19, Op.binOp BinOp.add 3 (Operand.tmp 18) (Operand.const (Value.int IntKind.i64 1)) 3, none⟩, []⟩,
  ⟨⟨some 6, Op.assign (Operand.tmp 19), none⟩, []⟩])))))) (.seq (.reg [⟨⟨some 23, Op.move (Operand.tmp 1), none⟩, []⟩,
  ⟨⟨some 24, Op.buildSlice 25 1 #[(0, (Operand.tmp 23))], none⟩, []⟩,
  ⟨⟨some 7, Op.assign (Operand.tmp 24), none⟩, []⟩]) (.seq (.reg [⟨⟨some 25, Op.move (Operand.tmp 5), none⟩, []⟩,
  ⟨⟨some 26, Op.move (Operand.tmp 1), none⟩, []⟩,
  ⟨⟨some 27, Op.indexAddr 25 (Operand.tmp 25) (Operand.tmp 26), none⟩, []⟩,
  ⟨⟨none, Op.store 3 (Operand.tmp 27) (Operand.const (Value.int IntKind.i64 0)), none⟩, []⟩]) (.seq (.seq (.reg [⟨⟨some 8, Op.assign (Operand.const (Value.int IntKind.i64 0)), none⟩, []⟩]) (.block 2 (.loop (.seq (.seq (.reg [⟨⟨some 28, Op.move (Operand.tmp 8), none⟩, []⟩,
  ⟨⟨some 29, Op.move (Operand.tmp 7), none⟩, []⟩,
  ⟨⟨some 30, Op.call { callee := (Callee.builtin Builtin.len), args := #[(Operand.tmp 29)], argTypes := #[25] }, none⟩, []⟩,
  ⟨⟨some 31, Op.binOp BinOp.lss 3 (Operand.tmp 28) (Operand.tmp 30) 3, none⟩, []⟩]) (.cond (Operand.tmp 31) .skip (.exit 2))) (.seq (.block 3 (.seq (.reg [⟨⟨some 34, Op.move (Operand.tmp 0), none⟩, []⟩,
  ⟨⟨some 35, Op.move (Operand.tmp 7), none⟩, []⟩,
  ⟨⟨some 36, Op.move (Operand.tmp 8), none⟩, []⟩,
  ⟨⟨some 37, Op.indexAddr 25 (Operand.tmp 35) (Operand.tmp 36), none⟩, []⟩,
  ⟨⟨some 38, Op.load 3 (Operand.tmp 37), none⟩, []⟩,
  ⟨⟨some 39, Op.indexAddr 27 (Operand.tmp 34) (Operand.tmp 38), none⟩, []⟩,
  ⟨⟨some 40, Op.load 25 (Operand.tmp 39), none⟩, []⟩,
  ⟨⟨some 9, Op.assign (Operand.tmp 40), none⟩, []⟩]) (.seq (.reg [⟨⟨some 10, Op.assign (Operand.const (Value.int IntKind.i64 0)), none⟩, []⟩]) (.block 4 (.loop (.seq (.seq (.reg [⟨⟨some 41, Op.move (Operand.tmp 10), none⟩, []⟩,
  ⟨⟨some 42, Op.move (Operand.tmp 9), none⟩, []⟩,
  ⟨⟨some 43, Op.call { callee := (Callee.builtin Builtin.len), args := #[(Operand.tmp 42)], argTypes := #[25] }, none⟩, []⟩,
  ⟨⟨some 44, Op.binOp BinOp.lss 3 (Operand.tmp 41) (Operand.tmp 43) 3, none⟩, []⟩]) (.cond (Operand.tmp 44) .skip (.exit 4))) (.seq (.block 5 (.seq (.reg [⟨⟨some 47, Op.move (Operand.tmp 5), none⟩, []⟩,
  ⟨⟨some 48, Op.move (Operand.tmp 9), none⟩, []⟩,
  ⟨⟨some 49, Op.move (Operand.tmp 10), none⟩, []⟩,
  ⟨⟨some 50, Op.indexAddr 25 (Operand.tmp 48) (Operand.tmp 49), none⟩, []⟩,
  ⟨⟨some 51, Op.load 3 (Operand.tmp 50), none⟩, []⟩,
  ⟨⟨some 52, Op.indexAddr 25 (Operand.tmp 47) (Operand.tmp 51), none⟩, []⟩,
  ⟨⟨some 53, Op.load 3 (Operand.tmp 52), none⟩, []⟩,
  ⟨⟨some 54, Op.binOp BinOp.lss 3 (Operand.tmp 53) (Operand.const (Value.int IntKind.i64 0)) 3, none⟩, []⟩]) (.cond (Operand.tmp 54) (.seq (.reg [⟨⟨some 55, Op.move (Operand.tmp 5), none⟩, []⟩,
  ⟨⟨some 56, Op.move (Operand.tmp 9), none⟩, []⟩,
  ⟨⟨some 57, Op.move (Operand.tmp 10), none⟩, []⟩,
  ⟨⟨some 58, Op.indexAddr 25 (Operand.tmp 56) (Operand.tmp 57), none⟩, []⟩,
  ⟨⟨some 59, Op.load 3 (Operand.tmp 58), none⟩, []⟩,
  ⟨⟨some 60, Op.move (Operand.tmp 5), none⟩, []⟩,
  ⟨⟨some 61, Op.move (Operand.tmp 7), none⟩, []⟩,
  ⟨⟨some 62, Op.move (Operand.tmp 8), none⟩, []⟩,
  ⟨⟨some 63, Op.indexAddr 25 (Operand.tmp 61) (Operand.tmp 62), none⟩, []⟩,
  ⟨⟨some 64, Op.load 3 (Operand.tmp 63), none⟩, []⟩,
  ⟨⟨some 65, Op.indexAddr 25 (Operand.tmp 60) (Operand.tmp 64), none⟩, []⟩,
  ⟨⟨some 66, Op.load 3 (Operand.tmp 65), none⟩, []⟩,
  ⟨⟨some 67, Op.binOp BinOp.add 3 (Operand.tmp 66) (Operand.const (Value.int IntKind.i64 1)) 3, none⟩, []⟩,
  ⟨⟨some 68, Op.indexAddr 25 (Operand.tmp 55) (Operand.tmp 59), none⟩, []⟩,
  ⟨⟨none, Op.store 3 (Operand.tmp 68) (Operand.tmp 67), none⟩, []⟩]) (.reg [⟨⟨some 69, Op.move (Operand.tmp 7), none⟩, []⟩,
  ⟨⟨some 70, Op.move (Operand.tmp 9), none⟩, []⟩,
  ⟨⟨some 71, Op.move (Operand.tmp 10), none⟩, []⟩,
  ⟨⟨some 72, Op.indexAddr 25 (Operand.tmp 70) (Operand.tmp 71), none⟩, []⟩,
  ⟨⟨some 73, Op.load 3 (Operand.tmp 72), none⟩, []⟩,
  ⟨⟨some 74, Op.buildSlice 25 1 #[(0, (Operand.tmp 73))], none⟩, []⟩,
  ⟨⟨some 75, Op.call { callee := (Callee.builtin Builtin.append), args := #[(Operand.tmp 69), (Operand.tmp 74)], argTypes := #[25, 25] }, none⟩, []⟩,
  ⟨⟨some 7, Op.assign (Operand.tmp 75), none⟩, []⟩])) .skip))) (.reg [⟨⟨some 45, Op.move (Operand.tmp 10), none⟩, []⟩,
  ⟨⟨some 46, Op.binOp BinOp.add 3 (Operand.tmp 45) (Operand.const (Value.int IntKind.i64 1)) 3, none⟩, []⟩,
  ⟨⟨some 10, Op.assign (Operand.tmp 46), none⟩, []⟩])))))))) (.reg [⟨⟨some 32, Op.move (Operand.tmp 8), none⟩, []⟩,
  ⟨⟨some 33, Op.binOp BinOp.add 3 (Operand.tmp 32) (Operand.const (Value.int IntKind.i64 1)) 3, none⟩, []⟩,
  ⟨⟨some 8, Op.assign (Operand.tmp 33), none⟩, []⟩])))))) (.seq (.reg [⟨⟨some 76, Op.move (Operand.tmp 5), none⟩, []⟩,
  ⟨⟨some 4, Op.assign (Operand.tmp 76), none⟩, []⟩]) .ret)))))))
theorem sl75 : slim Try.f75.ntmps ords75 (Try.f75.body.getD .skip) = some cd75 := by kernel_rfl
theorem in75 {args : List Value} {H : AH} {R : Value → AH → Prop} (hl : args.length = 2) (h : ∀ (Q : Exit → Sl → AH → Prop), (∀ e s H, endA Try.prog [ResultVar.tmp 4] R e s H → Q e s H) → wpC Try.prog cd75 Q (enterA args) H) : ACalls Try.prog 75 args H R :=
  ACalls.intro (by kernel_rfl) Try.func75 rfl (by kernel_rfl) sl75 hl (of_decide_eq_true (by kernel_rfl)) (by kernel_rfl) h
end Go.Proofs.Ytlcipphiflcaiaa.Ai
namespace Go.Proofs.Ytlcipphiflcaiaa.Ai
open Go Go.RowKit
set_option linter.unusedVariables false
set_option linter.unusedSimpArgs false
/-- the list of distances and the queue in the heap -/
def QH (H0 H : AH) (oo : Nat) (out : List Int) (oq kq nq : Nat) (q : List Int) : Prop :=
  (∃ zs, H[oq]? = some (.cells (ints zs) 3 false) ∧ (zs.drop kq).take nq = q ∧ kq + nq ≤ zs.length) ∧ H[oo]? = some (.cells (ints out) 3 false) ∧ H0.length ≤ oo ∧ H0.length ≤ oq ∧ oq ≠ oo ∧ H0 <+: H
/-- appending to a part of an object of ints -/
theorem app_q {P : Program} {t e : TypeId} (hu : P.underlying t = some (.slice e)) (hc : P.cellsOf e = 1) (hby : P.bytesOf e ≤ 64) (hz : zeroOk P e = true) {H : AH} {o k n c : Nat} {zs : List Int} {x : Int} (ho : H[o]? = some (.cells (ints zs) e false)) (hn : k + n ≤ zs.length) (hb : n ≤ 1099511627775) :
    appendA P t t (.slice (some ⟨o, k, none⟩) n c) (.slice (some ⟨H.length, 0, none⟩) 1 1) (H ++ [.cells [.int .i64 x] e false]) = some (.slice (some ⟨H.length + 1, 0, none⟩) (n + 1) (n + 1), H.set o .dead ++ [.cells [.int .i64 x] e false, .cells (ints ((zs.drop k).take n ++ [x])) e false]) := by
  have hlt : o < H.length := at_lt ho
  have hb2 : (n + 1) * P.bytesOf e ≤ 140737488355328 := by
    refine Nat.le_trans (Nat.mul_le_mul_left _ hby) ?_
    omega
  have ho2 : (H ++ [AObj.cells [.int .i64 x] e false])[o]? = some (.cells (ints zs) e false) := at_app ho _
  have hsc : sliceCells P e (.slice (some ⟨H.length, 0, none⟩) 1 1) (H ++ [.cells [.int .i64 x] e false]) = some (1, [.int .i64 x]) := by
    simp only [sliceCells, at_new, hc]; simp
  simp only [appendA, hu, hc, hsc, ho2, hz]
  rw [if_pos (by simp), if_neg (by simp), if_pos ⟨trivial, by rw [ints_len]; omega, hb2, by omega, trivial⟩]
  have : List.take (n * 1) (List.drop k (ints zs)) ++ [Value.int .i64 x] = ints ((zs.drop k).take n ++ [x]) := by
    simp [ints, List.map_take, List.map_drop]
  rw [this, List.length_append, List.set_append_left _ _ hlt]
  simp
theorem QH.push {H0 H : AH} {oo : Nat} {out : List Int} {oq kq nq : Nat} {q : List Int} (h : QH H0 H oo out oq kq nq q) (y : Nat) (d x : Int) (hb : nq ≤ 1099511627775) :
    ∃ H2, appendA Try.prog 25 25 (.slice (some ⟨oq, kq, none⟩) nq nq) (.slice (some ⟨(H.set oo (.cells (ints (out.set y d)) 3 false)).length, 0, none⟩) 1 1) (H.set oo (.cells (ints (out.set y d)) 3 false) ++ [.cells [.int .i64 x] 3 false]) = some (.slice (some ⟨(H.set oo (.cells (ints (out.set y d)) 3 false)).length + 1, 0, none⟩) (nq + 1) (nq + 1), H2) ∧
      QH H0 H2 oo (out.set y d) ((H.set oo (.cells (ints (out.set y d)) 3 false)).length + 1) 0 (nq + 1) (q ++ [x]) := by
  obtain ⟨⟨zs, h1, h2, h3⟩, h4, h5, h6, h7, h8⟩ := h
  have hlt := at_lt h4
  generalize hH1 : H.set oo (.cells (ints (out.set y d)) 3 false) = H1
  have l1 : H1.length = H.length := by rw [← hH1]; simp
  have k1 : H1[oq]? = some (.cells (ints zs) 3 false) := by rw [← hH1, List.getElem?_set_ne (fun e => h7 e.symm)]; exact h1
  have k4 : H1[oo]? = some (.cells (ints (out.set y d)) 3 false) := by rw [← hH1]; exact at_set h4
  have hp1 : H0 <+: H1 := by rw [← hH1]; exact pre_set h8 h5 _
  refine ⟨_, app_q Try.underlying25 cs3 (by rw [by3]; decide) zk3 k1 h3 hb, ⟨(zs.drop kq).take nq ++ [x], ?_, ?_, ?_⟩, ?_, h5, ?_, ?_, ?_⟩
  · rw [List.getElem?_append_right (by simp)]
    simp
  · rw [List.drop_zero, h2, List.take_of_length_le]
    rw [← h2]; simp; omega
  · simp; omega
  · rw [List.getElem?_append_left (by simp; omega), List.getElem?_set_ne h7]
    exact k4
  · have := h8.length_le; omega
  · omega
  · exact pre_app (pre_set hp1 h6 _) _
theorem QH.tail {H0 H : AH} {oo : Nat} {out : List Int} {oq kq nq : Nat} {x : Int} {q : List Int} (h : QH H0 H oo out oq kq nq (x :: q)) : QH H0 H oo out oq (kq + 1) (nq - 1) q ∧ cellA H oq kq = some (.int .i64 x) ∧ 0 < nq := by
  obtain ⟨⟨zs, h1, h2, h3⟩, h4⟩ := h
  have hl := congrArg List.length h2
  simp only [List.length_take, List.length_drop, List.length_cons] at hl
  have hk : kq < zs.length := by omega
  obtain ⟨n, rfl⟩ : ∃ n, nq = n + 1 := ⟨nq - 1, by omega⟩
  rw [List.drop_eq_getElem_cons hk, List.take_succ_cons] at h2
  injection h2 with e1 e2
  refine ⟨⟨⟨zs, h1, by simpa using e2, by omega⟩, h4⟩, ?_, by omega⟩
  rw [cell_of h1, ints_at zs hk]
  congr 2
  simp [hk, e1]
theorem bfsIn_drop (d : Int) (l : List Int) (j : Nat) (hj : j < l.length) (st : List Int × List Int) : bfsIn d (l.drop j) st = if st.1.getD (l.getD j 0).toNat 0 < 0 then bfsIn d (l.drop (j + 1)) (st.1.set (l.getD j 0).toNat d, st.2 ++ [l.getD j 0]) else bfsIn d (l.drop (j + 1)) st := by
  have e : l.getD j 0 = l[j] := by simp [hj]
  rw [List.drop_eq_getElem_cons hj, e]
  rfl
theorem QH.at {H0 H : AH} {oo : Nat} {out : List Int} {oq kq nq : Nat} {q : List Int} (h : QH H0 H oo out oq kq nq q) {j : Nat} (hj : j < q.length) : cellA H oq (kq + j) = some (.int .i64 (q.getD j 0)) := by
  obtain ⟨⟨zs, h1, h2, h3⟩, _⟩ := h
  have hl := congrArg List.length h2
  simp only [List.length_take, List.length_drop] at hl
  have hk : kq + j < zs.length := by omega
  rw [cell_of h1, ints_at zs hk]
  congr 2
  rw [← h2, List.getD_eq_getElem?_getD, List.getD_eq_getElem?_getD, List.getElem?_take, if_pos (by omega), List.getElem?_drop]
set_option maxRecDepth 20000 in
set_option maxHeartbeats 4000000 in
theorem l2Spread_c (v : Value) (L : List (List Int)) (i : Nat) (H : AH) {b : Nat} (hr : RowLB b 25 3 H v L) (hL : LOk L.length L) (hN : L.length ≤ 1000000) (hi : i < L.length) (hls : ∀ x, (L.getD x []).length ≤ 1000000000) :
    ACalls Try.prog 75 [v, .int .i64 (i : Int)] H fun r H' => Own 3 H H' r (bfs L i) ∧ H <+: H' := by
  refine in75 rfl ?_
  intro Q hQ
  obtain ⟨us, hus, hvb, hul, hin⟩ := hr
  simp (maxSteps := 1000000) (disch := omega) only [cd75, hus.len Try.underlying27, hul, mks25, Int.toNat_natCast, S, S1, S2, S3, S4, S5, ST, eq_self, reduceIte, reduceCtorEq, Nat.reduceEqDiff, Nat.reduceAdd]
  generalize hZ : H ++ [AObj.cells (ints (List.replicate L.length 0)) 3 false] = Z
  have pZ : H <+: Z := by rw [← hZ]; exact List.prefix_append _ _
  have cZ : Z[H.length]? = some (.cells (ints (List.replicate L.length 0)) 3 false) := by rw [← hZ]; exact at_new ..
  refine LoopH.by (fun m s H' => ∃ j, m + j = L.length ∧ s 0 = v ∧ s 1 = .int .i64 (i : Int) ∧ s 5 = .slice (some ⟨H.length, 0, none⟩) L.length L.length ∧ s 6 = .int .i64 ((j : Nat) : Int) ∧ H' = Z.set H.length (.cells (ints (rpN L.length j)) 3 false)) L.length ?_ ?_
  · refine ⟨0, by omega, rfl, rfl, rfl, rfl, ?_⟩
    have : rpN L.length 0 = List.replicate L.length 0 := by simp [rpN]
    rw [this]
    apply List.ext_getElem?
    intro j
    rw [List.getElem?_set]
    by_cases hj : H.length = j
    · subst hj; rw [if_pos rfl, if_pos (at_lt cZ), cZ]
    · rw [if_neg hj]
  rintro m s H' ⟨j, hm, h0, h1, h5, h6, rfl⟩
  have cJ : (Z.set H.length (.cells (ints (rpN L.length j)) 3 false))[H.length]? = some (.cells (ints (rpN L.length j)) 3 false) := at_set cZ
  simp (maxSteps := 1000000) (disch := omega) only [h0, h1, h5, h6, S, S1, S2, S3, S4, S5, ST, eq_self, reduceIte, reduceCtorEq, Nat.reduceEqDiff, Nat.reduceAdd]
  refine brD.intro (fun g => ?_) (fun g => ?_)
  · have hj : j < (rpN L.length j).length := by rw [rpN_len _ _ (by omega)]; omega
    simp (maxSteps := 1000000) (disch := omega) only [h0, h1, h5, h6, Int.toNat_natCast, Nat.zero_add, st_ints cs3 cJ hj, wrap64, S, S1, S2, S3, S4, S5, ST, eq_self, reduceIte, reduceCtorEq, Nat.reduceEqDiff, Nat.reduceAdd]
    rw [List.set_set, rpN_set _ _ (by omega)]
    refine ⟨m - 1, by omega, j + 1, ?_⟩
    (repeat' apply And.intro) <;> first | (simp only [Value.int.injEq, true_and]; omega) | omega | rfl | assumption | (simp; done) | (simp; omega)
  have hjN : j = L.length := by omega
  subst hjN
  have e3 : rpN L.length L.length = List.replicate L.length (-1) := by simp [rpN]
  rw [e3] at cJ
  rw [e3]
  have pA : H <+: Z.set H.length (.cells (ints (List.replicate L.length (-1))) 3 false) := pre_set pZ (Nat.le_refl _) _
  simp (maxSteps := 1000000) (disch := omega) only [h0, h1, h5, h6, S, S1, S2, S3, S4, S5, ST, eq_self, reduceIte, reduceCtorEq, Nat.reduceEqDiff, Nat.reduceAdd]
  have hlr : i < (List.replicate L.length (-1 : Int)).length := by simpa using hi
  generalize hoo : H.length = oo at *
  generalize hA : Z.set oo (.cells (ints (List.replicate L.length (-1))) 3 false) = A at *
  have cA := at_app cJ [AObj.cells [.int .i64 (i : Int)] 3 false]
  simp (maxSteps := 1000000) (disch := omega) only [h0, h1, h5, h6, Int.toNat_natCast, Nat.zero_add, st_ints cs3 cA hlr, S, S1, S2, S3, S4, S5, ST, eq_self, reduceIte, reduceCtorEq, Nat.reduceEqDiff, Nat.reduceAdd]
  have hb0 : (List.replicate L.length (-1 : Int)).set i 0 = bfs0 L.length i := rfl
  rw [hb0]
  have hltA := at_lt cJ
  have q0 : QH H ((A ++ [AObj.cells [.int .i64 (i : Int)] 3 false]).set oo (.cells (ints (bfs0 L.length i)) 3 false)) oo (bfs0 L.length i) A.length 0 1 [(i : Int)] := by
    refine ⟨⟨[(i : Int)], ?_, rfl, by simp⟩, at_set cA, by omega, pA.length_le, by omega, pre_set (pre_app pA _) (by omega) _⟩
    rw [List.getElem?_set_ne (by omega)]
    exact at_new ..
  refine LoopH.by (fun m s H' => ∃ st k oq, m + k = L.length ∧ s 0 = v ∧ s 5 = .slice (some ⟨oo, 0, none⟩) L.length L.length ∧ s 7 = .slice (some ⟨oq, 0, none⟩) st.2.length st.2.length ∧ s 8 = .int .i64 ((k : Nat) : Int) ∧ k ≤ st.2.length ∧ QH H H' oo st.1 oq 0 st.2.length st.2 ∧ BI L.length st ∧ bfsF L (m + 1) st k = bfs L i) L.length ?_ ?_
  · refine ⟨(bfs0 L.length i, [(i : Int)]), 0, A.length, by omega, ?_⟩
    simp only [S, S1, S2, S3, S4, S5, ST, eq_self, reduceIte, reduceCtorEq, Nat.reduceEqDiff, Nat.reduceAdd, h0, h5]
    have hb0 := bfs0_BI _ i hi
    have hF0 : bfsF L (L.length + 1) (bfs0 L.length i, [(i : Int)]) 0 = bfs L i := rfl
    (repeat' first | exact q0 | exact hb0 | exact hF0 | apply And.intro) <;> first | (simp only [Value.int.injEq, true_and]; omega) | omega | rfl | assumption | (simp; done) | (simp; omega)
  · rintro m s H' ⟨st, k, oq, hm, h0, h5, h7, h8, hkl, hq, hb, hF⟩
    have hle := hb.len_le
    simp (maxSteps := 1000000) (disch := omega) only [h0, h5, h7, h8, S, S1, S2, S3, S4, S5, ST, eq_self, reduceIte, reduceCtorEq, Nat.reduceEqDiff, Nat.reduceAdd]
    refine brD.intro (fun g => ?_) (fun g => ?_)
    · have hk : k < st.2.length := by omega
      rw [bfsF_step L m st k hk] at hF
      have hqm : st.2.getD k 0 ∈ st.2 := by simp [hk]
      obtain ⟨hxr, hx0⟩ := hb.q _ hqm
      have hxl := hb.lo (st.2.getD k 0).toNat (by omega)
      have hcell := hq.at hk
      obtain ⟨x, hx⟩ : ∃ x : Nat, st.2.getD k 0 = x := ⟨(st.2.getD k 0).toNat, by omega⟩
      rw [hx] at hF hxr hx0 hxl hcell
      rw [Int.toNat_natCast] at hF hx0 hxl
      rw [Nat.zero_add] at hcell
      have hpp : H <+: H' := hq.2.2.2.2.2
      have hus' := hus.pre hpp
      have hxu : x < us.length := by omega
      have hinH := (hin x (by omega)).1
      have hlb := hls x
      have hLx := hL x
      simp (maxSteps := 1000000) (disch := omega) only [h0, h5, h7, h8, hcell, hus'.ix Try.underlying27 cs25, hus'.cell, Int.toNat_natCast, Nat.zero_add, S, S1, S2, S3, S4, S5, ST, eq_self, reduceIte, reduceCtorEq, Nat.reduceEqDiff, Nat.reduceAdd]
      generalize hw : us.getD x undef = w at *
      generalize hl : L.getD x [] = l at *
      generalize hd : st.1.getD x 0 + 1 = d at *
      refine LoopH.by (fun m' s' H'' => ∃ j st' oq', m' + j = l.length ∧ s' 0 = v ∧ s' 5 = .slice (some ⟨oo, 0, none⟩) L.length L.length ∧ s' 7 = .slice (some ⟨oq', 0, none⟩) st'.2.length st'.2.length ∧ s' 8 = .int .i64 ((k : Nat) : Int) ∧ s' 9 = w ∧ s' 10 = .int .i64 ((j : Nat) : Int) ∧ QH H H'' oo st'.1 oq' 0 st'.2.length st'.2 ∧ BI L.length st' ∧ st.2 <+: st'.2 ∧ st'.1.getD x 0 + 1 = d ∧ bfsIn d (l.drop j) st' = bfsIn d l st) l.length ?_ ?_
      · refine ⟨0, st, oq, by simp, ?_⟩
        simp only [S, S1, S2, S3, S4, S5, ST, eq_self, reduceIte, reduceCtorEq, Nat.reduceEqDiff, Nat.reduceAdd, h0, h5, h7, h8]
        have hd2 : bfsIn d (l.drop 0) st = bfsIn d l st := by rw [List.drop_zero]
        have hpr := List.prefix_refl st.2
        (repeat' first | exact hq | exact hb | exact hd | exact hd2 | exact hpr | apply And.intro) <;> first | (simp only [Value.int.injEq, true_and]; omega) | omega | rfl | assumption | (simp; done) | (simp; omega)
      · rintro m' s' H'' ⟨j, st', oq', hm', g0, g5, g7, g8, g9, g10, hq', hb', hpre, hd', hB⟩
        have hpp' : H <+: H'' := hq'.2.2.2.2.2
        have hw' := hinH.pre hpp'
        have hle' := hb'.len_le
        simp (maxSteps := 1000000) (disch := omega) only [g0, g5, g7, g8, g9, g10, hw'.len Try.underlying25, S, S1, S2, S3, S4, S5, ST, eq_self, reduceIte, reduceCtorEq, Nat.reduceEqDiff, Nat.reduceAdd]
        refine brD.intro (fun q => ?_) (fun q => ?_)
        · have hj : j < l.length := by omega
          rw [bfsIn_drop d l j hj] at hB
          have hym : l.getD j 0 ∈ l := by simp [hj]
          obtain ⟨y, hy⟩ : ∃ y : Nat, l.getD j 0 = y := ⟨(l.getD j 0).toNat, by have := hLx _ hym; omega⟩
          have hyr := hLx _ hym
          rw [hy] at hB hyr
          rw [Int.toNat_natCast] at hB
          have hoc' := hq'.2.1
          have hlen' := hb'.len
          have hyl : y < st'.1.length := by omega
          have hxl' : x < st'.1.length := by omega
          have hcw := hw'.cell hj
          rw [hy] at hcw
          have hkl' : k < st'.2.length := by have := hpre.length_le; omega
          have hck := hq'.at hkl'
          have hqk : st'.2.getD k 0 = (x : Int) := by
            obtain ⟨t, ht⟩ := hpre
            rw [← ht, List.getD_eq_getElem?_getD, List.getElem?_append_left hk, ← List.getD_eq_getElem?_getD]; exact hx
          rw [hqk, Nat.zero_add] at hck
          simp (maxSteps := 1000000) (disch := omega) only [g0, g5, g7, g8, g9, g10, hw'.ix Try.underlying25 cs3, hcw, Int.toNat_natCast, Nat.zero_add, cell_ints hoc' hyl, S, S1, S2, S3, S4, S5, ST, eq_self, reduceIte, reduceCtorEq, Nat.reduceEqDiff, Nat.reduceAdd]
          refine brD.intro (fun e => ?_) (fun e => ?_)
          · rw [if_pos e] at hB
            have hd0 : 0 ≤ d := by omega
            have hdl : d ≤ st'.2.length := by
              have := hb'.lo x (by omega)
              omega
            have hb2 := hb'.put (j := (y : Int)) (d := d) hyr (by rw [Int.toNat_natCast]; exact e) ⟨hd0, hdl⟩
            rw [Int.toNat_natCast] at hb2
            obtain ⟨H2, k1, k2⟩ := hq'.push y d (y : Int) (by omega)
            have hp2 : H <+: H''.set oo (AObj.cells (ints (st'.1.set y d)) 3 false) := pre_set hpp' (by omega) _
            have hw2 := hinH.pre hp2
            have hcw2 := hw2.cell hj
            rw [hy] at hcw2
            simp (maxSteps := 1000000) (disch := omega) only [g0, g5, g7, g8, g9, g10, hw'.ix Try.underlying25 cs3, hw2.ix Try.underlying25 cs3, hcw, hcw2, hck, Int.toNat_natCast, Nat.zero_add, cell_ints hoc' hxl', hd', st_ints cs3 hoc' hyl, k1, wrap64, S, S1, S2, S3, S4, S5, ST, eq_self, reduceIte, reduceCtorEq, Nat.reduceEqDiff, Nat.reduceAdd]
            have f1 : st.2 <+: st'.2 ++ [(y : Int)] := hpre.trans (List.prefix_append _ _)
            have f2 : (st'.1.set y d).getD x 0 + 1 = d := by
              rw [getD_setB _ _ _ _ hxl']
              split
              · rename_i e2
                subst e2
                have := hb'.lo y (by omega)
                omega
              · exact hd'
            have f3 : (st'.2 ++ [(y : Int)]).length = st'.2.length + 1 := by simp
            rw [← f3] at k2
            refine ⟨m' - 1, by omega, j + 1, (st'.1.set y d, st'.2 ++ [(y : Int)]), (H''.set oo (AObj.cells (ints (st'.1.set y d)) 3 false)).length + 1, ?_⟩
            simp only [f3]
            rw [f3] at k2
            (repeat' first | exact k2 | exact hb2 | exact f1 | exact f2 | exact hB | apply And.intro) <;> first | (simp only [Value.int.injEq, true_and]; omega) | omega | rfl | assumption | (simp; done) | (simp; omega)
          · rw [if_neg e] at hB
            simp (maxSteps := 1000000) (disch := omega) only [g0, g5, g7, g8, g9, g10, wrap64, S, S1, S2, S3, S4, S5, ST, eq_self, reduceIte, reduceCtorEq, Nat.reduceEqDiff, Nat.reduceAdd]
            refine ⟨m' - 1, by omega, j + 1, st', oq', ?_⟩
            (repeat' first | exact hq' | exact hb' | exact hpre | exact hd' | exact hB | apply And.intro) <;> first | (simp only [Value.int.injEq, true_and]; omega) | omega | rfl | assumption | (simp; done) | (simp; omega)
        · simp (maxSteps := 1000000) (disch := omega) only [g0, g5, g7, g8, g9, g10, wrap64, S, S1, S2, S3, S4, S5, ST, eq_self, reduceIte, reduceCtorEq, Nat.reduceEqDiff, Nat.reduceAdd]
          rw [List.drop_of_length_le (by omega)] at hB
          have hB' : st' = bfsIn d l st := hB
          rw [← hB'] at hF
          have hm1 : m - 1 + 1 = m := by omega
          rw [← hm1] at hF
          have hkl' : k + 1 ≤ st'.2.length := by have := hpre.length_le; omega
          refine ⟨m - 1, by omega, st', k + 1, oq', ?_⟩
          (repeat' first | exact hq' | exact hb' | exact hF | exact hkl' | apply And.intro) <;> first | (simp only [Value.int.injEq, true_and]; omega) | omega | rfl | assumption | (simp; done) | (simp; omega)
    · simp (maxSteps := 1000000) (disch := omega) only [h5, S, S1, S2, S3, S4, S5, ST, eq_self, reduceIte, reduceCtorEq, Nat.reduceEqDiff, Nat.reduceAdd]
      refine hQ _ _ _ ?_
      simp (maxSteps := 1000000) (disch := omega) only [h5, S, S1, S2, S3, S4, S5, ST, eq_self, reduceIte, reduceCtorEq, Nat.reduceEqDiff, Nat.reduceAdd]
      rw [bfsF_done L _ st k (by omega)] at hF
      rw [hF] at hq
      have hbl : (bfs L i).length = L.length := by rw [← hF]; exact hb.len
      exact ⟨.inr ⟨oo, by rw [hbl], hq.2.2.1, hq.2.1⟩, hq.2.2.2.2.2⟩
end Go.Proofs.Ytlcipphiflcaiaa.Ai
namespace Go.Proofs.Ytlcipphiflcaiaa.Ai
open Go
def ords74 : List (Nat × List (Nat × Bool)) := []
def cd74 : Cd := (.seq (.reg [⟨⟨some 2, Op.box 32 (Operand.tmp 0), none⟩, []⟩,
  ⟨⟨some 4, Op.assign (Operand.const (Value.slice none 0 0)), none⟩, []⟩]) (.seq (.reg [⟨⟨some 7, Op.buildSlice 25 0 #[], none⟩, []⟩,
  ⟨⟨some 5, Op.assign (Operand.tmp 7), none⟩, []⟩]) (.seq (.seq (.reg [⟨⟨some 6, Op.assign (Operand.const (Value.int IntKind.i64 0)), none⟩, []⟩]) (.block 0 (.loop (.seq (.seq (.reg [⟨⟨some 8, Op.move (Operand.tmp 6), none⟩, []⟩,
  ⟨⟨some 9, Op.fieldAddr 32 (Operand.tmp 2) 0, none⟩, []⟩,
  ⟨⟨some 10, Op.load 3 (Operand.tmp 9), none⟩, []⟩,
  ⟨⟨some 11, Op.binOp BinOp.lss 3 (Operand.tmp 8) (Operand.tmp 10) 3, none⟩, []⟩]) (.cond (Operand.tmp 11) .skip (.exit 0))) (.seq (.block 1 (.seq (.reg [⟨⟨some 14, Op.load 32 (Operand.tmp 2), none⟩, []⟩,
  ⟨⟨some 15, Op.move (Operand.tmp 1), none⟩, []⟩,
  ⟨⟨some 16, Op.move (Operand.tmp 6), none⟩, []⟩,
  ⟨⟨some 17, Op.call { callee := (Callee.value (Operand.func 77)), args := #[(Operand.tmp 14), (Operand.tmp 15), (Operand.tmp 16)], argTypes := #[32, 3, 3] }, none⟩, []⟩]) (.cond (Operand.tmp 17) (.reg [⟨⟨some 18, Op.move (Operand.tmp 5), none⟩, []⟩,
  ⟨⟨some 19, Op.move (Operand.tmp 6), none⟩, []⟩,
  ⟨⟨some 20, Op.buildSlice 25 1 #[(0, (Operand.tmp 19))], none⟩, []⟩,
  ⟨⟨some 21, Op.call { callee := (Callee.builtin Builtin.append), args := #[(Operand.tmp 18), (Operand.tmp 20)], argTypes := #[25, 25] }, none⟩, []⟩,
  ⟨⟨some 5, Op.assign (Operand.tmp 21), none⟩, []⟩]) .skip))) (.reg [⟨⟨some 12, Op.move (Operand.tmp 6), none⟩, []⟩,
  ⟨⟨some 13, Op.binOp BinOp.add 3 (Operand.tmp 12) (Operand.const (Value.int IntKind.i64 1)) 3, none⟩, []⟩,
  ⟨⟨some 6, Op.assign (Operand.tmp 13), none⟩, []⟩])))))) (.seq (.reg [⟨⟨some 22, Op.move (Operand.tmp 5), none⟩, []⟩,
  ⟨⟨some 4, Op.assign (Operand.tmp 22), none⟩, []⟩]) .ret))))
theorem sl74 : slim Try.f74.ntmps ords74 (Try.f74.body.getD .skip) = some cd74 := by kernel_rfl
theorem in74 {args : List Value} {H : AH} {R : Value → AH → Prop} (hl : args.length = 2) (h : ∀ (Q : Exit → Sl → AH → Prop), (∀ e s H, endA Try.prog [ResultVar.tmp 4] R e s H → Q e s H) → wpC Try.prog cd74 Q (enterA args) H) : ACalls Try.prog 74 args H R :=
  ACalls.intro (by kernel_rfl) Try.func74 rfl (by kernel_rfl) sl74 hl (of_decide_eq_true (by kernel_rfl)) (by kernel_rfl) h
def ords62 : List (Nat × List (Nat × Bool)) := []
def cd62 : Cd := (.seq (.reg [⟨⟨some 2, Op.box 32 (Operand.tmp 0), none⟩, []⟩,
  ⟨⟨some 4, Op.assign (Operand.const (Value.slice none 0 0)), none⟩, []⟩]) (.seq (.reg [⟨⟨some 7, Op.fieldAddr 32 (Operand.tmp 2) 0, none⟩, []⟩,
  ⟨⟨some 8, Op.load 3 (Operand.tmp 7), none⟩, []⟩,
  ⟨⟨some 9, Op.makeSlice 27 (Operand.tmp 8) (Operand.tmp 8), none⟩, []⟩,
  ⟨⟨some 5, Op.assign (Operand.tmp 9), none⟩, []⟩]) (.seq (.seq (.reg [⟨⟨some 6, Op.assign (Operand.const (Value.int IntKind.i64 0)), none⟩, []⟩]) (.block 0 (.loop (.seq (.seq (.reg [⟨⟨some 10, Op.move (Operand.tmp 6), none⟩, []⟩,
  ⟨⟨some 11, Op.fieldAddr 32 (Operand.tmp 2) 0, none⟩, []⟩,
  ⟨⟨some 12, Op.load 3 (Operand.tmp 11), none⟩, []⟩,
  ⟨⟨some 13, Op.binOp BinOp.lss 3 (Operand.tmp 10) (Operand.tmp 12) 3, none⟩, []⟩]) (.cond (Operand.tmp 13) .skip (.exit 0))) (.seq (.block 1 (.reg [⟨⟨some 16, Op.move (Operand.tmp 5), none⟩, []⟩,
  ⟨⟨some 17, Op.move (Operand.tmp 6), none⟩, []⟩,
  ⟨⟨some 18, Op.load 32 (Operand.tmp 2), none⟩, []⟩,
  ⟨⟨some 19, Op.move (Operand.tmp 6), none⟩, []⟩,
  ⟨⟨some 20, Op.call { callee := (Callee.value (Operand.func 74)), args := #[(Operand.tmp 18), (Operand.tmp 19)], argTypes := #[32, 3] }, none⟩, []⟩,
  ⟨⟨some 21, Op.indexAddr 27 (Operand.tmp 16) (Operand.tmp 17), none⟩, []⟩,
  ⟨⟨none, Op.store 25 (Operand.tmp 21) (Operand.tmp 20), none⟩, []⟩])) (.reg [⟨⟨some 14, Op.move (Operand.tmp 6), none⟩, []⟩,
  ⟨⟨some 15, Op.binOp BinOp.add 3 (Operand.tmp 14) (Operand.const (Value.int IntKind.i64 1)) 3, none⟩, []⟩,
  ⟨⟨some 6, Op.assign (Operand.tmp 15), none⟩, []⟩])))))) (.seq (.reg [⟨⟨some 22, Op.move (Operand.tmp 5), none⟩, []⟩,
  ⟨⟨some 23, Op.move (Operand.tmp 1), none⟩, []⟩,
  ⟨⟨some 24, Op.call { callee := (Callee.value (Operand.func 75)), args := #[(Operand.tmp 22), (Operand.tmp 23)], argTypes := #[27, 3] }, none⟩, []⟩,
  ⟨⟨some 4, Op.assign (Operand.tmp 24), none⟩, []⟩]) .ret))))
theorem sl62 : slim Try.f62.ntmps ords62 (Try.f62.body.getD .skip) = some cd62 := by kernel_rfl
theorem in62 {args : List Value} {H : AH} {R : Value → AH → Prop} (hl : args.length = 2) (h : ∀ (Q : Exit → Sl → AH → Prop), (∀ e s H, endA Try.prog [ResultVar.tmp 4] R e s H → Q e s H) → wpC Try.prog cd62 Q (enterA args) H) : ACalls Try.prog 62 args H R :=
  ACalls.intro (by kernel_rfl) Try.func62 rfl (by kernel_rfl) sl62 hl (of_decide_eq_true (by kernel_rfl)) (by kernel_rfl) h
end Go.Proofs.Ytlcipphiflcaiaa.Ai
namespace Go.Proofs.Ytlcipphiflcaiaa.Ai
open Go Go.RowKit
set_option linter.unusedVariables false
set_option linter.unusedSimpArgs false
theorem mk_nils {P : Program} {t e : TypeId} (hu : P.underlying t = some (.slice e)) (hc : P.cellsOf e = 1) (hby : P.bytesOf e ≤ 64) (hz : zeroA P e = some (.slice none 0 0)) {n : Int} (h0 : 0 ≤ n) (h1 : n ≤ 1099511627776) (H : AH) :
    makeSliceA P t (.int .i64 n) (.int .i64 n) H = some (.slice (some ⟨H.length, 0, none⟩) n.toNat n.toNat, H ++ [.cells (List.replicate n.toNat (.slice none 0 0)) e false]) := by
  have hb2 : n.toNat * P.bytesOf e ≤ 281474976710656 := by
    refine Nat.le_trans (Nat.mul_le_mul_left _ hby) ?_
    omega
  have hzc : (Value.slice none 0 0).cells = #[.slice none 0 0] := rfl
  have hzs : zerosA (.slice none 0 0) (n.toNat * 1) = List.replicate n.toNat (.slice none 0 0) := by
    unfold zerosA
    rw [hzc, Nat.mul_one]
    apply List.ext_getElem
    · simp
    · intro i h1 h2
      simp [Nat.mod_one]
  simp only [makeSliceA, hu, hc, hz]
  rw [if_pos ⟨trivial, h0, by omega, hb2, by omega⟩, if_pos ⟨by simp [plainCs, hzc, plainC], by simp [hzc]⟩, hzs]
/-- the lists of neighbors -/
def roadsL (n : Nat) (es : List (Int × Int)) : List (List Int) := (List.range n).map fun x : Nat => nbsU es (x : Int) n
theorem roadsL_len (n : Nat) (es : List (Int × Int)) : (roadsL n es).length = n := by simp [roadsL]
theorem roadsL_at (n : Nat) (es : List (Int × Int)) (i : Nat) (hi : i < n) : (roadsL n es).getD i [] = nbsU es i n := by
  unfold roadsL
  rw [List.getD_eq_getElem?_getD, List.getElem?_map, List.getElem?_range hi]; rfl
theorem roadsL_out (n : Nat) (es : List (Int × Int)) (i : Nat) (hi : ¬ i < n) : (roadsL n es).getD i [] = [] := by
  rw [List.getD_eq_getElem?_getD, List.getElem?_eq_none (by rw [roadsL_len]; omega)]; rfl
theorem roadsL_ok (n : Nat) (es : List (Int × Int)) : LOk (roadsL n es).length (roadsL n es) := by
  intro i y hy
  rw [roadsL_len]
  by_cases hi : i < n
  · rw [roadsL_at n es i hi] at hy
    exact ((nbsU_mem es i n y).1 hy).1
  · rw [roadsL_out n es i hi] at hy
    simp at hy
theorem roadsL_small (n : Nat) (es : List (Int × Int)) (hn : n ≤ 1000000000) (x : Nat) : ((roadsL n es).getD x []).length ≤ 1000000000 := by
  by_cases hi : x < n
  · rw [roadsL_at n es x hi]
    have := nbsU_len es x n
    omega
  · rw [roadsL_out n es x hi]; simp
set_option maxRecDepth 20000 in
set_option maxHeartbeats 1000000 in
theorem l2Neighbors_c (n : Int) (v : Value) (es : List (Int × Int)) (x : Int) (H : AH) (hr : RowP 65 H v es) (hlen : es.length ≤ 1099511627776) (hn : 0 ≤ n ∧ n ≤ 8) :
    ACalls Try.prog 74 [.agg (List.toArray [.int .i64 n, v]), .int .i64 x] H fun r H' => Own 3 H H' r (nbsU es x n.toNat) ∧ H <+: H' := by
  refine in74 rfl ?_
  intro Q hQ
  simp (maxSteps := 1000000) (disch := omega) only [cd74, hr.boxG, S, S1, S2, S3, S4, S5, ST, eq_self, reduceIte, reduceCtorEq, Nat.reduceEqDiff, Nat.reduceAdd]
  generalize hA : H ++ [AObj.cells [.int .i64 n, v] 32 false] = A
  have pA : H <+: A := by rw [← hA]; exact List.prefix_append _ _
  have cA : A[H.length]? = some (.cells [.int .i64 n, v] 32 false) := by rw [← hA]; exact at_new ..
  have rA := hr.pre pA
  try simp (maxSteps := 1000000) (disch := omega) only [S, S1, S2, S3, S4, S5, ST, eq_self, reduceIte, reduceCtorEq, Nat.reduceEqDiff, Nat.reduceAdd]
  refine LoopH.by (fun m s H' => ∃ i, m + i = n.toNat ∧ s 1 = .int .i64 x ∧ s 2 = .pointer (some ⟨H.length, 0, none⟩) ∧ s 6 = .int .i64 ((i : Nat) : Int) ∧ Own 3 A H' (s 5) (nbsU es x i) ∧ A <+: H') n.toNat ?_ ?_
  · exact ⟨0, by simp, rfl, rfl, rfl, .inr ⟨A.length, rfl, Nat.le_refl _, at_new ..⟩, List.prefix_append _ _⟩
  · rintro m s H' ⟨i, hm, h1, h2, h6, ho, hp⟩
    have hr' := rA.pre hp
    have cH := pre_at hp cA
    have hl := nbsU_len es x i
    have hst : nbsU es x (i + 1) = nbsU es x i ++ if nearB es x i = true then [(i : Int)] else [] := rfl
    generalize hw : s 5 = w at *
    simp (maxSteps := 1000000) (disch := omega) only [h1, h2, h6, hw, cell_of cH, S, S1, S2, S3, S4, S5, ST, eq_self, reduceIte, reduceCtorEq, Nat.reduceEqDiff, Nat.reduceAdd]
    refine brD.intro (fun g => ?_) (fun g => ?_)
    · simp (maxSteps := 1000000) (disch := omega) only [h1, h2, h6, hw, ld_agg ag32 cs32 cH, S, S1, S2, S3, S4, S5, ST, eq_self, reduceIte, reduceCtorEq, Nat.reduceEqDiff, Nat.reduceAdd]
      refine CallH.by (l2Near_c n v es x i H' hr' hlen) ?_
      rintro _ B ⟨rfl, pB⟩
      have hoB := ho.pre pB
      have hpB := hp.trans pB
      simp (maxSteps := 1000000) (disch := omega) only [S, S1, S2, S3, S4, S5, ST, eq_self, reduceIte, reduceCtorEq, Nat.reduceEqDiff, Nat.reduceAdd]
      refine brH.intro (fun e2 => ?_) (fun e2 => ?_)
      · obtain ⟨w', H2, k1, k2, k3, k4, k5, k6⟩ := own1_25 hoB hpB (by omega) (i : Int)
        simp (maxSteps := 1000000) (disch := omega) only [e2, h1, h2, h6, hw, k1, wrap64, S, S1, S2, S3, S4, S5, ST, eq_self, reduceIte, reduceCtorEq, Nat.reduceEqDiff, Nat.reduceAdd]
        rw [if_pos e2] at hst
        rw [← hst] at k2
        refine ⟨m - 1, by omega, i + 1, ?_⟩
        (repeat' first | exact k2 | exact k3 | apply And.intro) <;> first | (simp only [Value.int.injEq, true_and]; omega) | omega | rfl | assumption | (simp; done) | (simp; omega)
      · simp (maxSteps := 1000000) (disch := omega) only [e2, h1, h2, h6, hw, wrap64, S, S1, S2, S3, S4, S5, ST, eq_self, reduceIte, reduceCtorEq, Nat.reduceEqDiff, Nat.reduceAdd]
        rw [if_neg (by simpa using e2), List.append_nil] at hst
        rw [← hst] at hoB
        refine ⟨m - 1, by omega, i + 1, ?_⟩
        (repeat' first | exact hoB | exact hpB | apply And.intro) <;> first | (simp only [Value.int.injEq, true_and]; omega) | omega | rfl | assumption | (simp; done) | (simp; omega)
    · simp (maxSteps := 1000000) (disch := omega) only [hw, S, S1, S2, S3, S4, S5, ST, eq_self, reduceIte, reduceCtorEq, Nat.reduceEqDiff, Nat.reduceAdd]
      refine hQ _ _ _ ?_
      simp (maxSteps := 1000000) (disch := omega) only [hw, ho.row.tup, S, S1, S2, S3, S4, S5, ST, eq_self, reduceIte, reduceCtorEq, Nat.reduceEqDiff, Nat.reduceAdd]
      have : i = n.toNat := by omega
      subst this
      exact ⟨ho.base pA, pA.trans hp⟩
set_option maxRecDepth 20000 in
set_option maxHeartbeats 2000000 in
theorem l3Far_c (n : Int) (v : Value) (es : List (Int × Int)) (i : Nat) (H : AH) (hr : RowP 65 H v es) (hlen : es.length ≤ 1099511627776) (hn : 0 ≤ n ∧ n ≤ 8) (hi : (i : Int) < n) :
    ACalls Try.prog 62 [.agg (List.toArray [.int .i64 n, v]), .int .i64 (i : Int)] H fun r H' => Own 3 H H' r (bfs (roadsL n.toNat es) i) ∧ H <+: H' := by
  refine in62 rfl ?_
  intro Q hQ
  simp (maxSteps := 1000000) (disch := omega) only [cd62, hr.boxG, S, S1, S2, S3, S4, S5, ST, eq_self, reduceIte, reduceCtorEq, Nat.reduceEqDiff, Nat.reduceAdd]
  generalize hA : H ++ [AObj.cells [.int .i64 n, v] 32 false] = A
  have pA : H <+: A := by rw [← hA]; exact List.prefix_append _ _
  have cA : A[H.length]? = some (.cells [.int .i64 n, v] 32 false) := by rw [← hA]; exact at_new ..
  have rA := hr.pre pA
  have mk := mk_nils (P := Try.prog) (t := 27) Try.underlying27 cs25 (by rw [by25]; decide) ze25 hn.1 (by omega)
  simp (maxSteps := 1000000) (disch := omega) only [cell_of cA, mk, S, S1, S2, S3, S4, S5, ST, eq_self, reduceIte, reduceCtorEq, Nat.reduceEqDiff, Nat.reduceAdd]
  have z0 := at_new A (.cells (List.replicate n.toNat (.slice none 0 0)) 25 false)
  refine LoopH.by (fun m s H' => ∃ j us, m + j = n.toNat ∧ s 1 = .int .i64 (i : Int) ∧ s 2 = .pointer (some ⟨H.length, 0, none⟩) ∧ s 5 = .slice (some ⟨A.length, 0, none⟩) n.toNat n.toNat ∧ s 6 = .int .i64 ((j : Nat) : Int) ∧ us.length = n.toNat ∧ H'[A.length]? = some (.cells us 25 false) ∧ (∀ x, x < j → Row 3 H' (us.getD x undef) (nbsU es x n.toNat) ∧ (us.getD x undef = .slice none 0 0 ∨ A.length < rowO (us.getD x undef))) ∧ A <+: H') n.toNat ?_ ?_
  · exact ⟨0, List.replicate n.toNat (.slice none 0 0), by simp, rfl, rfl, rfl, rfl, by simp, z0, fun x hx => absurd hx (Nat.not_lt_zero x), List.prefix_append _ _⟩
  · rintro m s H' ⟨j, us, hm, h1, h2, h5, h6, hul, hc, hrows, hp⟩
    have hr' := rA.pre hp
    have cH := pre_at hp cA
    simp (maxSteps := 1000000) (disch := omega) only [h1, h2, h5, h6, cell_of cH, S, S1, S2, S3, S4, S5, ST, eq_self, reduceIte, reduceCtorEq, Nat.reduceEqDiff, Nat.reduceAdd]
    refine brD.intro (fun g => ?_) (fun g => ?_)
    · simp (maxSteps := 1000000) (disch := omega) only [h1, h2, h5, h6, ld_agg ag32 cs32 cH, S, S1, S2, S3, S4, S5, ST, eq_self, reduceIte, reduceCtorEq, Nat.reduceEqDiff, Nat.reduceAdd]
      refine CallH.by (l2Neighbors_c n v es j H' hr' hlen hn) ?_
      rintro b D ⟨hb, pD⟩
      have hcD := pre_at pD hc
      have hju : j < us.length := by omega
      have hsh := hb.row.shape
      obtain ⟨q, eq⟩ := hsh
      have t1 : isTup b = false := by rw [eq]; rfl
      have t2 : b.cells.toList = [b] := by rw [eq]; rfl
      have hst := st_at (P := Try.prog) (t := 25) cs25 hcD hju t1 t2
      simp (maxSteps := 1000000) (disch := omega) only [h1, h2, h5, h6, Int.toNat_natCast, Nat.zero_add, hst, wrap64, S, S1, S2, S3, S4, S5, ST, eq_self, reduceIte, reduceCtorEq, Nat.reduceEqDiff, Nat.reduceAdd]
      have hlt := at_lt hc
      have f0 := at_set (d := .cells (us.set j b) 25 false) hcD
      have f1 : A <+: D.set A.length (.cells (us.set j b) 25 false) := pre_set (hp.trans pD) (Nat.le_refl _) _
      have keep : ∀ {w : Value} {l : List Int}, Row 3 D w l → (w = .slice none 0 0 ∨ A.length < rowO w) → Row 3 (D.set A.length (.cells (us.set j b) 25 false)) w l := by
        intro w l hw ha
        rcases ha with ha | ha
        · rcases hw with hw | ⟨o, k, vs, ro, e1, _⟩
          · exact .inl hw
          · rw [e1] at ha; cases ha
        · exact hw.mono fun y hy => by rw [List.getElem?_set_ne (by omega)]; exact hy
      have hbo : b = .slice none 0 0 ∨ A.length < rowO b := by
        rcases hb with ⟨q, _⟩ | ⟨o, q, ho, _⟩
        · exact .inl q
        · refine .inr ?_
          rw [q]
          show A.length < o
          omega
      have f2 : ∀ x, x < j + 1 → Row 3 (D.set A.length (.cells (us.set j b) 25 false)) ((us.set j b).getD x undef) (nbsU es x n.toNat) ∧ ((us.set j b).getD x undef = .slice none 0 0 ∨ A.length < rowO ((us.set j b).getD x undef)) := by
        intro x hx
        have hsx : (us.set j b).getD x undef = if j = x then b else us.getD x undef := by
          rw [List.getD_eq_getElem?_getD, List.getD_eq_getElem?_getD, List.getElem?_set]
          by_cases h : j = x
          · subst h; rw [if_pos rfl, if_pos rfl, if_pos hju]; rfl
          · rw [if_neg h, if_neg h]
        rw [hsx]
        split
        · rename_i e
          subst e
          exact ⟨keep hb.row hbo, hbo⟩
        · rename_i e
          obtain ⟨q1, q2⟩ := hrows x (by omega)
          exact ⟨keep (q1.pre pD) q2, q2⟩
      have f3 : (us.set j b).length = n.toNat := by simp [hul]
      refine ⟨m - 1, by omega, j + 1, us.set j b, ?_⟩
      (repeat' first | exact f0 | exact f1 | exact f2 | exact f3 | apply And.intro) <;> first | (simp only [Value.int.injEq, true_and]; omega) | omega | rfl | assumption | (simp; done) | (simp; omega)
    · have hj : j = n.toNat := by omega
      have hrow : RowLB H'.length 25 3 H' (.slice (some ⟨A.length, 0, none⟩) n.toNat n.toNat) (roadsL n.toNat es) := by
        refine ⟨us, .inr ⟨A.length, 0, us, false, by rw [hul], hc, by omega, by rw [List.drop_zero, List.take_of_length_le (Nat.le_refl _)]⟩, .inr (at_lt hc), by rw [roadsL_len, hul], fun x hx => ?_⟩
        rw [roadsL_len] at hx
        obtain ⟨q1, q2⟩ := hrows x (by omega)
        rw [roadsL_at _ _ _ hx]
        refine ⟨q1, ?_⟩
        rcases q1.nil with q | q
        · exact .inl q.1
        · exact .inr q
      simp (maxSteps := 1000000) (disch := omega) only [h1, h2, h5, h6, S, S1, S2, S3, S4, S5, ST, eq_self, reduceIte, reduceCtorEq, Nat.reduceEqDiff, Nat.reduceAdd]
      refine CallH.by (l2Spread_c _ (roadsL n.toNat es) i H' hrow (roadsL_ok _ _) (by rw [roadsL_len]; omega) (by rw [roadsL_len]; omega) (roadsL_small _ _ (by omega))) ?_
      rintro u E ⟨hu, pE⟩
      have hpp := pA.trans hp
      simp (maxSteps := 1000000) (disch := omega) only [S, S1, S2, S3, S4, S5, ST, eq_self, reduceIte, reduceCtorEq, Nat.reduceEqDiff, Nat.reduceAdd]
      refine hQ _ _ _ ?_
      simp (maxSteps := 1000000) (disch := omega) only [hu.row.tup, S, S1, S2, S3, S4, S5, ST, eq_self, reduceIte, reduceCtorEq, Nat.reduceEqDiff, Nat.reduceAdd]
      exact ⟨hu.base hpp, hpp.trans pE⟩
end Go.Proofs.Ytlcipphiflcaiaa.Ai
namespace Go.Proofs.Ytlcipphiflcaiaa.Ai
open Go Go.RowKit
set_option linter.unusedVariables false
set_option linter.unusedSimpArgs false
/-- all numbers below one -/
def alls (n : Nat) : List Int := (List.range n).map fun z : Nat => (z : Int)
theorem alls_mem (n : Nat) (z : Int) : z ∈ alls n ↔ 0 ≤ z ∧ z < n := by
  unfold alls
  rw [List.mem_map]
  constructor
  · rintro ⟨a, ha, rfl⟩
    have := List.mem_range.1 ha
    omega
  · rintro ⟨h1, h2⟩
    exact ⟨z.toNat, List.mem_range.2 (by omega), by omega⟩
end Go.Proofs.Ytlcipphiflcaiaa.Ai
namespace Go.Proofs.Ytlcipphiflcaiaa.Ai
open Go
set_option linter.unusedVariables false
/-- the edges with some numbers -/
def prtG (es : List (Int × Int)) (T : List Int) : List (Int × Int) := T.map fun e => es.getD e.toNat (0, 0)
/-- numbers of edges -/
def EdIn (es : List (Int × Int)) (T : List Int) : Prop := ∀ e ∈ T, 0 ≤ e ∧ e < es.length
theorem EdIn.sub {es : List (Int × Int)} {T U : List Int} (h : EdIn es T) (hs : ∀ x ∈ U, x ∈ T) : EdIn es U := fun e he => h e (hs e he)
theorem en_eq {n : Int} {es : List (Int × Int)} (hg : Grd n es) {e : Int} (h : 0 ≤ e ∧ e < es.length) : es.getD e.toNat (0, 0) = ((enA es e : Int), (enB es e : Int)) ∧ enA es e < enB es e ∧ (enB es e : Int) < n := by
  have hl : e.toNat < es.length := by omega
  have hm : es.getD e.toNat (0, 0) ∈ es := by simp [hl]
  have := grd_mem hg hm
  unfold enA enB
  refine ⟨Prod.ext ?_ ?_, ?_, ?_⟩
  · show _ = (((es.getD e.toNat (0, 0)).1.toNat : Nat) : Int); omega
  · show _ = (((es.getD e.toNat (0, 0)).2.toNat : Nat) : Int); omega
  · omega
  · omega
theorem EdIn.ends {n : Nat} {es : List (Int × Int)} (hg : Grd (n : Int) es) {T : List Int} (h : EdIn es T) : EndsIn es T n := fun e he => by
  have := en_eq hg (h e he)
  omega
theorem prt_near {n : Int} {es : List (Int × Int)} (hg : Grd n es) {T : List Int} (hT : EdIn es T) (a b : Int) : nearB (prtG es T) a b = true ↔ ∃ e ∈ T, (a = enA es e ∧ b = enB es e) ∨ (b = enA es e ∧ a = enB es e) := by
  rw [nearB_iff]
  unfold prtG
  rw [List.mem_map, List.mem_map]
  constructor
  · rintro (⟨e, he, q⟩ | ⟨e, he, q⟩)
    · rw [(en_eq hg (hT e he)).1, Prod.mk.injEq] at q
      exact ⟨e, he, .inl ⟨q.1.symm, q.2.symm⟩⟩
    · rw [(en_eq hg (hT e he)).1, Prod.mk.injEq] at q
      exact ⟨e, he, .inr ⟨q.1.symm, q.2.symm⟩⟩
  · rintro ⟨e, he, ⟨q1, q2⟩ | ⟨q1, q2⟩⟩
    · exact .inl ⟨e, he, by rw [(en_eq hg (hT e he)).1, q1, q2]⟩
    · exact .inr ⟨e, he, by rw [(en_eq hg (hT e he)).1, q1, q2]⟩
theorem Rch.trans {adj : Int → Int → Prop} {S : Int → Prop} {x y z : Int} (h : Rch adj S x y) (k : Rch adj S y z) : Rch adj S x z := by
  induction k with
  | refl => exact h
  | step _ h1 h2 ih => exact .step ih h1 h2
theorem Rch.back {adj : Int → Int → Prop} {S : Int → Prop} (hs : ∀ a b, adj a b → adj b a) {x z : Int} (h : Rch adj S x z) (hx : S x) : Rch adj S z x := by
  induction h with
  | refl => exact .refl
  | step h0 h1 h2 ih => exact (Rch.step .refl (hs _ _ h1) (h0.in_ hx)).trans ih
theorem jn_rch {n : Nat} {es : List (Int × Int)} (hg : Grd (n : Int) es) {T : List Int} (hT : EdIn es T) {x : Nat} (hx : x < n) (z' : Int) :
    Rch (fun a b => nearB (prtG es T) a b = true) (· ∈ alls n) (x : Int) z' ↔ ∃ z : Nat, z' = z ∧ z < n ∧ Jn es T x z := by
  have ends := hT.ends hg
  constructor
  · intro h
    induction h with
    | refl => exact ⟨x, rfl, hx, .refl x⟩
    | step _ h1 h2 ih =>
      obtain ⟨z, rfl, hz, hj⟩ := ih
      obtain ⟨e, he, q⟩ := (prt_near hg hT _ _).1 h1
      have hm := ends e he
      rcases q with ⟨q1, q2⟩ | ⟨q1, q2⟩
      · have : z = enA es e := by omega
        subst this
        exact ⟨enB es e, q2, hm.2, hj.trans (.edge e he)⟩
      · have : z = enB es e := by omega
        subst this
        exact ⟨enA es e, q1, hm.1, hj.trans (.symm (.edge e he))⟩
  · rintro ⟨z, rfl, hz, hj⟩
    have key : ∀ {u v : Nat}, Jn es T u v → u < n → Rch (fun a b => nearB (prtG es T) a b = true) (· ∈ alls n) (u : Int) (v : Int) := by
      intro u v h
      induction h with
      | refl y => intro _; exact .refl
      | edge e he => intro _; exact .step .refl ((prt_near hg hT _ _).2 ⟨e, he, .inl ⟨rfl, rfl⟩⟩) ((alls_mem _ _).2 (by have := ends e he; omega))
      | symm h ih => intro hu; exact (ih ((Jn.in_ ends h).2 hu)).back (fun a b hab => by rw [nearB_comm]; exact hab) ((alls_mem _ _).2 (by have := (Jn.in_ ends h).2 hu; omega))
      | trans h1 h2 i1 i2 => intro hu; exact (i1 hu).trans (i2 ((Jn.in_ ends h1).1 hu))
    exact key hj hx
/-- joined, as the search tells -/
def jnB (es : List (Int × Int)) (n : Nat) (T : List Int) (a b : Nat) : Bool := decide (0 ≤ (bfs (roadsL n (prtG es T)) a).getD b 0)
theorem jnB_iff {n : Nat} {es : List (Int × Int)} (hg : Grd (n : Int) es) {T : List Int} (hT : EdIn es T) {i j : Nat} (hi : i < n) (hj : j < n) : jnB es n T i j = true ↔ Jn es T i j := by
  have hL := roadsL_ok n (prtG es T)
  have hl := roadsL_len n (prtG es T)
  have hi' : i < (roadsL n (prtG es T)).length := by omega
  unfold jnB
  rw [decide_eq_true_eq]
  have hadj : ∀ u, u < n → ∀ y, y ∈ (roadsL n (prtG es T)).getD u [] ↔ ((0 ≤ y ∧ y < n) ∧ nearB (prtG es T) u y = true) := fun u hu y => by rw [roadsL_at _ _ _ hu, nbsU_mem]
  constructor
  · obtain ⟨q, h⟩ := bfs_DS hL hi'
    have key : ∀ (d v : Nat), v < n → (bfs (roadsL n (prtG es T)) i).getD v 0 = d → Jn es T i v := by
      intro d
      induction d with
      | zero =>
        intro v hv hd
        rcases h.di.src v (by omega) (show 0 ≤ (bfs (roadsL n (prtG es T)) i).getD v 0 by omega) with ⟨e, _⟩ | ⟨u, u1, u2, u3, u4⟩
        · subst e; exact .refl _
        · have u2' : 0 ≤ (bfs (roadsL n (prtG es T)) i).getD u 0 := u2
          have u4' : (bfs (roadsL n (prtG es T)) i).getD v 0 = (bfs (roadsL n (prtG es T)) i).getD u 0 + 1 := u4
          omega
      | succ d ih =>
        intro v hv hd
        rcases h.di.src v (by omega) (show 0 ≤ (bfs (roadsL n (prtG es T)) i).getD v 0 by omega) with ⟨_, e⟩ | ⟨u, u1, u2, u3, u4⟩
        · have e' : (bfs (roadsL n (prtG es T)) i).getD v 0 = 0 := e
          omega
        · have u4' : (bfs (roadsL n (prtG es T)) i).getD v 0 = (bfs (roadsL n (prtG es T)) i).getD u 0 + 1 := u4
          have hu : u < n := by omega
          have hj := ih u hu (by omega)
          obtain ⟨e, he, c⟩ := (prt_near hg hT _ _).1 ((hadj u hu _).1 u3).2
          rcases c with ⟨c1, c2⟩ | ⟨c1, c2⟩
          · have e1 : u = enA es e := by omega
            have e2 : v = enB es e := by omega
            rw [e2]; exact (e1 ▸ hj).trans (.edge e he)
          · have e1 : u = enB es e := by omega
            have e2 : v = enA es e := by omega
            rw [e2]; exact (e1 ▸ hj).trans (.symm (.edge e he))
    intro h0
    exact key _ j hj (Int.toNat_of_nonneg h0).symm
  · intro hjn
    have hr := (jn_rch hg hT hi (j : Int)).2 ⟨j, rfl, hj, hjn⟩
    have key : ∀ z : Int, Rch (fun a b => nearB (prtG es T) a b = true) (· ∈ alls n) (i : Int) z → (0 ≤ z ∧ z < n) ∧ 0 ≤ (bfs (roadsL n (prtG es T)) i).getD z.toNat 0 := by
      intro z h
      induction h with
      | refl => refine ⟨by omega, ?_⟩; rw [Int.toNat_natCast, bfs_zero hL hi']; omega
      | step _ h1 h2 ih =>
        have hz := (alls_mem _ _).1 h2
        refine ⟨hz, bfs_clo hL hi' (by omega) ih.2 ((hadj _ (by omega) _).2 ⟨hz, ?_⟩)⟩
        rw [Int.toNat_of_nonneg ih.1.1]; exact h1
    have := (key _ hr).2
    rwa [Int.toNat_natCast] at this
theorem jnB_not {n : Nat} {es : List (Int × Int)} (hg : Grd (n : Int) es) {T : List Int} (hT : EdIn es T) {i j : Nat} (hi : i < n) (hj : j < n) : jnB es n T i j = false ↔ ¬ Jn es T i j := by
  rw [← jnB_iff hg hT hi hj, Bool.not_eq_true]
/-- a tree, as the programs tell -/
def TreL (n : Nat) (es : List (Int × Int)) (T : List Int) : Prop := T.length + 1 = n ∧ T.Pairwise (· < ·) ∧ EdIn es T ∧ Conn es T n
theorem TreL.tree {n : Nat} {es : List (Int × Int)} {T : List Int} (hg : Grd (n : Int) es) (h : TreL n es T) : Tree es T n :=
  ⟨h.2.1.imp fun q e => by omega, h.1, h.2.2.2, h.2.2.1.ends hg⟩
end Go.Proofs.Ytlcipphiflcaiaa.Ai
namespace Go.Proofs.Ytlcipphiflcaiaa.Ai
open Go Go.RowKit
set_option linter.unusedVariables false
/-- both nodes of an edge -/
abbrev ed1 (es : List (Int × Int)) (e : Int) : Int := (es.getD e.toNat (0, 0)).1
abbrev ed2 (es : List (Int × Int)) (e : Int) : Int := (es.getD e.toNat (0, 0)).2
def seenL (es : List (Int × Int)) (xs : List Int) : List Int := xs.flatMap fun e => [ed1 es e, ed2 es e]
theorem seenL_snoc (es : List (Int × Int)) (xs : List Int) (e : Int) : seenL es (xs ++ [e]) = seenL es xs ++ [ed1 es e, ed2 es e] := by simp [seenL]
theorem seenL_len (es : List (Int × Int)) (xs : List Int) : (seenL es xs).length = 2 * xs.length := by
  induction xs with
  | nil => rfl
  | cons a xs ih => simp only [seenL, List.flatMap_cons, List.length_append] at ih ⊢; simp only [List.length_cons, List.length_nil, ih]; omega
def rsOk (n : Int) (xs : List Int) (i : Nat) : Prop := (0 ≤ xs.getD i 0 ∧ xs.getD i 0 ≤ n - 1) ∧ (0 < i → xs.getD (i - 1) 0 < xs.getD i 0)
instance (n : Int) (xs : List Int) (i : Nat) : Decidable (rsOk n xs i) := by unfold rsOk; infer_instance
def frOk (es : List (Int × Int)) (xs : List Int) (i : Nat) : Prop := ed1 es (xs.getD i 0) ∉ seenL es (xs.take i) ∧ ed2 es (xs.getD i 0) ∉ seenL es (xs.take i)
instance (es : List (Int × Int)) (xs : List Int) (i : Nat) : Decidable (frOk es xs i) := by unfold frOk; infer_instance
def MtU (es : List (Int × Int)) (xs : List Int) (k : Nat) : Prop := ∀ i, i < k → rsOk es.length xs i ∧ frOk es xs i
instance (es : List (Int × Int)) (xs : List Int) (k : Nat) : Decidable (MtU es xs k) := by unfold MtU; infer_instance
theorem MtU.zero (es : List (Int × Int)) (xs : List Int) : MtU es xs 0 := fun i h => absurd h (Nat.not_lt_zero i)
theorem MtU.succ {es : List (Int × Int)} {xs : List Int} {k : Nat} (h : MtU es xs k) (h1 : rsOk es.length xs k) (h2 : frOk es xs k) : MtU es xs (k + 1) := by
  intro i hi
  rcases Nat.lt_succ_iff_lt_or_eq.1 hi with g | g
  · exact h i g
  · rw [g]; exact ⟨h1, h2⟩
theorem MtU.no {es : List (Int × Int)} {xs : List Int} {k i : Nat} (hi : i < k) (h : ¬ (rsOk es.length xs i ∧ frOk es xs i)) : ¬ MtU es xs k := fun g => h (g i hi)
end Go.Proofs.Ytlcipphiflcaiaa.Ai
namespace Go.Proofs.Ytlcipphiflcaiaa.Ai
open Go
set_option linter.unusedVariables false
/-- an edge that meets none of some -/
def frE (es : List (Int × Int)) (ed : List Int) (e : Int) : Prop := ed1 es e ∉ seenL es ed ∧ ed2 es e ∉ seenL es ed
instance (es : List (Int × Int)) (ed : List Int) (e : Int) : Decidable (frE es ed e) := by unfold frE; infer_instance
/-- all matchings that begin with some edges and have more, of the last k edges; in order -/
def mall (es : List (Int × Int)) : Nat → List Int → List (List Int)
  | 0, _ => []
  | k + 1, ed => (if frE es ed ((es.length - (k + 1) : Nat) : Int) then (ed ++ [((es.length - (k + 1) : Nat) : Int)]) :: mall es k (ed ++ [((es.length - (k + 1) : Nat) : Int)]) else []) ++ mall es k ed
/-- numbers of a range, each once -/
theorem nodupM_le : ∀ (n : Nat) (l : List Int), l.Nodup → (∀ x ∈ l, 0 ≤ x ∧ x < n) → l.length ≤ n
  | 0, l, _, h => by
    cases l with
    | nil => simp
    | cons x l => have := h x (by simp); omega
  | n + 1, l, hd, h => by
    have h1 := nodupM_le n (l.erase (n : Int)) (hd.erase _) (fun x hx => by
      have := (hd.mem_erase_iff).1 hx
      have h2 := h x this.2
      have : x ≠ (n : Int) := this.1
      omega)
    have : l.length ≤ (l.erase (n : Int)).length + 1 := by
      rw [List.length_erase]
      split <;> omega
    omega
/-- nodes of different edges, each once -/
def Mgo (n : Int) (es : List (Int × Int)) (ed : List Int) : Prop := (seenL es ed).Nodup ∧ ∀ z ∈ seenL es ed, 0 ≤ z ∧ z < n
theorem Mgo.nil (n : Int) (es : List (Int × Int)) : Mgo n es [] := ⟨by simp [seenL], fun z hz => by simp [seenL] at hz⟩
theorem Mgo.snoc {n : Int} {es : List (Int × Int)} {ed : List Int} {e : Int} (hg : Grd n es) (h : Mgo n es ed) (he : e.toNat < es.length) (hf : frE es ed e) : Mgo n es (ed ++ [e]) := by
  obtain ⟨a1, a2, a3, _⟩ := hg.2 e.toNat he
  have b1 : ed1 es e < ed2 es e := a2
  have b2 : 0 ≤ ed1 es e := a1
  have b3 : ed2 es e < n := a3
  refine ⟨?_, ?_⟩
  · rw [seenL_snoc, List.nodup_append]
    refine ⟨h.1, ?_, ?_⟩
    · simp; omega
    · intro x hx y hy hxy
      subst hxy
      simp only [List.mem_cons, List.not_mem_nil, or_false] at hy
      rcases hy with rfl | rfl
      · exact hf.1 hx
      · exact hf.2 hx
  · intro z hz
    rw [seenL_snoc, List.mem_append] at hz
    rcases hz with hz | hz
    · exact h.2 z hz
    · simp only [List.mem_cons, List.not_mem_nil, or_false] at hz
      omega
theorem Mgo.all {n : Int} {es : List (Int × Int)} (hg : Grd n es) : ∀ (k : Nat) (ed : List Int), k ≤ es.length → Mgo n es ed → ∀ x ∈ mall es k ed, Mgo n es x
  | 0, ed, _, h, x, hx => by simp [mall] at hx
  | k + 1, ed, hk, h, x, hx => by
    simp only [mall, List.mem_append] at hx
    rcases hx with hx | hx
    · split at hx
      · rename_i hf
        have h2 := h.snoc hg (by rw [Int.toNat_natCast]; omega) hf
        simp only [List.mem_cons] at hx
        rcases hx with rfl | hx
        · exact h2
        · exact Mgo.all hg k _ (by omega) h2 x hx
      · simp at hx
    · exact Mgo.all hg k ed (by omega) h x hx
theorem Mgo.len {n : Int} {es : List (Int × Int)} {ed : List Int} (hn : 0 ≤ n) (h : Mgo n es ed) : 2 * ed.length ≤ n.toNat := by
  have := nodupM_le n.toNat (seenL es ed) h.1 (fun z hz => by have := h.2 z hz; omega)
  rw [seenL_len] at this
  exact this
/-- a graph has at most 28 edges -/
def rnkE (a b : Nat) : Nat := a * (15 - a) / 2 + (b - a - 1)
theorem rnkE_lt : ∀ a b c d : Fin 8, a.1 < b.1 → c.1 < d.1 → (a.1 < c.1 ∨ a.1 = c.1 ∧ b.1 < d.1) → rnkE a.1 b.1 + 1 ≤ rnkE c.1 d.1 := by decide +kernel
theorem rnkE_le : ∀ a b : Fin 8, a.1 < b.1 → rnkE a.1 b.1 ≤ 27 := by decide +kernel
theorem grd_nat {n : Int} {es : List (Int × Int)} (hg : Grd n es) {i : Nat} (hi : i < es.length) : ∃ a b : Fin 8, a.1 < b.1 ∧ es.getD i (0, 0) = ((a.1 : Int), (b.1 : Int)) := by
  obtain ⟨h1, h2, h3, _⟩ := hg.2 i hi
  have := hg.1
  refine ⟨⟨(es.getD i (0, 0)).1.toNat, by omega⟩, ⟨(es.getD i (0, 0)).2.toNat, by omega⟩, by show (es.getD i (0, 0)).1.toNat < (es.getD i (0, 0)).2.toNat; omega, ?_⟩
  apply Prod.ext
  · show _ = (((es.getD i (0, 0)).1.toNat : Nat) : Int); omega
  · show _ = (((es.getD i (0, 0)).2.toNat : Nat) : Int); omega
theorem grd_len {n : Int} {es : List (Int × Int)} (hg : Grd n es) : es.length ≤ 28 := by
  have key : ∀ i, i < es.length → ∃ a b : Fin 8, a.1 < b.1 ∧ es.getD i (0, 0) = ((a.1 : Int), (b.1 : Int)) ∧ i ≤ rnkE a.1 b.1 := by
    intro i
    induction i with
    | zero => intro hi; obtain ⟨a, b, h1, h2⟩ := grd_nat hg hi; exact ⟨a, b, h1, h2, Nat.zero_le _⟩
    | succ i ih =>
      intro hi
      obtain ⟨a, b, h1, h2, h3⟩ := ih (by omega)
      obtain ⟨c, d, k1, k2⟩ := grd_nat hg hi
      have hlt := (hg.2 (i + 1) hi).2.2.2 (by omega)
      rw [Nat.add_sub_cancel, h2, k2] at hlt
      unfold pairLt at hlt
      simp only at hlt
      have := rnkE_lt a b c d h1 k1 (by omega)
      exact ⟨c, d, k1, k2, by omega⟩
  apply Decidable.byContradiction
  intro hc
  obtain ⟨a, b, h1, _, h3⟩ := key 28 (by omega)
  have := rnkE_le a b h1
  omega
end Go.Proofs.Ytlcipphiflcaiaa.Ai
namespace Go.Proofs.Ytlcipphiflcaiaa.Ai
open Go
def ords55 : List (Nat × List (Nat × Bool)) := []
def cd55 : Cd := (.seq (.reg [⟨⟨some 4, Op.assign (Operand.const (Value.int IntKind.i64 0)), none⟩, []⟩]) (.seq (.seq (.reg [⟨⟨some 9, Op.move (Operand.tmp 0), none⟩, []⟩,
  ⟨⟨some 10, Op.call { callee := (Callee.builtin Builtin.len), args := #[(Operand.tmp 9)], argTypes := #[25] }, none⟩, []⟩,
  ⟨⟨some 11, Op.move (Operand.const (Value.int IntKind.i64 0)), none⟩, []⟩]) (.block 0 (.loop (.seq (.reg [⟨⟨some 12, Op.binOp BinOp.lss 3 (Operand.tmp 11) (Operand.tmp 10) 3, none⟩, []⟩]) (.seq (.cond (Operand.tmp 12) .skip (.exit 0)) (.seq (.block 1 (.seq (.reg [⟨⟨some 13, Op.move (Operand.tmp 11), none⟩, []⟩,
  ⟨⟨some 14, Op.indexAddr 25 (Operand.tmp 9) (Operand.tmp 11), none⟩, []⟩,
  ⟨⟨some 15, Op.load 3 (Operand.tmp 14), none⟩, []⟩,
  ⟨⟨some 5, Op.assign (Operand.tmp 13), none⟩, []⟩,
  ⟨⟨some 6, Op.assign (Operand.tmp 15), none⟩, []⟩]) (.seq (.seq (.reg [⟨⟨some 16, Op.move (Operand.tmp 5), none⟩, []⟩,
  ⟨⟨some 17, Op.move (Operand.tmp 1), none⟩, []⟩,
  ⟨⟨some 18, Op.call { callee := (Callee.builtin Builtin.len), args := #[(Operand.tmp 17)], argTypes := #[25] }, none⟩, []⟩,
  ⟨⟨some 19, Op.binOp BinOp.geq 3 (Operand.tmp 16) (Operand.tmp 18) 3, none⟩, []⟩]) (.cond (Operand.tmp 19) (.seq (.reg [⟨⟨some 4, Op.assign (Operand.const (Value.int IntKind.i64 1)), none⟩, []⟩]) .ret) .skip)) (.seq (.reg [⟨⟨some 20, Op.move (Operand.tmp 1), none⟩, []⟩,
  ⟨⟨some 21, Op.move (Operand.tmp 5), none⟩, []⟩,
  ⟨⟨some 22, Op.indexAddr 25 (Operand.tmp 20) (Operand.tmp 21), none⟩, []⟩,
  ⟨⟨some 23, Op.load 3 (Operand.tmp 22), none⟩, []⟩,
  ⟨⟨some 7, Op.assign (Operand.tmp 23), none⟩, []⟩]) (.seq (.reg [⟨⟨some 24, Op.move (Operand.tmp 6), none⟩, []⟩,
  ⟨⟨some 25, Op.move (Operand.tmp 7), none⟩, []⟩,
  ⟨⟨some 26, Op.call { callee := (Callee.value (Operand.func 70)), args := #[(Operand.tmp 24), (Operand.tmp 25)], argTypes := #[3, 3] }, none⟩, []⟩,
  ⟨⟨some 8, Op.assign (Operand.tmp 26), none⟩, []⟩]) (.seq (.reg [⟨⟨some 27, Op.move (Operand.tmp 8), none⟩, []⟩,
  ⟨⟨some 28, Op.binOp BinOp.neq 3 (Operand.tmp 27) (Operand.const (Value.int IntKind.i64 0)) 3, none⟩, []⟩]) (.cond (Operand.tmp 28) (.seq (.reg [⟨⟨some 29, Op.move (Operand.tmp 8), none⟩, []⟩,
  ⟨⟨some 4, Op.assign (Operand.tmp 29), none⟩, []⟩]) .ret) .skip))))))) (.reg [⟨⟨some 30, Op.binOp BinOp.add 3 (Operand.tmp 11) (Operand.const (Value.int IntKind.i64 1)) 3, none⟩, []⟩,
  ⟨⟨some 11, Op.move (Operand.tmp 30), none⟩, []⟩]))))))) (.seq (.seq (.reg [⟨⟨some 31, Op.move (Operand.tmp 0), none⟩, []⟩,
  ⟨⟨some 32, Op.call { callee := (Callee.builtin Builtin.len), args := #[(Operand.tmp 31)], argTypes := #[25] }, none⟩, []⟩,
  ⟨⟨some 33, Op.move (Operand.tmp 1), none⟩, []⟩,
  ⟨⟨some 34, Op.call { callee := (Callee.builtin Builtin.len), args := #[(Operand.tmp 33)], argTypes := #[25] }, none⟩, []⟩,
  ⟨⟨some 35, Op.binOp BinOp.lss 3 (Operand.tmp 32) (Operand.tmp 34) 3, none⟩, []⟩]) (.cond (Operand.tmp 35) (.seq (.reg [⟨⟨some 4, Op.assign (Operand.const (Value.int IntKind.i64 (-1))), none⟩, []⟩]) .ret) .skip)) (.seq (.reg [⟨⟨some 4, Op.assign (Operand.const (Value.int IntKind.i64 0)), none⟩, []⟩]) .ret))))
theorem sl55 : slim Try.f55.ntmps ords55 (Try.f55.body.getD .skip) = some cd55 := by kernel_rfl
theorem in55 {args : List Value} {H : AH} {R : Value → AH → Prop} (hl : args.length = 2) (h : ∀ (Q : Exit → Sl → AH → Prop), (∀ e s H, endA Try.prog [ResultVar.tmp 4] R e s H → Q e s H) → wpC Try.prog cd55 Q (enterA args) H) : ACalls Try.prog 55 args H R :=
  ACalls.intro (by kernel_rfl) Try.func55 rfl (by kernel_rfl) sl55 hl (of_decide_eq_true (by kernel_rfl)) (by kernel_rfl) h
def ords100 : List (Nat × List (Nat × Bool)) := [(1, [(0, false), (1, false), (2, false), (3, false), (4, false), (5, false), (6, false), (7, false), (8, false), (9, true), (10, false)])]
def cd100 : Cd := (.seq (.reg [⟨⟨some 10, Op.assign (Operand.const (Value.int IntKind.i64 0)), none⟩, []⟩,
  ⟨⟨some 11, Op.assign (Operand.const (Value.int IntKind.i64 0)), none⟩, []⟩]) (.seq (.seq (.reg [⟨⟨some 12, Op.move (Operand.tmp 4), none⟩, []⟩,
  ⟨⟨some 13, Op.move (Operand.tmp 0), none⟩, []⟩,
  ⟨⟨some 14, Op.move (Operand.tmp 2), none⟩, []⟩,
  ⟨⟨some 15, Op.indexAddr 27 (Operand.tmp 13) (Operand.tmp 14), none⟩, []⟩,
  ⟨⟨some 16, Op.load 25 (Operand.tmp 15), none⟩, []⟩,
  ⟨⟨some 17, Op.move (Operand.tmp 0), none⟩, []⟩,
  ⟨⟨some 18, Op.move (Operand.tmp 1), none⟩, []⟩,
  ⟨⟨some 19, Op.indexAddr 27 (Operand.tmp 17) (Operand.tmp 18), none⟩, []⟩,
  ⟨⟨some 20, Op.load 25 (Operand.tmp 19), none⟩, []⟩,
  ⟨⟨some 21, Op.call { callee := (Callee.value (Operand.tmp 12)), args := #[(Operand.tmp 16), (Operand.tmp 20)], argTypes := #[25, 25] }, none⟩, []⟩,
  ⟨⟨some 22, Op.binOp BinOp.lss 3 (Operand.tmp 21) (Operand.const (Value.int IntKind.i64 0)) 3, none⟩, []⟩]) (.cond (Operand.tmp 22) (.seq (.reg [⟨⟨some 23, Op.move (Operand.tmp 3), none⟩, []⟩,
  ⟨⟨some 24, Op.nilCheck (Operand.tmp 23), none⟩, []⟩,
  ⟨⟨some 25, Op.load 3 (Operand.tmp 24), none⟩, []⟩,
  ⟨⟨some 26, Op.binOp BinOp.add 3 (Operand.tmp 25) (Operand.const (Value.int IntKind.i64 1)) 3, none⟩, []⟩,
  ⟨⟨some 27, Op.nilCheck (Operand.tmp 23), none⟩, []⟩,
  ⟨⟨none, Op.store 3 (Operand.tmp 27) (Operand.tmp 26), none⟩, []⟩]) (.seq (.reg [⟨⟨some 28, Op.move (Operand.tmp 2), none⟩, []⟩,
  ⟨⟨some 29, Op.move (Operand.tmp 1), none⟩, []⟩,
  ⟨⟨some 10, Op.assign (Operand.tmp 28), none⟩, []⟩,
  ⟨⟨some 11, Op.assign (Operand.tmp 29), none⟩, []⟩]) .ret)) .skip)) (.seq (.reg [⟨⟨some 30, Op.move (Operand.tmp 1), none⟩, []⟩,
  ⟨⟨some 31, Op.move (Operand.tmp 2), none⟩, []⟩,
  ⟨⟨some 10, Op.assign (Operand.tmp 30), none⟩, []⟩,
  ⟨⟨some 11, Op.assign (Operand.tmp 31), none⟩, []⟩]) .ret)))
theorem sl100 : slim Try.f100.ntmps ords100 (Try.f100.body.getD .skip) = some cd100 := by kernel_rfl
theorem in100 {args : List Value} {H : AH} {R : Value → AH → Prop} (hl : args.length = 5) (h : ∀ (Q : Exit → Sl → AH → Prop), (∀ e s H, endA Try.prog [ResultVar.tmp 10, ResultVar.tmp 11] R e s H → Q e s H) → wpC Try.prog cd100 Q (enterA args) H) : ACalls Try.prog 100 args H R :=
  ACalls.intro (by kernel_rfl) Try.func100 rfl (by kernel_rfl) sl100 hl (of_decide_eq_true (by kernel_rfl)) (by kernel_rfl) h
def ords99 : List (Nat × List (Nat × Bool)) := []
def cd99 : Cd := (.seq (.reg [⟨⟨some 12, Op.assign (Operand.const (Value.int IntKind.i64 0)), none⟩, []⟩]) (.seq (.reg [⟨⟨some 14, Op.move (Operand.tmp 0), none⟩, []⟩,
  ⟨⟨some 15, Op.move (Operand.tmp 1), none⟩, []⟩,
  ⟨⟨some 16, Op.move (Operand.tmp 2), none⟩, []⟩,
  ⟨⟨some 17, Op.move (Operand.tmp 4), none⟩, []⟩,
  ⟨⟨some 18, Op.move (Operand.tmp 5), none⟩, []⟩,
  ⟨⟨some 19, Op.call { callee := (Callee.value (Operand.func 100)), args := #[(Operand.tmp 14), (Operand.tmp 15), (Operand.tmp 16), (Operand.tmp 17), (Operand.tmp 18)], argTypes := #[27, 3, 3, 113, 45] }, none⟩, []⟩,
  ⟨⟨some 13, Op.move (Operand.tmp 19), none⟩, []⟩,
  ⟨⟨some 20, Op.extract (Operand.tmp 13) 0, none⟩, []⟩,
  ⟨⟨some 21, Op.extract (Operand.tmp 13) 1, none⟩, []⟩,
  ⟨⟨some 1, Op.assign (Operand.tmp 20), none⟩, []⟩,
  ⟨⟨some 2, Op.assign (Operand.tmp 21), none⟩, []⟩]) (.seq (.reg [⟨⟨some 23, Op.move (Operand.tmp 0), none⟩, []⟩,
  ⟨⟨some 24, Op.move (Operand.tmp 2), none⟩, []⟩,
  ⟨⟨some 25, Op.move (Operand.tmp 3), none⟩, []⟩,
  ⟨⟨some 26, Op.move (Operand.tmp 4), none⟩, []⟩,
  ⟨⟨some 27, Op.move (Operand.tmp 5), none⟩, []⟩,
  ⟨⟨some 28, Op.call { callee := (Callee.value (Operand.func 100)), args := #[(Operand.tmp 23), (Operand.tmp 24), (Operand.tmp 25), (Operand.tmp 26), (Operand.tmp 27)], argTypes := #[27, 3, 3, 113, 45] }, none⟩, []⟩,
  ⟨⟨some 22, Op.move (Operand.tmp 28), none⟩, []⟩,
  ⟨⟨some 29, Op.extract (Operand.tmp 22) 0, none⟩, []⟩,
  ⟨⟨some 30, Op.extract (Operand.tmp 22) 1, none⟩, []⟩,
  ⟨⟨some 2, Op.assign (Operand.tmp 29), none⟩, []⟩,
  ⟨⟨some 3, Op.assign (Operand.tmp 30), none⟩, []⟩]) (.seq (.reg [⟨⟨some 32, Op.move (Operand.tmp 0), none⟩, []⟩,
  ⟨⟨some 33, Op.move (Operand.tmp 1), none⟩, []⟩,
  ⟨⟨some 34, Op.move (Operand.tmp 2), none⟩, []⟩,
  ⟨⟨some 35, Op.move (Operand.tmp 4), none⟩, []⟩,
  ⟨⟨some 36, Op.move (Operand.tmp 5), none⟩, []⟩,
  ⟨⟨some 37, Op.call { callee := (Callee.value (Operand.func 100)), args := #[(Operand.tmp 32), (Operand.tmp 33), (Operand.tmp 34), (Operand.tmp 35), (Operand.tmp 36)], argTypes := #[27, 3, 3, 113, 45] }, none⟩, []⟩,
  ⟨⟨some 31, Op.move (Operand.tmp 37), none⟩, []⟩,
  ⟨⟨some 38, Op.extract (Operand.tmp 31) 0, none⟩, []⟩,
  ⟨⟨some 39, Op.extract (Operand.tmp 31) 1, none⟩, []⟩,
  ⟨⟨some 1, Op.assign (Operand.tmp 38), none⟩, []⟩,
  ⟨⟨some 2, Op.assign (Operand.tmp 39), none⟩, []⟩]) (.seq (.reg [⟨⟨some 40, Op.move (Operand.tmp 2), none⟩, []⟩,
  ⟨⟨some 12, Op.assign (Operand.tmp 40), none⟩, []⟩]) .ret)))))
theorem sl99 : slim Try.f99.ntmps ords99 (Try.f99.body.getD .skip) = some cd99 := by kernel_rfl
theorem in99 {args : List Value} {H : AH} {R : Value → AH → Prop} (hl : args.length = 6) (h : ∀ (Q : Exit → Sl → AH → Prop), (∀ e s H, endA Try.prog [ResultVar.tmp 12] R e s H → Q e s H) → wpC Try.prog cd99 Q (enterA args) H) : ACalls Try.prog 99 args H R :=
  ACalls.intro (by kernel_rfl) Try.func99 rfl (by kernel_rfl) sl99 hl (of_decide_eq_true (by kernel_rfl)) (by kernel_rfl) h
def ords98 : List (Nat × List (Nat × Bool)) := []
def cd98 : Cd := (.seq (.reg [⟨⟨some 8, Op.assign (Operand.const (Value.int IntKind.i64 0)), none⟩, []⟩]) (.seq (.reg [⟨⟨some 9, Op.move (Operand.tmp 0), none⟩, []⟩,
  ⟨⟨some 10, Op.move (Operand.tmp 1), none⟩, []⟩,
  ⟨⟨some 11, Op.binOp BinOp.sub 3 (Operand.tmp 10) (Operand.const (Value.int IntKind.i64 1)) 3, none⟩, []⟩,
  ⟨⟨some 12, Op.move (Operand.tmp 1), none⟩, []⟩,
  ⟨⟨some 13, Op.move (Operand.tmp 1), none⟩, []⟩,
  ⟨⟨some 14, Op.binOp BinOp.add 3 (Operand.tmp 13) (Operand.const (Value.int IntKind.i64 1)) 3, none⟩, []⟩,
  ⟨⟨some 15, Op.move (Operand.tmp 2), none⟩, []⟩,
  ⟨⟨some 16, Op.move (Operand.tmp 3), none⟩, []⟩,
  ⟨⟨some 17, Op.call { callee := (Callee.value (Operand.func 99)), args := #[(Operand.tmp 9), (Operand.tmp 11), (Operand.tmp 12), (Operand.tmp 14), (Operand.tmp 15), (Operand.tmp 16)], argTypes := #[27, 3, 3, 3, 113, 45] }, none⟩, []⟩,
  ⟨⟨some 8, Op.assign (Operand.tmp 17), none⟩, []⟩]) .ret))
theorem sl98 : slim Try.f98.ntmps ords98 (Try.f98.body.getD .skip) = some cd98 := by kernel_rfl
theorem in98 {args : List Value} {H : AH} {R : Value → AH → Prop} (hl : args.length = 4) (h : ∀ (Q : Exit → Sl → AH → Prop), (∀ e s H, endA Try.prog [ResultVar.tmp 8] R e s H → Q e s H) → wpC Try.prog cd98 Q (enterA args) H) : ACalls Try.prog 98 args H R :=
  ACalls.intro (by kernel_rfl) Try.func98 rfl (by kernel_rfl) sl98 hl (of_decide_eq_true (by kernel_rfl)) (by kernel_rfl) h
def ords84 : List (Nat × List (Nat × Bool)) := [(5, [(0, false), (1, false), (2, false), (3, false), (4, false), (5, false), (6, false), (7, false), (8, false), (9, false), (10, false), (11, false), (12, false), (13, false), (14, true), (15, false), (16, false), (17, false)]), (11, [(0, false), (1, false), (2, false), (3, false), (4, false), (5, false), (6, false), (7, false), (8, false), (9, false), (10, false), (11, false), (12, false), (13, false), (14, false), (15, true), (16, false), (17, true)]), (16, [(0, false), (1, false), (2, false), (3, false), (4, false), (5, false), (6, false), (7, false), (8, false), (9, false), (10, true), (11, false), (12, false)]), (17, [(0, false), (1, false), (2, false), (3, false), (4, false), (5, false), (6, false), (7, false), (8, false), (9, false), (10, false), (11, false), (12, false), (13, false), (14, false), (15, true), (16, false), (17, true)]), (22, [(0, false), (1, false), (2, false), (3, false), (4, false), (5, false), (6, false), (7, false), (8, false), (9, false), (10, true), (11, false), (12, false)]), (23, [(0, false), (1, false), (2, false), (3, false), (4, false), (5, false), (6, false), (7, false), (8, false), (9, false), (10, false), (11, false), (12, false), (13, false), (14, false), (15, true), (16, false), (17, true)])]
def cd84 : Cd := (.seq (.reg [⟨⟨some 8, Op.assign (Operand.const (Value.bool false)), none⟩, []⟩]) (.seq (.reg [⟨⟨some 13, Op.move (Operand.tmp 1), none⟩, []⟩,
  ⟨⟨some 14, Op.binOp BinOp.add 3 (Operand.tmp 13) (Operand.const (Value.int IntKind.i64 1)) 3, none⟩, []⟩,
  ⟨⟨some 9, Op.assign (Operand.tmp 14), none⟩, []⟩]) (.seq (.seq (.reg [⟨⟨some 10, Op.assign (Operand.const (Value.int IntKind.i64 0)), none⟩, []⟩]) (.block 0 (.loop (.seq (.seq (.reg [⟨⟨some 15, Op.move (Operand.tmp 10), none⟩, []⟩,
  ⟨⟨some 16, Op.binOp BinOp.lss 3 (Operand.tmp 15) (Operand.const (Value.int IntKind.i64 5)) 3, none⟩, []⟩]) (.cond (Operand.tmp 16) .skip (.exit 0))) (.seq (.block 1 (.seq (.block 2 (.loop (.seq (.seq (.reg [⟨⟨some 19, Op.move (Operand.tmp 9), none⟩, []⟩,
  ⟨⟨some 20, Op.move (Operand.tmp 2), none⟩, []⟩,
  ⟨⟨some 21, Op.binOp BinOp.lss 3 (Operand.tmp 19) (Operand.tmp 20) 3, none⟩, []⟩,
  ⟨⟨some 22, Op.move (Operand.tmp 21), none⟩, []⟩,
  ⟨⟨some 23, Op.move (Operand.tmp 3), some (22, true)⟩, []⟩,
  ⟨⟨some 24, Op.move (Operand.tmp 0), some (22, true)⟩, []⟩,
  ⟨⟨some 25, Op.move (Operand.tmp 9), some (22, true)⟩, []⟩,
  ⟨⟨some 26, Op.indexAddr 27 (Operand.tmp 24) (Operand.tmp 25), some (22, true)⟩, []⟩,
  ⟨⟨some 27, Op.load 25 (Operand.tmp 26), some (22, true)⟩, []⟩,
  ⟨⟨some 28, Op.move (Operand.tmp 0), some (22, true)⟩, []⟩,
  ⟨⟨some 29, Op.move (Operand.tmp 9), some (22, true)⟩, []⟩,
  ⟨⟨some 30, Op.binOp BinOp.sub 3 (Operand.tmp 29) (Operand.const (Value.int IntKind.i64 1)) 3, some (22, true)⟩, []⟩,
  ⟨⟨some 31, Op.indexAddr 27 (Operand.tmp 28) (Operand.tmp 30), some (22, true)⟩, []⟩,
  ⟨⟨some 32, Op.load 25 (Operand.tmp 31), some (22, true)⟩, []⟩,
  ⟨⟨some 33, Op.call { callee := (Callee.value (Operand.tmp 23)), args := #[(Operand.tmp 27), (Operand.tmp 32)], argTypes := #[25, 25] }, some (22, true)⟩, []⟩,
  ⟨⟨some 34, Op.binOp BinOp.lss 3 (Operand.tmp 33) (Operand.const (Value.int IntKind.i64 0)) 3, some (22, true)⟩, []⟩,
  ⟨⟨some 35, Op.unOp UnOp.not 4 (Operand.tmp 34), some (22, true)⟩, []⟩,
  ⟨⟨some 36, Op.pick (Operand.tmp 22) (Operand.tmp 35) (Operand.const (Value.bool false)), none⟩, []⟩]) (.cond (Operand.tmp 36) .skip (.exit 2))) (.block 3 (.reg [⟨⟨some 37, Op.move (Operand.tmp 9), none⟩, []⟩,
  ⟨⟨some 38, Op.binOp BinOp.add 3 (Operand.tmp 37) (Operand.const (Value.int IntKind.i64 1)) 3, none⟩, []⟩,
  ⟨⟨some 9, Op.assign (Operand.tmp 38), none⟩, []⟩]))))) (.seq (.seq (.reg [⟨⟨some 39, Op.move (Operand.tmp 9), none⟩, []⟩,
  ⟨⟨some 40, Op.move (Operand.tmp 2), none⟩, []⟩,
  ⟨⟨some 41, Op.binOp BinOp.eql 3 (Operand.tmp 39) (Operand.tmp 40) 3, none⟩, []⟩]) (.cond (Operand.tmp 41) (.seq (.reg [⟨⟨some 8, Op.assign (Operand.const (Value.bool true)), none⟩, []⟩]) .ret) .skip)) (.seq (.seq (.reg [⟨⟨some 42, Op.move (Operand.tmp 2), none⟩, []⟩,
  ⟨⟨some 43, Op.move (Operand.tmp 1), none⟩, []⟩,
  ⟨⟨some 44, Op.binOp BinOp.sub 3 (Operand.tmp 42) (Operand.tmp 43) 3, none⟩, []⟩,
  ⟨⟨some 45, Op.binOp BinOp.lss 3 (Operand.tmp 44) (Operand.const (Value.int IntKind.i64 50)) 3, none⟩, []⟩]) (.cond (Operand.tmp 45) (.seq (.reg [⟨⟨some 8, Op.assign (Operand.const (Value.bool false)), none⟩, []⟩]) .ret) .skip)) (.seq (.reg [⟨⟨some 46, Op.move (Operand.tmp 0), none⟩, []⟩,
  ⟨⟨some 47, Op.move (Operand.tmp 9), none⟩, []⟩,
  ⟨⟨some 48, Op.move (Operand.tmp 0), none⟩, []⟩,
  ⟨⟨some 49, Op.move (Operand.tmp 9), none⟩, []⟩,
  ⟨⟨some 50, Op.binOp BinOp.sub 3 (Operand.tmp 49) (Operand.const (Value.int IntKind.i64 1)) 3, none⟩, []⟩,
  ⟨⟨some 51, Op.move (Operand.tmp 0), none⟩, []⟩,
  ⟨⟨some 52, Op.move (Operand.tmp 9), none⟩, []⟩,
  ⟨⟨some 53, Op.binOp BinOp.sub 3 (Operand.tmp 52) (Operand.const (Value.int IntKind.i64 1)) 3, none⟩, []⟩,
  ⟨⟨some 54, Op.indexAddr 27 (Operand.tmp 51) (Operand.tmp 53), none⟩, []⟩,
  ⟨⟨some 55, Op.load 25 (Operand.tmp 54), none⟩, []⟩,
  ⟨⟨some 56, Op.move (Operand.tmp 0), none⟩, []⟩,
  ⟨⟨some 57, Op.move (Operand.tmp 9), none⟩, []⟩,
  ⟨⟨some 58, Op.indexAddr 27 (Operand.tmp 56) (Operand.tmp 57), none⟩, []⟩,
  ⟨⟨some 59, Op.load 25 (Operand.tmp 58), none⟩, []⟩,
  ⟨⟨some 60, Op.indexAddr 27 (Operand.tmp 46) (Operand.tmp 47), none⟩, []⟩,
  ⟨⟨none, Op.store 25 (Operand.tmp 60) (Operand.tmp 55), none⟩, []⟩,
  ⟨⟨some 61, Op.indexAddr 27 (Operand.tmp 48) (Operand.tmp 50), none⟩, []⟩,
  ⟨⟨none, Op.store 25 (Operand.tmp 61) (Operand.tmp 59), none⟩, []⟩]) (.seq (.seq (.reg [⟨⟨some 62, Op.move (Operand.tmp 9), none⟩, []⟩,
  ⟨⟨some 63, Op.move (Operand.tmp 1), none⟩, []⟩,
  ⟨⟨some 64, Op.binOp BinOp.sub 3 (Operand.tmp 62) (Operand.tmp 63) 3, none⟩, []⟩,
  ⟨⟨some 65, Op.binOp BinOp.geq 3 (Operand.tmp 64) (Operand.const (Value.int IntKind.i64 2)) 3, none⟩, []⟩]) (.cond (Operand.tmp 65) (.seq (.reg [⟨⟨some 66, Op.move (Operand.tmp 9), none⟩, []⟩,
  ⟨⟨some 67, Op.binOp BinOp.sub 3 (Operand.tmp 66) (Operand.const (Value.int IntKind.i64 1)) 3, none⟩, []⟩,
  ⟨⟨some 11, Op.assign (Operand.tmp 67), none⟩, []⟩]) (.block 4 (.loop (.seq (.seq (.reg [⟨⟨some 68, Op.move (Operand.tmp 11), none⟩, []⟩,
  ⟨⟨some 69, Op.binOp BinOp.geq 3 (Operand.tmp 68) (Operand.const (Value.int IntKind.i64 1)) 3, none⟩, []⟩]) (.cond (Operand.tmp 69) .skip (.exit 4))) (.seq (.block 5 (.seq (.seq (.reg [⟨⟨some 72, Op.move (Operand.tmp 3), none⟩, []⟩,
  ⟨⟨some 73, Op.move (Operand.tmp 0), none⟩, []⟩,
  ⟨⟨some 74, Op.move (Operand.tmp 11), none⟩, []⟩,
  ⟨⟨some 75, Op.indexAddr 27 (Operand.tmp 73) (Operand.tmp 74), none⟩, []⟩,
  ⟨⟨some 76, Op.load 25 (Operand.tmp 75), none⟩, []⟩,
  ⟨⟨some 77, Op.move (Operand.tmp 0), none⟩, []⟩,
  ⟨⟨some 78, Op.move (Operand.tmp 11), none⟩, []⟩,
  ⟨⟨some 79, Op.binOp BinOp.sub 3 (Operand.tmp 78) (Operand.const (Value.int IntKind.i64 1)) 3, none⟩, []⟩,
  ⟨⟨some 80, Op.indexAddr 27 (Operand.tmp 77) (Operand.tmp 79), none⟩, []⟩,
  ⟨⟨some 81, Op.load 25 (Operand.tmp 80), none⟩, []⟩,
  ⟨⟨some 82, Op.call { callee := (Callee.value (Operand.tmp 72)), args := #[(Operand.tmp 76), (Operand.tmp 81)], argTypes := #[25, 25] }, none⟩, []⟩,
  ⟨⟨some 83, Op.binOp BinOp.lss 3 (Operand.tmp 82) (Operand.const (Value.int IntKind.i64 0)) 3, none⟩, []⟩,
  ⟨⟨some 84, Op.unOp UnOp.not 4 (Operand.tmp 83), none⟩, []⟩]) (.cond (Operand.tmp 84) (.exit 4) .skip)) (.reg [⟨⟨some 85, Op.move (Operand.tmp 0), none⟩, []⟩,
  ⟨⟨some 86, Op.move (Operand.tmp 11), none⟩, []⟩,
  ⟨⟨some 87, Op.move (Operand.tmp 0), none⟩, []⟩,
  ⟨⟨some 88, Op.move (Operand.tmp 11), none⟩, []⟩,
  ⟨⟨some 89, Op.binOp BinOp.sub 3 (Operand.tmp 88) (Operand.const (Value.int IntKind.i64 1)) 3, none⟩, []⟩,
  ⟨⟨some 90, Op.move (Operand.tmp 0), none⟩, []⟩,
  ⟨⟨some 91, Op.move (Operand.tmp 11), none⟩, []⟩,
  ⟨⟨some 92, Op.binOp BinOp.sub 3 (Operand.tmp 91) (Operand.const (Value.int IntKind.i64 1)) 3, none⟩, []⟩,
  ⟨⟨some 93, Op.indexAddr 27 (Operand.tmp 90) (Operand.tmp 92), none⟩, []⟩,
  ⟨⟨some 94, Op.load 25 (Operand.tmp 93), none⟩, []⟩,
  ⟨⟨some 95, Op.move (Operand.tmp 0), none⟩, []⟩,
  ⟨⟨some 96, Op.move (Operand.tmp 11), none⟩, []⟩,
  ⟨⟨some 97, Op.indexAddr 27 (Operand.tmp 95) (Operand.tmp 96), none⟩, []⟩,
  ⟨⟨some 98, Op.load 25 (Operand.tmp 97), none⟩, []⟩,
  ⟨⟨some 99, Op.indexAddr 27 (Operand.tmp 85) (Operand.tmp 86), none⟩, []⟩,
  ⟨⟨none, Op.store 25 (Operand.tmp 99) (Operand.tmp 94), none⟩, []⟩,
  ⟨⟨some 100, Op.indexAddr 27 (Operand.tmp 87) (Operand.tmp 89), none⟩, []⟩,
  ⟨⟨none, Op.store 25 (Operand.tmp 100) (Operand.tmp 98), none⟩, []⟩]))) (.reg [⟨⟨some 70, Op.move (Operand.tmp 11), none⟩, []⟩,
  ⟨⟨some 71, Op.binOp BinOp.sub 3 (Operand.tmp 70) (Operand.const (Value.int IntKind.i64 1)) 3, none⟩, []⟩,
  ⟨⟨some 11, Op.assign (Operand.tmp 71), none⟩, []⟩])))))) .skip)) (.seq (.reg [⟨⟨some 101, Op.move (Operand.tmp 2), none⟩, []⟩,
  ⟨⟨some 102, Op.move (Operand.tmp 9), none⟩, []⟩,
  ⟨⟨some 103, Op.binOp BinOp.sub 3 (Operand.tmp 101) (Operand.tmp 102) 3, none⟩, []⟩,
  ⟨⟨some 104, Op.binOp BinOp.geq 3 (Operand.tmp 103) (Operand.const (Value.int IntKind.i64 2)) 3, none⟩, []⟩]) (.cond (Operand.tmp 104) (.seq (.reg [⟨⟨some 105, Op.move (Operand.tmp 9), none⟩, []⟩,
  ⟨⟨some 106, Op.binOp BinOp.add 3 (Operand.tmp 105) (Operand.const (Value.int IntKind.i64 1)) 3, none⟩, []⟩,
  ⟨⟨some 12, Op.assign (Operand.tmp 106), none⟩, []⟩]) (.block 6 (.loop (.seq (.seq (.reg [⟨⟨some 107, Op.move (Operand.tmp 12), none⟩, []⟩,
  ⟨⟨some 108, Op.move (Operand.tmp 2), none⟩, []⟩,
  ⟨⟨some 109, Op.binOp BinOp.lss 3 (Operand.tmp 107) (Operand.tmp 108) 3, none⟩, []⟩]) (.cond (Operand.tmp 109) .skip (.exit 6))) (.seq (.block 7 (.seq (.seq (.reg [⟨⟨some 112, Op.move (Operand.tmp 3), none⟩, []⟩,
  ⟨⟨some 113, Op.move (Operand.tmp 0), none⟩, []⟩,
  ⟨⟨some 114, Op.move (Operand.tmp 12), none⟩, []⟩,
  ⟨⟨some 115, Op.indexAddr 27 (Operand.tmp 113) (Operand.tmp 114), none⟩, []⟩,
  ⟨⟨some 116, Op.load 25 (Operand.tmp 115), none⟩, []⟩,
  ⟨⟨some 117, Op.move (Operand.tmp 0), none⟩, []⟩,
  ⟨⟨some 118, Op.move (Operand.tmp 12), none⟩, []⟩,
  ⟨⟨some 119, Op.binOp BinOp.sub 3 (Operand.tmp 118) (Operand.const (Value.int IntKind.i64 1)) 3, none⟩, []⟩,
  ⟨⟨some 120, Op.indexAddr 27 (Operand.tmp 117) (Operand.tmp 119), none⟩, []⟩,
  ⟨⟨some 121, Op.load 25 (Operand.tmp 120), none⟩, []⟩,
  ⟨⟨some 122, Op.call { callee := (Callee.value (Operand.tmp 112)), args := #[(Operand.tmp 116), (Operand.tmp 121)], argTypes := #[25, 25] }, none⟩, []⟩,
  ⟨⟨some 123, Op.binOp BinOp.lss 3 (Operand.tmp 122) (Operand.const (Value.int IntKind.i64 0)) 3, none⟩, []⟩,
  ⟨⟨some 124, Op.unOp UnOp.not 4 (Operand.tmp 123), none⟩, []⟩]) (.cond (Operand.tmp 124) (.exit 6) .skip)) (.reg [⟨⟨some 125, Op.move (Operand.tmp 0), none⟩, []⟩,
  ⟨⟨some 126, Op.move (Operand.tmp 12), none⟩, []⟩,
  ⟨⟨some 127, Op.move (Operand.tmp 0), none⟩, []⟩,
  ⟨⟨some 128, Op.move (Operand.tmp 12), none⟩, []⟩,
  ⟨⟨some 129, Op.binOp BinOp.sub 3 (Operand.tmp 128) (Operand.const (Value.int IntKind.i64 1)) 3, none⟩, []⟩,
  ⟨⟨some 130, Op.move (Operand.tmp 0), none⟩, []⟩,
  ⟨⟨some 131, Op.move (Operand.tmp 12), none⟩, []⟩,
  ⟨⟨some 132, Op.binOp BinOp.sub 3 (Operand.tmp 131) (Operand.const (Value.int IntKind.i64 1)) 3, none⟩, []⟩,
  ⟨⟨some 133, Op.indexAddr 27 (Operand.tmp 130) (Operand.tmp 132), none⟩, []⟩,
  ⟨⟨some 134, Op.load 25 (Operand.tmp 133), none⟩, []⟩,
  ⟨⟨some 135, Op.move (Operand.tmp 0), none⟩, []⟩,
  ⟨⟨some 136, Op.move (Operand.tmp 12), none⟩, []⟩,
  ⟨⟨some 137, Op.indexAddr 27 (Operand.tmp 135) (Operand.tmp 136), none⟩, []⟩,
  ⟨⟨some 138, Op.load 25 (Operand.tmp 137), none⟩, []⟩,
  ⟨⟨some 139, Op.indexAddr 27 (Operand.tmp 125) (Operand.tmp 126), none⟩, []⟩,
  ⟨⟨none, Op.store 25 (Operand.tmp 139) (Operand.tmp 134), none⟩, []⟩,
  ⟨⟨some 140, Op.indexAddr 27 (Operand.tmp 127) (Operand.tmp 129), none⟩, []⟩,
  ⟨⟨none, Op.store 25 (Operand.tmp 140) (Operand.tmp 138), none⟩, []⟩]))) (.reg [⟨⟨some 110, Op.move (Operand.tmp 12), none⟩, []⟩,
  ⟨⟨some 111, Op.binOp BinOp.add 3 (Operand.tmp 110) (Operand.const (Value.int IntKind.i64 1)) 3, none⟩, []⟩,
  ⟨⟨some 12, Op.assign (Operand.tmp 111), none⟩, []⟩])))))) .skip)))))))) (.reg [⟨⟨some 17, Op.move (Operand.tmp 10), none⟩, []⟩,
  ⟨⟨some 18, Op.binOp BinOp.add 3 (Operand.tmp 17) (Operand.const (Value.int IntKind.i64 1)) 3, none⟩, []⟩,
  ⟨⟨some 10, Op.assign (Operand.tmp 18), none⟩, []⟩])))))) (.seq (.reg [⟨⟨some 8, Op.assign (Operand.const (Value.bool false)), none⟩, []⟩]) .ret))))
theorem sl84 : slim Try.f84.ntmps ords84 (Try.f84.body.getD .skip) = some cd84 := by kernel_rfl
theorem in84 {args : List Value} {H : AH} {R : Value → AH → Prop} (hl : args.length = 4) (h : ∀ (Q : Exit → Sl → AH → Prop), (∀ e s H, endA Try.prog [ResultVar.tmp 8] R e s H → Q e s H) → wpC Try.prog cd84 Q (enterA args) H) : ACalls Try.prog 84 args H R :=
  ACalls.intro (by kernel_rfl) Try.func84 rfl (by kernel_rfl) sl84 hl (of_decide_eq_true (by kernel_rfl)) (by kernel_rfl) h
def ords79 : List (Nat × List (Nat × Bool)) := [(4, [(0, false), (1, false), (2, false), (3, false), (4, false), (5, false), (6, false), (7, false), (8, false), (9, false), (10, false), (11, false), (12, false), (13, false), (14, true), (15, false), (16, false)]), (6, [(0, false), (1, false), (2, false), (3, false), (4, false), (5, false), (6, false), (7, false), (8, false), (9, false), (10, false), (11, false), (12, false), (13, false), (14, false), (15, true), (16, false), (17, true)])]
def cd79 : Cd := (.seq (.reg [⟨⟨some 10, Op.move (Operand.tmp 1), none⟩, []⟩,
  ⟨⟨some 11, Op.binOp BinOp.add 3 (Operand.tmp 10) (Operand.const (Value.int IntKind.i64 1)) 3, none⟩, []⟩,
  ⟨⟨some 8, Op.assign (Operand.tmp 11), none⟩, []⟩]) (.block 0 (.loop (.seq (.seq (.reg [⟨⟨some 12, Op.move (Operand.tmp 8), none⟩, []⟩,
  ⟨⟨some 13, Op.move (Operand.tmp 2), none⟩, []⟩,
  ⟨⟨some 14, Op.binOp BinOp.lss 3 (Operand.tmp 12) (Operand.tmp 13) 3, none⟩, []⟩]) (.cond (Operand.tmp 14) .skip (.exit 0))) (.seq (.block 1 (.seq (.reg [⟨⟨some 17, Op.move (Operand.tmp 8), none⟩, []⟩,
  ⟨⟨some 9, Op.assign (Operand.tmp 17), none⟩, []⟩]) (.block 2 (.loop (.seq (.seq (.reg [⟨⟨some 18, Op.move (Operand.tmp 9), none⟩, []⟩,
  ⟨⟨some 19, Op.move (Operand.tmp 1), none⟩, []⟩,
  ⟨⟨some 20, Op.binOp BinOp.gtr 3 (Operand.tmp 18) (Operand.tmp 19) 3, none⟩, []⟩,
  ⟨⟨some 21, Op.move (Operand.tmp 20), none⟩, []⟩,
  ⟨⟨some 22, Op.move (Operand.tmp 3), some (21, true)⟩, []⟩,
  ⟨⟨some 23, Op.move (Operand.tmp 0), some (21, true)⟩, []⟩,
  ⟨⟨some 24, Op.move (Operand.tmp 9), some (21, true)⟩, []⟩,
  ⟨⟨some 25, Op.indexAddr 27 (Operand.tmp 23) (Operand.tmp 24), some (21, true)⟩, []⟩,
  ⟨⟨some 26, Op.load 25 (Operand.tmp 25), some (21, true)⟩, []⟩,
  ⟨⟨some 27, Op.move (Operand.tmp 0), some (21, true)⟩, []⟩,
  ⟨⟨some 28, Op.move (Operand.tmp 9), some (21, true)⟩, []⟩,
  ⟨⟨some 29, Op.binOp BinOp.sub 3 (Operand.tmp 28) (Operand.const (Value.int IntKind.i64 1)) 3, some (21, true)⟩, []⟩,
  ⟨⟨some 30, Op.indexAddr 27 (Operand.tmp 27) (Operand.tmp 29), some (21, true)⟩, []⟩,
  ⟨⟨some 31, Op.load 25 (Operand.tmp 30), some (21, true)⟩, []⟩,
  ⟨⟨some 32, Op.call { callee := (Callee.value (Operand.tmp 22)), args := #[(Operand.tmp 26), (Operand.tmp 31)], argTypes := #[25, 25] }, some (21, true)⟩, []⟩,
  ⟨⟨some 33, Op.binOp BinOp.lss 3 (Operand.tmp 32) (Operand.const (Value.int IntKind.i64 0)) 3, some (21, true)⟩, []⟩,
  ⟨⟨some 34, Op.pick (Operand.tmp 21) (Operand.tmp 33) (Operand.const (Value.bool false)), none⟩, []⟩]) (.cond (Operand.tmp 34) .skip (.exit 2))) (.seq (.block 3 (.reg [⟨⟨some 37, Op.move (Operand.tmp 0), none⟩, []⟩,
  ⟨⟨some 38, Op.move (Operand.tmp 9), none⟩, []⟩,
  ⟨⟨some 39, Op.move (Operand.tmp 0), none⟩, []⟩,
  ⟨⟨some 40, Op.move (Operand.tmp 9), none⟩, []⟩,
  ⟨⟨some 41, Op.binOp BinOp.sub 3 (Operand.tmp 40) (Operand.const (Value.int IntKind.i64 1)) 3, none⟩, []⟩,
  ⟨⟨some 42, Op.move (Operand.tmp 0), none⟩, []⟩,
  ⟨⟨some 43, Op.move (Operand.tmp 9), none⟩, []⟩,
  ⟨⟨some 44, Op.binOp BinOp.sub 3 (Operand.tmp 43) (Operand.const (Value.int IntKind.i64 1)) 3, none⟩, []⟩,
  ⟨⟨some 45, Op.indexAddr 27 (Operand.tmp 42) (Operand.tmp 44), none⟩, []⟩,
  ⟨⟨some 46, Op.load 25 (Operand.tmp 45), none⟩, []⟩,
  ⟨⟨some 47, Op.move (Operand.tmp 0), none⟩, []⟩,
  ⟨⟨some 48, Op.move (Operand.tmp 9), none⟩, []⟩,
  ⟨⟨some 49, Op.indexAddr 27 (Operand.tmp 47) (Operand.tmp 48), none⟩, []⟩,
  ⟨⟨some 50, Op.load 25 (Operand.tmp 49), none⟩, []⟩,
  ⟨⟨some 51, Op.indexAddr 27 (Operand.tmp 37) (Operand.tmp 38), none⟩, []⟩,
  ⟨⟨none, Op.store 25 (Operand.tmp 51) (Operand.tmp 46), none⟩, []⟩,
  ⟨⟨some 52, Op.indexAddr 27 (Operand.tmp 39) (Operand.tmp 41), none⟩, []⟩,
  ⟨⟨none, Op.store 25 (Operand.tmp 52) (Operand.tmp 50), none⟩, []⟩])) (.reg [⟨⟨some 35, Op.move (Operand.tmp 9), none⟩, []⟩,
  ⟨⟨some 36, Op.binOp BinOp.sub 3 (Operand.tmp 35) (Operand.const (Value.int IntKind.i64 1)) 3, none⟩, []⟩,
  ⟨⟨some 9, Op.assign (Operand.tmp 36), none⟩, []⟩]))))))) (.reg [⟨⟨some 15, Op.move (Operand.tmp 8), none⟩, []⟩,
  ⟨⟨some 16, Op.binOp BinOp.add 3 (Operand.tmp 15) (Operand.const (Value.int IntKind.i64 1)) 3, none⟩, []⟩,
  ⟨⟨some 8, Op.assign (Operand.tmp 16), none⟩, []⟩]))))))
theorem sl79 : slim Try.f79.ntmps ords79 (Try.f79.body.getD .skip) = some cd79 := by kernel_rfl
theorem in79 {args : List Value} {H : AH} {R : Value → AH → Prop} (hl : args.length = 4) (h : ∀ (Q : Exit → Sl → AH → Prop), (∀ e s H, endA Try.prog [] R e s H → Q e s H) → wpC Try.prog cd79 Q (enterA args) H) : ACalls Try.prog 79 args H R :=
  ACalls.intro (by kernel_rfl) Try.func79 rfl (by kernel_rfl) sl79 hl (of_decide_eq_true (by kernel_rfl)) (by kernel_rfl) h
def ords82 : List (Nat × List (Nat × Bool)) := []
def cd82 : Cd := (.seq (.reg [⟨⟨some 8, Op.assign (Operand.const (Value.int IntKind.i64 0)), none⟩, []⟩,
  ⟨⟨some 9, Op.assign (Operand.const (Value.int IntKind.i64 0)), none⟩, []⟩]) (.seq (.reg [⟨⟨some 15, Op.move (Operand.tmp 2), none⟩, []⟩,
  ⟨⟨some 16, Op.move (Operand.tmp 1), none⟩, []⟩,
  ⟨⟨some 17, Op.binOp BinOp.sub 3 (Operand.tmp 15) (Operand.tmp 16) 3, none⟩, []⟩,
  ⟨⟨some 10, Op.assign (Operand.tmp 17), none⟩, []⟩]) (.seq (.reg [⟨⟨some 11, Op.alloc 3, none⟩, []⟩]) (.seq (.reg [⟨⟨some 18, Op.move (Operand.tmp 1), none⟩, []⟩,
  ⟨⟨some 19, Op.move (Operand.tmp 10), none⟩, []⟩,
  ⟨⟨some 20, Op.binOp BinOp.quo 3 (Operand.tmp 19) (Operand.const (Value.int IntKind.i64 4)) 3, none⟩, []⟩,
  ⟨⟨some 21, Op.binOp BinOp.mul 3 (Operand.tmp 20) (Operand.const (Value.int IntKind.i64 1)) 3, none⟩, []⟩,
  ⟨⟨some 22, Op.binOp BinOp.add 3 (Operand.tmp 18) (Operand.tmp 21) 3, none⟩, []⟩,
  ⟨⟨some 12, Op.assign (Operand.tmp 22), none⟩, []⟩]) (.seq (.reg [⟨⟨some 23, Op.move (Operand.tmp 1), none⟩, []⟩,
  ⟨⟨some 24, Op.move (Operand.tmp 10), none⟩, []⟩,
  ⟨⟨some 25, Op.binOp BinOp.quo 3 (Operand.tmp 24) (Operand.const (Value.int IntKind.i64 4)) 3, none⟩, []⟩,
  ⟨⟨some 26, Op.binOp BinOp.mul 3 (Operand.tmp 25) (Operand.const (Value.int IntKind.i64 2)) 3, none⟩, []⟩,
  ⟨⟨some 27, Op.binOp BinOp.add 3 (Operand.tmp 23) (Operand.tmp 26) 3, none⟩, []⟩,
  ⟨⟨some 13, Op.assign (Operand.tmp 27), none⟩, []⟩]) (.seq (.reg [⟨⟨some 28, Op.move (Operand.tmp 1), none⟩, []⟩,
  ⟨⟨some 29, Op.move (Operand.tmp 10), none⟩, []⟩,
  ⟨⟨some 30, Op.binOp BinOp.quo 3 (Operand.tmp 29) (Operand.const (Value.int IntKind.i64 4)) 3, none⟩, []⟩,
  ⟨⟨some 31, Op.binOp BinOp.mul 3 (Operand.tmp 30) (Operand.const (Value.int IntKind.i64 3)) 3, none⟩, []⟩,
  ⟨⟨some 32, Op.binOp BinOp.add 3 (Operand.tmp 28) (Operand.tmp 31) 3, none⟩, []⟩,
  ⟨⟨some 14, Op.assign (Operand.tmp 32), none⟩, []⟩]) (.seq (.seq (.reg [⟨⟨some 33, Op.move (Operand.tmp 10), none⟩, []⟩,
  ⟨⟨some 34, Op.binOp BinOp.geq 3 (Operand.tmp 33) (Operand.const (Value.int IntKind.i64 8)) 3, none⟩, []⟩]) (.cond (Operand.tmp 34) (.seq (.seq (.reg [⟨⟨some 35, Op.move (Operand.tmp 10), none⟩, []⟩,
  ⟨⟨some 36, Op.binOp BinOp.geq 3 (Operand.tmp 35) (Operand.const (Value.int IntKind.i64 50)) 3, none⟩, []⟩]) (.cond (Operand.tmp 36) (.seq (.reg [⟨⟨some 37, Op.move (Operand.tmp 0), none⟩, []⟩,
  ⟨⟨some 38, Op.move (Operand.tmp 12), none⟩, []⟩,
  ⟨⟨some 39, Op.move (Operand.tmp 3), none⟩, []⟩,
  ⟨⟨some 40, Op.call { callee := (Callee.value (Operand.func 98)), args := #[(Operand.tmp 37), (Operand.tmp 38), (Operand.tmp 11), (Operand.tmp 39)], argTypes := #[27, 3, 113, 45] }, none⟩, []⟩,
  ⟨⟨some 12, Op.assign (Operand.tmp 40), none⟩, []⟩]) (.seq (.reg [⟨⟨some 41, Op.move (Operand.tmp 0), none⟩, []⟩,
  ⟨⟨some 42, Op.move (Operand.tmp 13), none⟩, []⟩,
  ⟨⟨some 43, Op.move (Operand.tmp 3), none⟩, []⟩,
  ⟨⟨some 44, Op.call { callee := (Callee.value (Operand.func 98)), args := #[(Operand.tmp 41), (Operand.tmp 42), (Operand.tmp 11), (Operand.tmp 43)], argTypes := #[27, 3, 113, 45] }, none⟩, []⟩,
  ⟨⟨some 13, Op.assign (Operand.tmp 44), none⟩, []⟩]) (.reg [⟨⟨some 45, Op.move (Operand.tmp 0), none⟩, []⟩,
  ⟨⟨some 46, Op.move (Operand.tmp 14), none⟩, []⟩,
  ⟨⟨some 47, Op.move (Operand.tmp 3), none⟩, []⟩,
  ⟨⟨some 48, Op.call { callee := (Callee.value (Operand.func 98)), args := #[(Operand.tmp 45), (Operand.tmp 46), (Operand.tmp 11), (Operand.tmp 47)], argTypes := #[27, 3, 113, 45] }, none⟩, []⟩,
  ⟨⟨some 14, Op.assign (Operand.tmp 48), none⟩, []⟩]))) .skip)) (.reg [⟨⟨some 49, Op.move (Operand.tmp 0), none⟩, []⟩,
  ⟨⟨some 50, Op.move (Operand.tmp 12), none⟩, []⟩,
  ⟨⟨some 51, Op.move (Operand.tmp 13), none⟩, []⟩,
  ⟨⟨some 52, Op.move (Operand.tmp 14), none⟩, []⟩,
  ⟨⟨some 53, Op.move (Operand.tmp 3), none⟩, []⟩,
  ⟨⟨some 54, Op.call { callee := (Callee.value (Operand.func 99)), args := #[(Operand.tmp 49), (Operand.tmp 50), (Operand.tmp 51), (Operand.tmp 52), (Operand.tmp 11), (Operand.tmp 53)], argTypes := #[27, 3, 3, 3, 113, 45] }, none⟩, []⟩,
  ⟨⟨some 13, Op.assign (Operand.tmp 54), none⟩, []⟩])) .skip)) (.seq (.reg [⟨⟨some 55, Op.load 3 (Operand.tmp 11), none⟩, []⟩]) (.block 0 (.seq (.reg [⟨⟨some 58, Op.binOp BinOp.eql 3 (Operand.tmp 55) (Operand.const (Value.int IntKind.i64 0)) 3, none⟩, []⟩,
  ⟨⟨some 57, Op.assign (Operand.tmp 58), none⟩, []⟩]) (.cond (Operand.tmp 57) (.seq (.reg [⟨⟨some 59, Op.move (Operand.tmp 13), none⟩, []⟩,
  ⟨⟨some 8, Op.assign (Operand.tmp 59), none⟩, []⟩,
  ⟨⟨some 9, Op.assign (Operand.const (Value.int IntKind.i64 1)), none⟩, []⟩]) .ret) (.seq (.reg [⟨⟨some 61, Op.binOp BinOp.eql 3 (Operand.tmp 55) (Operand.const (Value.int IntKind.i64 12)) 3, none⟩, []⟩,
  ⟨⟨some 60, Op.assign (Operand.tmp 61), none⟩, []⟩]) (.cond (Operand.tmp 60) (.seq (.reg [⟨⟨some 62, Op.move (Operand.tmp 13), none⟩, []⟩,
  ⟨⟨some 8, Op.assign (Operand.tmp 62), none⟩, []⟩,
  ⟨⟨some 9, Op.assign (Operand.const (Value.int IntKind.i64 2)), none⟩, []⟩]) .ret) (.seq (.reg [⟨⟨some 56, Op.move (Operand.tmp 13), none⟩, []⟩,
  ⟨⟨some 8, Op.assign (Operand.tmp 56), none⟩, []⟩,
  ⟨⟨some 9, Op.assign (Operand.const (Value.int IntKind.i64 0)), none⟩, []⟩]) .ret))))))))))))))
theorem sl82 : slim Try.f82.ntmps ords82 (Try.f82.body.getD .skip) = some cd82 := by kernel_rfl
theorem in82 {args : List Value} {H : AH} {R : Value → AH → Prop} (hl : args.length = 4) (h : ∀ (Q : Exit → Sl → AH → Prop), (∀ e s H, endA Try.prog [ResultVar.tmp 8, ResultVar.tmp 9] R e s H → Q e s H) → wpC Try.prog cd82 Q (enterA args) H) : ACalls Try.prog 82 args H R :=
  ACalls.intro (by kernel_rfl) Try.func82 rfl (by kernel_rfl) sl82 hl (of_decide_eq_true (by kernel_rfl)) (by kernel_rfl) h
def ords68 : List (Nat × List (Nat × Bool)) := [(17, [(0, false), (1, false), (2, false), (3, false), (4, false), (5, false), (6, false), (7, false), (8, false), (9, false), (10, false), (11, false), (12, false), (13, true), (14, false), (15, false), (16, false)])]
def cd68 : Cd := (.seq (.reg [⟨⟨some 10, Op.assign (Operand.const (Value.bool true)), none⟩, []⟩]) (.seq (.reg [⟨⟨some 11, Op.assign (Operand.const (Value.bool true)), none⟩, []⟩]) (.block 0 (.loop (.block 1 (.seq (.reg [⟨⟨some 21, Op.move (Operand.tmp 2), none⟩, []⟩,
  ⟨⟨some 22, Op.move (Operand.tmp 1), none⟩, []⟩,
  ⟨⟨some 23, Op.binOp BinOp.sub 3 (Operand.tmp 21) (Operand.tmp 22) 3, none⟩, []⟩,
  ⟨⟨some 12, Op.assign (Operand.tmp 23), none⟩, []⟩]) (.seq (.seq (.reg [⟨⟨some 24, Op.move (Operand.tmp 12), none⟩, []⟩,
  ⟨⟨some 25, Op.binOp BinOp.leq 3 (Operand.tmp 24) (Operand.const (Value.int IntKind.i64 12)) 3, none⟩, []⟩]) (.cond (Operand.tmp 25) (.seq (.reg [⟨⟨some 26, Op.move (Operand.tmp 0), none⟩, []⟩,
  ⟨⟨some 27, Op.move (Operand.tmp 1), none⟩, []⟩,
  ⟨⟨some 28, Op.move (Operand.tmp 2), none⟩, []⟩,
  ⟨⟨some 29, Op.move (Operand.tmp 4), none⟩, []⟩,
  ⟨⟨some 30, Op.call { callee := (Callee.value (Operand.func 79)), args := #[(Operand.tmp 26), (Operand.tmp 27), (Operand.tmp 28), (Operand.tmp 29)], argTypes := #[27, 3, 3, 45] }, none⟩, []⟩]) .ret) .skip)) (.seq (.seq (.reg [⟨⟨some 31, Op.move (Operand.tmp 3), none⟩, []⟩,
  ⟨⟨some 32, Op.binOp BinOp.eql 3 (Operand.tmp 31) (Operand.const (Value.int IntKind.i64 0)) 3, none⟩, []⟩]) (.cond (Operand.tmp 32) (.seq (.reg [⟨⟨some 33, Op.move (Operand.tmp 0), none⟩, []⟩,
  ⟨⟨some 34, Op.move (Operand.tmp 1), none⟩, []⟩,
  ⟨⟨some 35, Op.move (Operand.tmp 2), none⟩, []⟩,
  ⟨⟨some 36, Op.move (Operand.tmp 4), none⟩, []⟩,
  ⟨⟨some 37, Op.call { callee := (Callee.value (Operand.func 80)), args := #[(Operand.tmp 33), (Operand.tmp 34), (Operand.tmp 35), (Operand.tmp 36)], argTypes := #[27, 3, 3, 45] }, none⟩, []⟩]) .ret) .skip)) (.seq (.seq (.reg [⟨⟨some 38, Op.move (Operand.tmp 10), none⟩, []⟩,
  ⟨⟨some 39, Op.unOp UnOp.not 4 (Operand.tmp 38), none⟩, []⟩]) (.cond (Operand.tmp 39) (.seq (.reg [⟨⟨some 40, Op.move (Operand.tmp 0), none⟩, []⟩,
  ⟨⟨some 41, Op.move (Operand.tmp 1), none⟩, []⟩,
  ⟨⟨some 42, Op.move (Operand.tmp 2), none⟩, []⟩,
  ⟨⟨some 43, Op.move (Operand.tmp 4), none⟩, []⟩,
  ⟨⟨some 44, Op.call { callee := (Callee.value (Operand.func 81)), args := #[(Operand.tmp 40), (Operand.tmp 41), (Operand.tmp 42), (Operand.tmp 43)], argTypes := #[27, 3, 3, 45] }, none⟩, []⟩]) (.reg [⟨⟨some 45, Op.move (Operand.tmp 3), none⟩, []⟩,
  ⟨⟨some 46, Op.binOp BinOp.sub 3 (Operand.tmp 45) (Operand.const (Value.int IntKind.i64 1)) 3, none⟩, []⟩,
  ⟨⟨some 3, Op.assign (Operand.tmp 46), none⟩, []⟩])) .skip)) (.seq (.reg [⟨⟨some 48, Op.move (Operand.tmp 0), none⟩, []⟩,
  ⟨⟨some 49, Op.move (Operand.tmp 1), none⟩, []⟩,
  ⟨⟨some 50, Op.move (Operand.tmp 2), none⟩, []⟩,
  ⟨⟨some 51, Op.move (Operand.tmp 4), none⟩, []⟩,
  ⟨⟨some 52, Op.call { callee := (Callee.value (Operand.func 82)), args := #[(Operand.tmp 48), (Operand.tmp 49), (Operand.tmp 50), (Operand.tmp 51)], argTypes := #[27, 3, 3, 45] }, none⟩, []⟩,
  ⟨⟨some 47, Op.move (Operand.tmp 52), none⟩, []⟩,
  ⟨⟨some 53, Op.extract (Operand.tmp 47) 0, none⟩, []⟩,
  ⟨⟨some 54, Op.extract (Operand.tmp 47) 1, none⟩, []⟩,
  ⟨⟨some 13, Op.assign (Operand.tmp 53), none⟩, []⟩,
  ⟨⟨some 14, Op.assign (Operand.tmp 54), none⟩, []⟩]) (.seq (.seq (.reg [⟨⟨some 55, Op.move (Operand.tmp 14), none⟩, []⟩,
  ⟨⟨some 56, Op.binOp BinOp.eql 97 (Operand.tmp 55) (Operand.const (Value.int IntKind.i64 2)) 97, none⟩, []⟩]) (.cond (Operand.tmp 56) (.seq (.reg [⟨⟨some 57, Op.move (Operand.tmp 0), none⟩, []⟩,
  ⟨⟨some 58, Op.move (Operand.tmp 1), none⟩, []⟩,
  ⟨⟨some 59, Op.move (Operand.tmp 2), none⟩, []⟩,
  ⟨⟨some 60, Op.move (Operand.tmp 4), none⟩, []⟩,
  ⟨⟨some 61, Op.call { callee := (Callee.value (Operand.func 83)), args := #[(Operand.tmp 57), (Operand.tmp 58), (Operand.tmp 59), (Operand.tmp 60)], argTypes := #[27, 3, 3, 45] }, none⟩, []⟩]) (.seq (.reg [⟨⟨some 62, Op.move (Operand.tmp 2), none⟩, []⟩,
  ⟨⟨some 63, Op.binOp BinOp.sub 3 (Operand.tmp 62) (Operand.const (Value.int IntKind.i64 1)) 3, none⟩, []⟩,
  ⟨⟨some 64, Op.move (Operand.tmp 13), none⟩, []⟩,
  ⟨⟨some 65, Op.move (Operand.tmp 1), none⟩, []⟩,
  ⟨⟨some 66, Op.binOp BinOp.sub 3 (Operand.tmp 64) (Operand.tmp 65) 3, none⟩, []⟩,
  ⟨⟨some 67, Op.binOp BinOp.sub 3 (Operand.tmp 63) (Operand.tmp 66) 3, none⟩, []⟩,
  ⟨⟨some 13, Op.assign (Operand.tmp 67), none⟩, []⟩]) (.reg [⟨⟨some 14, Op.assign (Operand.const (Value.int IntKind.i64 1)), none⟩, []⟩]))) .skip)) (.seq (.seq (.reg [⟨⟨some 68, Op.move (Operand.tmp 10), none⟩, []⟩,
  ⟨⟨some 69, Op.move (Operand.tmp 68), none⟩, []⟩,
  ⟨⟨some 70, Op.move (Operand.tmp 11), some (69, true)⟩, []⟩,
  ⟨⟨some 71, Op.pick (Operand.tmp 69) (Operand.tmp 70) (Operand.const (Value.bool false)), none⟩, []⟩,
  ⟨⟨some 72, Op.move (Operand.tmp 71), none⟩, []⟩,
  ⟨⟨some 73, Op.move (Operand.tmp 14), some (72, true)⟩, []⟩,
  ⟨⟨some 74, Op.binOp BinOp.eql 97 (Operand.tmp 73) (Operand.const (Value.int IntKind.i64 1)) 97, some (72, true)⟩, []⟩,
  ⟨⟨some 75, Op.pick (Operand.tmp 72) (Operand.tmp 74) (Operand.const (Value.bool false)), none⟩, []⟩]) (.cond (Operand.tmp 75) (.seq (.reg [⟨⟨some 76, Op.move (Operand.tmp 0), none⟩, []⟩,
  ⟨⟨some 77, Op.move (Operand.tmp 1), none⟩, []⟩,
  ⟨⟨some 78, Op.move (Operand.tmp 2), none⟩, []⟩,
  ⟨⟨some 79, Op.move (Operand.tmp 4), none⟩, []⟩,
  ⟨⟨some 80, Op.call { callee := (Callee.value (Operand.func 84)), args := #[(Operand.tmp 76), (Operand.tmp 77), (Operand.tmp 78), (Operand.tmp 79)], argTypes := #[27, 3, 3, 45] }, none⟩, []⟩]) (.cond (Operand.tmp 80) .ret .skip)) .skip)) (.seq (.seq (.reg [⟨⟨some 81, Op.move (Operand.tmp 1), none⟩, []⟩,
  ⟨⟨some 82, Op.binOp BinOp.gtr 3 (Operand.tmp 81) (Operand.const (Value.int IntKind.i64 0)) 3, none⟩, []⟩,
  ⟨⟨some 83, Op.move (Operand.tmp 82), none⟩, []⟩,
  ⟨⟨some 84, Op.move (Operand.tmp 4), some (83, true)⟩, []⟩,
  ⟨⟨some 85, Op.move (Operand.tmp 0), some (83, true)⟩, []⟩,
  ⟨⟨some 86, Op.move (Operand.tmp 1), some (83, true)⟩, []⟩,
  ⟨⟨some 87, Op.binOp BinOp.sub 3 (Operand.tmp 86) (Operand.const (Value.int IntKind.i64 1)) 3, some (83, true)⟩, []⟩,
  ⟨⟨some 88, Op.indexAddr 27 (Operand.tmp 85) (Operand.tmp 87), some (83, true)⟩, []⟩,
  ⟨⟨some 89, Op.load 25 (Operand.tmp 88), some (83, true)⟩, []⟩,
  ⟨⟨some 90, Op.move (Operand.tmp 0), some (83, true)⟩, []⟩,
  ⟨⟨some 91, Op.move (Operand.tmp 13), some (83, true)⟩, []⟩,
  ⟨⟨some 92, Op.indexAddr 27 (Operand.tmp 90) (Operand.tmp 91), some (83, true)⟩, []⟩,
  ⟨⟨some 93, Op.load 25 (Operand.tmp 92), some (83, true)⟩, []⟩,
  ⟨⟨some 94, Op.call { callee := (Callee.value (Operand.tmp 84)), args := #[(Operand.tmp 89), (Operand.tmp 93)], argTypes := #[25, 25] }, some (83, true)⟩, []⟩,
  ⟨⟨some 95, Op.binOp BinOp.lss 3 (Operand.tmp 94) (Operand.const (Value.int IntKind.i64 0)) 3, some (83, true)⟩, []⟩,
  ⟨⟨some 96, Op.unOp UnOp.not 4 (Operand.tmp 95), some (83, true)⟩, []⟩,
  ⟨⟨some 97, Op.pick (Operand.tmp 83) (Operand.tmp 96) (Operand.const (Value.bool false)), none⟩, []⟩]) (.cond (Operand.tmp 97) (.seq (.reg [⟨⟨some 98, Op.move (Operand.tmp 0), none⟩, []⟩,
  ⟨⟨some 99, Op.move (Operand.tmp 1), none⟩, []⟩,
  ⟨⟨some 100, Op.move (Operand.tmp 2), none⟩, []⟩,
  ⟨⟨some 101, Op.move (Operand.tmp 13), none⟩, []⟩,
  ⟨⟨some 102, Op.move (Operand.tmp 4), none⟩, []⟩,
  ⟨⟨some 103, Op.call { callee := (Callee.value (Operand.func 85)), args := #[(Operand.tmp 98), (Operand.tmp 99), (Operand.tmp 100), (Operand.tmp 101), (Operand.tmp 102)], argTypes := #[27, 3, 3, 3, 45] }, none⟩, []⟩,
  ⟨⟨some 15, Op.assign (Operand.tmp 103), none⟩, []⟩]) (.seq (.reg [⟨⟨some 104, Op.move (Operand.tmp 15), none⟩, []⟩,
  ⟨⟨some 1, Op.assign (Operand.tmp 104), none⟩, []⟩]) (.exit 1))) .skip)) (.seq (.reg [⟨⟨some 106, Op.move (Operand.tmp 0), none⟩, []⟩,
  ⟨⟨some 107, Op.move (Operand.tmp 1), none⟩, []⟩,
  ⟨⟨some 108, Op.move (Operand.tmp 2), none⟩, []⟩,
  ⟨⟨some 109, Op.move (Operand.tmp 13), none⟩, []⟩,
  ⟨⟨some 110, Op.move (Operand.tmp 4), none⟩, []⟩,
  ⟨⟨some 111, Op.call { callee := (Callee.value (Operand.func 86)), args := #[(Operand.tmp 106), (Operand.tmp 107), (Operand.tmp 108), (Operand.tmp 109), (Operand.tmp 110)], argTypes := #[27, 3, 3, 3, 45] }, none⟩, []⟩,
  ⟨⟨some 105, Op.move (Operand.tmp 111), none⟩, []⟩,
  ⟨⟨some 112, Op.extract (Operand.tmp 105) 0, none⟩, []⟩,
  ⟨⟨some 113, Op.extract (Operand.tmp 105) 1, none⟩, []⟩,
  ⟨⟨some 16, Op.assign (Operand.tmp 112), none⟩, []⟩,
  ⟨⟨some 17, Op.assign (Operand.tmp 113), none⟩, []⟩]) (.seq (.reg [⟨⟨some 114, Op.move (Operand.tmp 17), none⟩, []⟩,
  ⟨⟨some 11, Op.assign (Operand.tmp 114), none⟩, []⟩]) (.seq (.reg [⟨⟨some 115, Op.move (Operand.tmp 16), none⟩, []⟩,
  ⟨⟨some 116, Op.move (Operand.tmp 1), none⟩, []⟩,
  ⟨⟨some 117, Op.binOp BinOp.sub 3 (Operand.tmp 115) (Operand.tmp 116) 3, none⟩, []⟩,
  ⟨⟨some 118, Op.move (Operand.tmp 2), none⟩, []⟩,
  ⟨⟨some 119, Op.move (Operand.tmp 16), none⟩, []⟩,
  ⟨⟨some 120, Op.binOp BinOp.sub 3 (Operand.tmp 118) (Operand.tmp 119) 3, none⟩, []⟩,
  ⟨⟨some 18, Op.assign (Operand.tmp 117), none⟩, []⟩,
  ⟨⟨some 19, Op.assign (Operand.tmp 120), none⟩, []⟩]) (.seq (.reg [⟨⟨some 121, Op.move (Operand.tmp 12), none⟩, []⟩,
  ⟨⟨some 122, Op.binOp BinOp.quo 3 (Operand.tmp 121) (Operand.const (Value.int IntKind.i64 8)) 3, none⟩, []⟩,
  ⟨⟨some 20, Op.assign (Operand.tmp 122), none⟩, []⟩]) (.seq (.reg [⟨⟨some 123, Op.move (Operand.tmp 18), none⟩, []⟩,
  ⟨⟨some 124, Op.move (Operand.tmp 19), none⟩, []⟩,
  ⟨⟨some 125, Op.binOp BinOp.lss 3 (Operand.tmp 123) (Operand.tmp 124) 3, none⟩, []⟩]) (.cond (Operand.tmp 125) (.seq (.reg [⟨⟨some 126, Op.move (Operand.tmp 18), none⟩, []⟩,
  ⟨⟨some 127, Op.move (Operand.tmp 20), none⟩, []⟩,
  ⟨⟨some 128, Op.binOp BinOp.geq 3 (Operand.tmp 126) (Operand.tmp 127) 3, none⟩, []⟩,
  ⟨⟨some 10, Op.assign (Operand.tmp 128), none⟩, []⟩]) (.seq (.reg [⟨⟨some 129, Op.move (Operand.tmp 0), none⟩, []⟩,
  ⟨⟨some 130, Op.move (Operand.tmp 1), none⟩, []⟩,
  ⟨⟨some 131, Op.move (Operand.tmp 16), none⟩, []⟩,
  ⟨⟨some 132, Op.move (Operand.tmp 3), none⟩, []⟩,
  ⟨⟨some 133, Op.move (Operand.tmp 4), none⟩, []⟩,
  ⟨⟨some 134, Op.call { callee := (Callee.value (Operand.func 68)), args := #[(Operand.tmp 129), (Operand.tmp 130), (Operand.tmp 131), (Operand.tmp 132), (Operand.tmp 133)], argTypes := #[27, 3, 3, 3, 45] }, none⟩, []⟩]) (.reg [⟨⟨some 135, Op.move (Operand.tmp 16), none⟩, []⟩,
  ⟨⟨some 136, Op.binOp BinOp.add 3 (Operand.tmp 135) (Operand.const (Value.int IntKind.i64 1)) 3, none⟩, []⟩,
  ⟨⟨some 1, Op.assign (Operand.tmp 136), none⟩, []⟩]))) (.seq (.reg [⟨⟨some 137, Op.move (Operand.tmp 19), none⟩, []⟩,
  ⟨⟨some 138, Op.move (Operand.tmp 20), none⟩, []⟩,
  ⟨⟨some 139, Op.binOp BinOp.geq 3 (Operand.tmp 137) (Operand.tmp 138) 3, none⟩, []⟩,
  ⟨⟨some 10, Op.assign (Operand.tmp 139), none⟩, []⟩]) (.seq (.reg [⟨⟨some 140, Op.move (Operand.tmp 0), none⟩, []⟩,
  ⟨⟨some 141, Op.move (Operand.tmp 16), none⟩, []⟩,
  ⟨⟨some 142, Op.binOp BinOp.add 3 (Operand.tmp 141) (Operand.const (Value.int IntKind.i64 1)) 3, none⟩, []⟩,
  ⟨⟨some 143, Op.move (Operand.tmp 2), none⟩, []⟩,
  ⟨⟨some 144, Op.move (Operand.tmp 3), none⟩, []⟩,
  ⟨⟨some 145, Op.move (Operand.tmp 4), none⟩, []⟩,
  ⟨⟨some 146, Op.call { callee := (Callee.value (Operand.func 68)), args := #[(Operand.tmp 140), (Operand.tmp 142), (Operand.tmp 143), (Operand.tmp 144), (Operand.tmp 145)], argTypes := #[27, 3, 3, 3, 45] }, none⟩, []⟩]) (.reg [⟨⟨some 147, Op.move (Operand.tmp 16), none⟩, []⟩,
  ⟨⟨some 2, Op.assign (Operand.tmp 147), none⟩, []⟩]))))))))))))))))))))))
theorem sl68 : slim Try.f68.ntmps ords68 (Try.f68.body.getD .skip) = some cd68 := by kernel_rfl
theorem in68 {args : List Value} {H : AH} {R : Value → AH → Prop} (hl : args.length = 5) (h : ∀ (Q : Exit → Sl → AH → Prop), (∀ e s H, endA Try.prog [] R e s H → Q e s H) → wpC Try.prog cd68 Q (enterA args) H) : ACalls Try.prog 68 args H R :=
  ACalls.intro (by kernel_rfl) Try.func68 rfl (by kernel_rfl) sl68 hl (of_decide_eq_true (by kernel_rfl)) (by kernel_rfl) h
end Go.Proofs.Ytlcipphiflcaiaa.Ai
namespace Go.Proofs.Ytlcipphiflcaiaa.Ai
open Go Go.RowKit
set_option linter.unusedVariables false
set_option linter.unusedSimpArgs false
/-- the order of lists -/
def cmpL : List Int → List Int → Int
  | [], [] => 0
  | [], _ :: _ => -1
  | _ :: _, [] => 1
  | a :: xs, b :: ys => if cmpI a b ≠ 0 then cmpI a b else cmpL xs ys
theorem cmpL_nil (ys : List Int) : cmpL [] ys = if 0 < ys.length then -1 else 0 := by
  cases ys with
  | nil => rfl
  | cons b bs => simp [cmpL]
theorem cmpL_step (xs ys : List Int) (i : Nat) (hi : i < xs.length) : cmpL (xs.drop i) (ys.drop i) = if ys.length ≤ i then 1 else if cmpI (xs.getD i 0) (ys.getD i 0) ≠ 0 then cmpI (xs.getD i 0) (ys.getD i 0) else cmpL (xs.drop (i + 1)) (ys.drop (i + 1)) := by
  have hx : xs.getD i 0 = xs[i] := by simp [hi]
  rw [List.drop_eq_getElem_cons hi]
  by_cases hj : ys.length ≤ i
  · rw [if_pos hj, List.drop_of_length_le hj]; rfl
  · have hj' : i < ys.length := by omega
    have hy : ys.getD i 0 = ys[i] := by simp [hj']
    rw [if_neg hj, List.drop_eq_getElem_cons hj', hx, hy]; rfl
abbrev fnCmp : Value := .func (.func 55) #[] (List.toArray [])
set_option maxHeartbeats 1000000 in
theorem CmpL_c (v w : Value) (xs ys : List Int) (H : AH) (hr : Row 3 H v xs) (hr2 : Row 3 H w ys) (hlen : xs.length ≤ 1099511627776) (hlen2 : ys.length ≤ 1099511627776) :
    ACalls Try.prog 55 [v, w] H fun r H' => r = .int .i64 (cmpL xs ys) ∧ H = H' := by
  refine in55 rfl ?_
  intro Q hQ
  simp (maxSteps := 1000000) (disch := omega) only [cd55, hr.len Try.underlying25, S, S1, S2, S3, S4, S5, ST, eq_self, reduceIte, reduceCtorEq, Nat.reduceEqDiff, Nat.reduceAdd]
  refine LoopH.by (fun m s H' => ∃ i, m + i = xs.length ∧ s 0 = v ∧ s 1 = w ∧ s 9 = v ∧ s 10 = .int .i64 (xs.length : Int) ∧ s 11 = .int .i64 ((i : Nat) : Int) ∧ H = H' ∧ cmpL xs ys = cmpL (xs.drop i) (ys.drop i) ∧ (i ≤ ys.length ∨ i = 0)) xs.length ?_ ?_
  · exact ⟨0, by simp, rfl, rfl, rfl, rfl, rfl, rfl, by simp, .inr rfl⟩
  · rintro m s H' ⟨i, hm, h0, h1, h9, h10, h11, rfl, hc, hy⟩
    simp (maxSteps := 1000000) (disch := omega) only [h0, h1, h9, h10, h11, S, S1, S2, S3, S4, S5, ST, eq_self, reduceIte, reduceCtorEq, Nat.reduceEqDiff, Nat.reduceAdd]
    refine brD.intro (fun g => ?_) (fun g => ?_)
    · have hi : i < xs.length := by omega
      rw [cmpL_step xs ys i hi] at hc
      simp (maxSteps := 1000000) (disch := omega) only [h0, h1, h9, h10, h11, hr.ix Try.underlying25 cs3, hr.cell, Int.toNat_natCast, hr2.len Try.underlying25, S, S1, S2, S3, S4, S5, ST, eq_self, reduceIte, reduceCtorEq, Nat.reduceEqDiff, Nat.reduceAdd]
      refine brD.intro (fun e => ?_) (fun e => ?_)
      · simp (maxSteps := 1000000) (disch := omega) only [S, S1, S2, S3, S4, S5, ST, eq_self, reduceIte, reduceCtorEq, Nat.reduceEqDiff, Nat.reduceAdd]
        refine hQ _ _ _ ?_
        simp (maxSteps := 1000000) (disch := omega) only [S, S1, S2, S3, S4, S5, ST, eq_self, reduceIte, reduceCtorEq, Nat.reduceEqDiff, Nat.reduceAdd]
        rw [hc, if_pos (by omega)]
      · have hj : i < ys.length := by omega
        rw [if_neg (by omega)] at hc
        simp (maxSteps := 1000000) (disch := omega) only [h0, h1, h9, h10, h11, hr2.ix Try.underlying25 cs3, hr2.cell, Int.toNat_natCast, S, S1, S2, S3, S4, S5, ST, eq_self, reduceIte, reduceCtorEq, Nat.reduceEqDiff, Nat.reduceAdd]
        refine CallH.by (Compare_c _ _ H) ?_
        rintro _ _ ⟨rfl, rfl⟩
        simp (maxSteps := 1000000) (disch := omega) only [S, S1, S2, S3, S4, S5, ST, eq_self, reduceIte, reduceCtorEq, Nat.reduceEqDiff, Nat.reduceAdd]
        refine brD.intro (fun e2 => ?_) (fun e2 => ?_) <;> simp (maxSteps := 1000000) (disch := omega) only [h0, h1, h9, h10, h11, wrap64, S, S1, S2, S3, S4, S5, ST, eq_self, reduceIte, reduceCtorEq, Nat.reduceEqDiff, Nat.reduceAdd]
        · refine hQ _ _ _ ?_
          simp (maxSteps := 1000000) (disch := omega) only [S, S1, S2, S3, S4, S5, ST, eq_self, reduceIte, reduceCtorEq, Nat.reduceEqDiff, Nat.reduceAdd]
          rw [hc, if_pos e2]
        · rw [if_neg e2] at hc
          have f1 : i + 1 ≤ ys.length ∨ i + 1 = 0 := .inl hj
          refine ⟨m - 1, by omega, i + 1, ?_⟩
          (repeat' first | exact hc | exact f1 | apply And.intro) <;> first | (simp only [Value.int.injEq, true_and]; omega) | omega | rfl | assumption | (simp; done) | (simp; omega)
    · have hxe : i = xs.length := by omega
      rw [hxe, List.drop_length, cmpL_nil] at hc
      simp (maxSteps := 1000000) (disch := omega) only [h0, h1, hr.len Try.underlying25, hr2.len Try.underlying25, S, S1, S2, S3, S4, S5, ST, eq_self, reduceIte, reduceCtorEq, Nat.reduceEqDiff, Nat.reduceAdd]
      refine brD.intro (fun e => ?_) (fun e => ?_) <;> simp (maxSteps := 1000000) (disch := omega) only [S, S1, S2, S3, S4, S5, ST, eq_self, reduceIte, reduceCtorEq, Nat.reduceEqDiff, Nat.reduceAdd]
      · refine hQ _ _ _ ?_
        simp (maxSteps := 1000000) (disch := omega) only [S, S1, S2, S3, S4, S5, ST, eq_self, reduceIte, reduceCtorEq, Nat.reduceEqDiff, Nat.reduceAdd]
        rw [hc, if_pos (by simp; omega)]
      · refine hQ _ _ _ ?_
        simp (maxSteps := 1000000) (disch := omega) only [S, S1, S2, S3, S4, S5, ST, eq_self, reduceIte, reduceCtorEq, Nat.reduceEqDiff, Nat.reduceAdd]
        rw [hc, if_neg (by simp; omega)]
/-- in strict order -/
def SrtL (ls : List (List Int)) : Prop := ∀ i j, i < j → j < ls.length → 0 < cmpL (ls.getD j []) (ls.getD i [])
/-- such lists in memory -/
structure Sts (H : AH) (v : Value) (us : List Value) (ls : List (List Int)) : Prop where
  row : RowV 25 H v us
  len : us.length = ls.length
  each : ∀ i, i < ls.length → Row 3 H (us.getD i undef) (ls.getD i [])
  small : ∀ i, i < ls.length → (ls.getD i []).length ≤ 1099511627776
  bnd : ls.length ≤ 60000
  srt : SrtL ls
theorem Sts.pre {H H' : AH} {v : Value} {us : List Value} {ls : List (List Int)} (h : Sts H v us ls) (hp : H <+: H') : Sts H' v us ls := ⟨h.row.pre hp, h.len, fun i hi => (h.each i hi).pre hp, h.small, h.bnd, h.srt⟩
theorem cmpL_self : ∀ xs : List Int, cmpL xs xs = 0
  | [] => rfl
  | a :: xs => by
    have : cmpI a a = 0 := by unfold cmpI; rw [if_neg (by omega), if_neg (by omega)]
    rw [cmpL, if_neg (by rw [this]; decide)]; exact cmpL_self xs
theorem Sts.le {H : AH} {v : Value} {us : List Value} {ls : List (List Int)} (h : Sts H v us ls) {i j : Nat} (hij : i ≤ j) (hj : j < ls.length) : ¬ cmpL (ls.getD j []) (ls.getD i []) < 0 := by
  by_cases e : i = j
  · subst e; rw [cmpL_self]; omega
  · have := h.srt i j (by omega) hj; omega
section
variable {v : Value} {us : List Value} {ls : List (List Int)} {H : AH}
theorem Sts.cell (h : Sts H v us ls) {i : Nat} (hi : i < ls.length) : cellA H (rowO v) (rowK v + i) = some (us.getD i undef) := h.row.cell (by have := h.len; omega)
theorem Sts.cmp (h : Sts H v us ls) {i j : Nat} (hi : i < ls.length) (hj : j < ls.length) :
    ACalls Try.prog 55 [us.getD i undef, us.getD j undef] H fun r H' => r = .int .i64 (cmpL (ls.getD i []) (ls.getD j [])) ∧ H = H' := CmpL_c _ _ _ _ H (h.each i hi) (h.each j hj) (h.small i hi) (h.small j hj)
theorem order2_c (h : Sts H v us ls) (a b : Nat) (p : Value) (hab : a ≤ b) (hb : b < ls.length) :
    ACalls Try.prog 100 [v, .int .i64 (a : Int), .int .i64 (b : Int), p, fnCmp] H fun r H' => r = .tuple (List.toArray [.int .i64 (a : Int), .int .i64 (b : Int)]) ∧ H = H' := by
  refine in100 rfl ?_
  intro Q hQ
  have hl := h.len
  have hca := h.cell (show a < ls.length by omega)
  have hcb := h.cell hb
  simp (maxSteps := 1000000) (disch := omega) only [cd100, h.row.ix Try.underlying27 cs25, Int.toNat_natCast, hca, hcb, S, S1, S2, S3, S4, S5, ST, eq_self, reduceIte, reduceCtorEq, Nat.reduceEqDiff, Nat.reduceAdd]
  refine CallH.by (h.cmp hb (show a < ls.length by omega)) ?_
  rintro _ _ ⟨rfl, rfl⟩
  simp (maxSteps := 1000000) (disch := omega) only [S, S1, S2, S3, S4, S5, ST, eq_self, reduceIte, reduceCtorEq, Nat.reduceEqDiff, Nat.reduceAdd]
  refine brD.intro (fun e => absurd e (h.le hab hb)) (fun e => ?_)
  simp (maxSteps := 1000000) (disch := omega) only [S, S1, S2, S3, S4, S5, ST, eq_self, reduceIte, reduceCtorEq, Nat.reduceEqDiff, Nat.reduceAdd]
  refine hQ _ _ _ ?_
  simp (maxSteps := 1000000) (disch := omega) only [S, S1, S2, S3, S4, S5, ST, eq_self, reduceIte, reduceCtorEq, Nat.reduceEqDiff, Nat.reduceAdd]
theorem median_c (h : Sts H v us ls) (a b c : Nat) (p : Value) (hab : a ≤ b) (hbc : b ≤ c) (hc : c < ls.length) :
    ACalls Try.prog 99 [v, .int .i64 (a : Int), .int .i64 (b : Int), .int .i64 (c : Int), p, fnCmp] H fun r H' => r = .int .i64 (b : Int) ∧ H = H' := by
  refine in99 rfl ?_
  intro Q hQ
  simp (maxSteps := 1000000) (disch := omega) only [cd99, S, S1, S2, S3, S4, S5, ST, eq_self, reduceIte, reduceCtorEq, Nat.reduceEqDiff, Nat.reduceAdd]
  refine CallH.by (order2_c h a b p hab (by omega)) ?_
  rintro _ _ ⟨rfl, rfl⟩
  simp (maxSteps := 1000000) (disch := omega) only [S, S1, S2, S3, S4, S5, ST, eq_self, reduceIte, reduceCtorEq, Nat.reduceEqDiff, Nat.reduceAdd]
  refine CallH.by (order2_c h b c p hbc hc) ?_
  rintro _ _ ⟨rfl, rfl⟩
  simp (maxSteps := 1000000) (disch := omega) only [S, S1, S2, S3, S4, S5, ST, eq_self, reduceIte, reduceCtorEq, Nat.reduceEqDiff, Nat.reduceAdd]
  refine CallH.by (order2_c h a b p hab (by omega)) ?_
  rintro _ _ ⟨rfl, rfl⟩
  simp (maxSteps := 1000000) (disch := omega) only [S, S1, S2, S3, S4, S5, ST, eq_self, reduceIte, reduceCtorEq, Nat.reduceEqDiff, Nat.reduceAdd]
  refine hQ _ _ _ ?_
  simp (maxSteps := 1000000) (disch := omega) only [S, S1, S2, S3, S4, S5, ST, eq_self, reduceIte, reduceCtorEq, Nat.reduceEqDiff, Nat.reduceAdd]
theorem medianAdj_c (h : Sts H v us ls) (a : Nat) (p : Value) (ha : 1 ≤ a) (hc : a + 1 < ls.length) :
    ACalls Try.prog 98 [v, .int .i64 (a : Int), p, fnCmp] H fun r H' => r = .int .i64 (a : Int) ∧ H = H' := by
  refine in98 rfl ?_
  intro Q hQ
  have hb := h.bnd
  have e1 : (a : Int) - 1 = ((a - 1 : Nat) : Int) := by omega
  have e2 : (a : Int) + 1 = ((a + 1 : Nat) : Int) := by omega
  simp (maxSteps := 1000000) (disch := omega) only [cd98, wrap64, e1, e2, S, S1, S2, S3, S4, S5, ST, eq_self, reduceIte, reduceCtorEq, Nat.reduceEqDiff, Nat.reduceAdd]
  refine CallH.by (median_c h (a - 1) a (a + 1) p (by omega) (by omega) hc) ?_
  rintro _ _ ⟨rfl, rfl⟩
  simp (maxSteps := 1000000) (disch := omega) only [S, S1, S2, S3, S4, S5, ST, eq_self, reduceIte, reduceCtorEq, Nat.reduceEqDiff, Nat.reduceAdd]
  refine hQ _ _ _ ?_
  simp (maxSteps := 1000000) (disch := omega) only [S, S1, S2, S3, S4, S5, ST, eq_self, reduceIte, reduceCtorEq, Nat.reduceEqDiff, Nat.reduceAdd]
set_option maxRecDepth 20000 in
set_option maxHeartbeats 1000000 in
theorem partialIns_c (h : Sts H v us ls) (h1 : 1 ≤ ls.length) :
    ACalls Try.prog 84 [v, .int .i64 0, .int .i64 (ls.length : Int), fnCmp] H fun r H' => r = .bool true ∧ H = H' := by
  refine in84 rfl ?_
  intro Q hQ
  have hb := h.bnd
  have hl := h.len
  simp (maxSteps := 1000000) (disch := omega) only [cd84, wrap64, S, S1, S2, S3, S4, S5, ST, eq_self, reduceIte, reduceCtorEq, Nat.reduceEqDiff, Nat.reduceAdd]
  refine LoopH.by (fun m s H' => s 0 = v ∧ s 2 = .int .i64 (ls.length : Int) ∧ s 3 = fnCmp ∧ s 9 = .int .i64 1 ∧ s 10 = .int .i64 0 ∧ H = H') 0 ?_ ?_
  · exact ⟨rfl, rfl, rfl, rfl, rfl, rfl⟩
  · rintro m s H' ⟨h0, h2, h3, h9, h10, rfl⟩
    simp (maxSteps := 1000000) (disch := omega) only [h0, h2, h3, h9, h10, S, S1, S2, S3, S4, S5, ST, eq_self, reduceIte, reduceCtorEq, Nat.reduceEqDiff, Nat.reduceAdd]
    refine brD.intro (fun _ => ?_) (fun g => absurd (by decide) g)
    simp (maxSteps := 1000000) (disch := omega) only [h0, h2, h3, h9, h10, S, S1, S2, S3, S4, S5, ST, eq_self, reduceIte, reduceCtorEq, Nat.reduceEqDiff, Nat.reduceAdd]
    refine LoopH.by (fun m' s' H' => ∃ i, m' + i = ls.length ∧ 1 ≤ i ∧ s' 0 = v ∧ s' 2 = .int .i64 (ls.length : Int) ∧ s' 3 = fnCmp ∧ s' 9 = .int .i64 ((i : Nat) : Int) ∧ H = H') (ls.length - 1) ?_ ?_
    · exact ⟨1, by omega, by omega, by simp [S, S1, S2, S3, S4, S5, ST, eq_self, reduceIte, reduceCtorEq, Nat.reduceEqDiff, Nat.reduceAdd, h0], by simp [S, S1, S2, S3, S4, S5, ST, eq_self, reduceIte, reduceCtorEq, Nat.reduceEqDiff, Nat.reduceAdd, h2], by simp [S, S1, S2, S3, S4, S5, ST, eq_self, reduceIte, reduceCtorEq, Nat.reduceEqDiff, Nat.reduceAdd, h3], by simp [S, S1, S2, S3, S4, S5, ST, eq_self, reduceIte, reduceCtorEq, Nat.reduceEqDiff, Nat.reduceAdd, h9], rfl⟩
    · rintro m' s' H' ⟨i, hm, hi1, g0, g2, g3, g9, rfl⟩
      have e1 : (i : Int) - 1 = ((i - 1 : Nat) : Int) := by omega
      simp (maxSteps := 1000000) (disch := omega) only [g0, g2, g3, g9, S, S1, S2, S3, S4, S5, ST, eq_self, reduceIte, reduceCtorEq, Nat.reduceEqDiff, Nat.reduceAdd]
      refine brD.intro (fun g => ?_) (fun g => ?_)
      · have hi : i < ls.length := by omega
        have hc1 := h.cell hi
        have hc2 := h.cell (show i - 1 < ls.length by omega)
        simp (maxSteps := 1000000) (disch := omega) only [g, g0, g2, g3, g9, wrap64, e1, h.row.ix Try.underlying27 cs25, Int.toNat_natCast, hc1, hc2, S, S1, S2, S3, S4, S5, ST, eq_self, reduceIte, reduceCtorEq, Nat.reduceEqDiff, Nat.reduceAdd]
        refine CallH.by (h.cmp hi (show i - 1 < ls.length by omega)) ?_
        rintro _ _ ⟨rfl, rfl⟩
        simp (maxSteps := 1000000) (disch := omega) only [g, S, S1, S2, S3, S4, S5, ST, eq_self, reduceIte, reduceCtorEq, Nat.reduceEqDiff, Nat.reduceAdd]
        refine brD.intro (fun e => absurd e (h.le (by omega) hi)) (fun e => ?_)
        simp (maxSteps := 1000000) (disch := omega) only [g, e, g0, g2, g3, g9, wrap64, S, S1, S2, S3, S4, S5, ST, eq_self, reduceIte, reduceCtorEq, Nat.reduceEqDiff, Nat.reduceAdd]
        refine ⟨m' - 1, by omega, i + 1, ?_⟩
        (repeat' apply And.intro) <;> first | (simp only [Value.int.injEq, true_and]; omega) | omega | rfl | assumption | (simp; done) | (simp; omega)
      · have hi : i = ls.length := by omega
        subst hi
        simp (maxSteps := 1000000) (disch := omega) only [g, g0, g2, g3, g9, S, S1, S2, S3, S4, S5, ST, eq_self, reduceIte, reduceCtorEq, Nat.reduceEqDiff, Nat.reduceAdd]
        refine hQ _ _ _ ?_
        simp (maxSteps := 1000000) (disch := omega) only [S, S1, S2, S3, S4, S5, ST, eq_self, reduceIte, reduceCtorEq, Nat.reduceEqDiff, Nat.reduceAdd]
set_option maxRecDepth 20000 in
set_option maxHeartbeats 1000000 in
theorem insCmp_c (h : Sts H v us ls) :
    ACalls Try.prog 79 [v, .int .i64 0, .int .i64 (ls.length : Int), fnCmp] H fun r H' => H = H' := by
  refine in79 rfl ?_
  intro Q hQ
  have hb := h.bnd
  have hl := h.len
  simp (maxSteps := 1000000) (disch := omega) only [cd79, wrap64, S, S1, S2, S3, S4, S5, ST, eq_self, reduceIte, reduceCtorEq, Nat.reduceEqDiff, Nat.reduceAdd]
  refine LoopH.by (fun m s H' => ∃ i, m + i = ls.length + 1 ∧ 1 ≤ i ∧ s 0 = v ∧ s 1 = .int .i64 0 ∧ s 2 = .int .i64 (ls.length : Int) ∧ s 3 = fnCmp ∧ s 8 = .int .i64 ((i : Nat) : Int) ∧ H = H') ls.length ?_ ?_
  · exact ⟨1, by omega, by omega, rfl, rfl, rfl, rfl, rfl, rfl⟩
  · rintro m s H' ⟨i, hm, hi1, h0, h1, h2, h3, h8, rfl⟩
    simp (maxSteps := 1000000) (disch := omega) only [h0, h1, h2, h3, h8, S, S1, S2, S3, S4, S5, ST, eq_self, reduceIte, reduceCtorEq, Nat.reduceEqDiff, Nat.reduceAdd]
    refine brD.intro (fun g => ?_) (fun g => ?_)
    · have hi : i < ls.length := by omega
      have e1 : (i : Int) - 1 = ((i - 1 : Nat) : Int) := by omega
      have hc1 := h.cell hi
      have hc2 := h.cell (show i - 1 < ls.length by omega)
      simp (maxSteps := 1000000) (disch := omega) only [h0, h1, h2, h3, h8, S, S1, S2, S3, S4, S5, ST, eq_self, reduceIte, reduceCtorEq, Nat.reduceEqDiff, Nat.reduceAdd]
      refine LoopH.by (fun m' s' H' => s' 0 = v ∧ s' 1 = .int .i64 0 ∧ s' 2 = .int .i64 (ls.length : Int) ∧ s' 3 = fnCmp ∧ s' 8 = .int .i64 ((i : Nat) : Int) ∧ s' 9 = .int .i64 ((i : Nat) : Int) ∧ H = H') 0 ?_ ?_
      · simp only [S, S1, S2, S3, S4, S5, ST, eq_self, reduceIte, reduceCtorEq, Nat.reduceEqDiff, Nat.reduceAdd, h0, h1, h2, h3, h8]
      · rintro m' s' H' ⟨g0, g1, g2, g3, g8, g9, rfl⟩
        have hgt : (i : Int) > 0 := by omega
        simp (maxSteps := 1000000) (disch := omega) only [g0, g1, g2, g3, g8, g9, S, S1, S2, S3, S4, S5, ST, eq_self, reduceIte, reduceCtorEq, Nat.reduceEqDiff, Nat.reduceAdd]
        refine brD.intro (fun q => ?_) (fun q => absurd hgt q)
        simp (maxSteps := 1000000) (disch := omega) only [q, g0, g1, g2, g3, g8, g9, wrap64, e1, h.row.ix Try.underlying27 cs25, Int.toNat_natCast, hc1, hc2, S, S1, S2, S3, S4, S5, ST, eq_self, reduceIte, reduceCtorEq, Nat.reduceEqDiff, Nat.reduceAdd]
        refine CallH.by (h.cmp hi (show i - 1 < ls.length by omega)) ?_
        rintro _ _ ⟨rfl, rfl⟩
        simp (maxSteps := 1000000) (disch := omega) only [q, S, S1, S2, S3, S4, S5, ST, eq_self, reduceIte, reduceCtorEq, Nat.reduceEqDiff, Nat.reduceAdd]
        refine brD.intro (fun e => absurd e (h.le (by omega) hi)) (fun e => ?_)
        simp (maxSteps := 1000000) (disch := omega) only [q, e, g0, g1, g2, g3, g8, g9, wrap64, S, S1, S2, S3, S4, S5, ST, eq_self, reduceIte, reduceCtorEq, Nat.reduceEqDiff, Nat.reduceAdd]
        refine ⟨m - 1, by omega, i + 1, ?_⟩
        (repeat' apply And.intro) <;> first | (simp only [Value.int.injEq, true_and]; omega) | omega | rfl | assumption | (simp; done) | (simp; omega)
    · simp (maxSteps := 1000000) (disch := omega) only [S, S1, S2, S3, S4, S5, ST, eq_self, reduceIte, reduceCtorEq, Nat.reduceEqDiff, Nat.reduceAdd]
      refine hQ _ _ _ ?_
      simp (maxSteps := 1000000) (disch := omega) only [S, S1, S2, S3, S4, S5, ST, eq_self, reduceIte, reduceCtorEq, Nat.reduceEqDiff, Nat.reduceAdd]
theorem alloc_int (H : AH) : allocA Try.prog 3 H = some (.pointer (some ⟨H.length, 0, none⟩), H ++ [.cells [.int .i64 0] 3 false]) := by kernel_rfl
set_option maxRecDepth 20000 in
set_option maxHeartbeats 1000000 in
theorem choosePivot_c (h : Sts H v us ls) (h1 : 13 ≤ ls.length) :
    ACalls Try.prog 82 [v, .int .i64 0, .int .i64 (ls.length : Int), fnCmp] H fun r H' => (∃ j : Int, r = .tuple (List.toArray [.int .i64 j, .int .i64 1])) ∧ H <+: H' := by
  refine in82 rfl ?_
  intro Q hQ
  have hb := h.bnd
  have hl := h.len
  obtain ⟨q, hqd⟩ : ∃ q, ls.length / 4 = q := ⟨_, rfl⟩
  have hq : IntKind.i64.wrap ((ls.length : Int).tdiv 4) = (q : Int) := by
    rw [Int.tdiv_eq_ediv_of_nonneg (by omega), wrap64 (by omega) (by omega)]
    omega
  have e1 : (0 : Int) + (q : Int) * 1 = (q : Int) := by omega
  have e2 : (0 : Int) + (q : Int) * 2 = ((2 * q : Nat) : Int) := by omega
  have e3 : (0 : Int) + (q : Int) * 3 = ((3 * q : Nat) : Int) := by omega
  have e0 : (ls.length : Int) - 0 = (ls.length : Int) := by omega
  simp (maxSteps := 1000000) (disch := omega) only [cd82, alloc_int, wrap64, e0, hq, e1, e2, e3, S, S1, S2, S3, S4, S5, ST, eq_self, reduceIte, reduceCtorEq, Nat.reduceEqDiff, Nat.reduceAdd]
  generalize hA : H ++ [AObj.cells [.int .i64 0] 3 false] = A
  have pA : H <+: A := by rw [← hA]; exact List.prefix_append _ _
  have cA : A[H.length]? = some (.cells [.int .i64 0] 3 false) := by rw [← hA]; exact at_new ..
  have hA2 := h.pre pA
  refine brD.intro (fun g => ?_) (fun g => absurd (show (ls.length : Int) ≥ 8 by omega) g)
  simp (maxSteps := 1000000) (disch := omega) only [S, S1, S2, S3, S4, S5, ST, eq_self, reduceIte, reduceCtorEq, Nat.reduceEqDiff, Nat.reduceAdd]
  refine brD.intro (fun g2 => ?_) (fun g2 => ?_)
  · simp (maxSteps := 1000000) (disch := omega) only [S, S1, S2, S3, S4, S5, ST, eq_self, reduceIte, reduceCtorEq, Nat.reduceEqDiff, Nat.reduceAdd]
    refine CallH.by (medianAdj_c hA2 q _ (by omega) (by omega)) ?_
    rintro _ _ ⟨rfl, rfl⟩
    simp (maxSteps := 1000000) (disch := omega) only [S, S1, S2, S3, S4, S5, ST, eq_self, reduceIte, reduceCtorEq, Nat.reduceEqDiff, Nat.reduceAdd]
    refine CallH.by (medianAdj_c hA2 (2 * q) _ (by omega) (by omega)) ?_
    rintro _ _ ⟨rfl, rfl⟩
    simp (maxSteps := 1000000) (disch := omega) only [S, S1, S2, S3, S4, S5, ST, eq_self, reduceIte, reduceCtorEq, Nat.reduceEqDiff, Nat.reduceAdd]
    refine CallH.by (medianAdj_c hA2 (3 * q) _ (by omega) (by omega)) ?_
    rintro _ _ ⟨rfl, rfl⟩
    simp (maxSteps := 1000000) (disch := omega) only [S, S1, S2, S3, S4, S5, ST, eq_self, reduceIte, reduceCtorEq, Nat.reduceEqDiff, Nat.reduceAdd]
    refine CallH.by (median_c hA2 q (2 * q) (3 * q) _ (by omega) (by omega) (by omega)) ?_
    rintro _ _ ⟨rfl, rfl⟩
    simp (maxSteps := 1000000) (disch := omega) only [cell_of cA, S, S1, S2, S3, S4, S5, ST, eq_self, reduceIte, reduceCtorEq, Nat.reduceEqDiff, Nat.reduceAdd]
    first
      | (refine brD.intro (fun _ => ?_) (fun g3 => absurd rfl g3)
         simp (maxSteps := 1000000) (disch := omega) only [S, S1, S2, S3, S4, S5, ST, eq_self, reduceIte, reduceCtorEq, Nat.reduceEqDiff, Nat.reduceAdd])
      | skip
    refine hQ _ _ _ ?_
    simp (maxSteps := 1000000) (disch := omega) only [S, S1, S2, S3, S4, S5, ST, eq_self, reduceIte, reduceCtorEq, Nat.reduceEqDiff, Nat.reduceAdd]
    exact ⟨⟨_, rfl⟩, pA⟩
  · simp (maxSteps := 1000000) (disch := omega) only [S, S1, S2, S3, S4, S5, ST, eq_self, reduceIte, reduceCtorEq, Nat.reduceEqDiff, Nat.reduceAdd]
    refine CallH.by (median_c hA2 q (2 * q) (3 * q) _ (by omega) (by omega) (by omega)) ?_
    rintro _ _ ⟨rfl, rfl⟩
    simp (maxSteps := 1000000) (disch := omega) only [cell_of cA, S, S1, S2, S3, S4, S5, ST, eq_self, reduceIte, reduceCtorEq, Nat.reduceEqDiff, Nat.reduceAdd]
    first
      | (refine brD.intro (fun _ => ?_) (fun g3 => absurd rfl g3)
         simp (maxSteps := 1000000) (disch := omega) only [S, S1, S2, S3, S4, S5, ST, eq_self, reduceIte, reduceCtorEq, Nat.reduceEqDiff, Nat.reduceAdd])
      | skip
    refine hQ _ _ _ ?_
    simp (maxSteps := 1000000) (disch := omega) only [S, S1, S2, S3, S4, S5, ST, eq_self, reduceIte, reduceCtorEq, Nat.reduceEqDiff, Nat.reduceAdd]
    exact ⟨⟨_, rfl⟩, pA⟩
set_option maxRecDepth 20000 in
set_option maxHeartbeats 1000000 in
theorem pdqCmp_c (h : Sts H v us ls) (lim : Int) (hlim : lim ≠ 0 ∨ ls.length ≤ 12) :
    ACalls Try.prog 68 [v, .int .i64 0, .int .i64 (ls.length : Int), .int .i64 lim, fnCmp] H fun r H' => H <+: H' := by
  refine in68 rfl ?_
  intro Q hQ
  have hb := h.bnd
  have e0 : (ls.length : Int) - 0 = (ls.length : Int) := by omega
  simp (maxSteps := 1000000) (disch := omega) only [cd68, S, S1, S2, S3, S4, S5, ST, eq_self, reduceIte, reduceCtorEq, Nat.reduceEqDiff, Nat.reduceAdd]
  refine LoopH.by (fun m s H' => s 0 = v ∧ s 1 = .int .i64 0 ∧ s 2 = .int .i64 (ls.length : Int) ∧ s 3 = .int .i64 lim ∧ s 4 = fnCmp ∧ s 10 = .bool true ∧ s 11 = .bool true ∧ H = H') 0 ?_ ?_
  · exact ⟨rfl, rfl, rfl, rfl, rfl, rfl, rfl, rfl⟩
  · rintro m s H' ⟨h0, h1, h2, h3, h4, h10, h11, rfl⟩
    simp (maxSteps := 1000000) (disch := omega) only [h0, h1, h2, h3, h4, h10, h11, wrap64, e0, S, S1, S2, S3, S4, S5, ST, eq_self, reduceIte, reduceCtorEq, Nat.reduceEqDiff, Nat.reduceAdd]
    refine brD.intro (fun g => ?_) (fun g => ?_)
    · simp (maxSteps := 1000000) (disch := omega) only [h0, h1, h2, h3, h4, h10, h11, S, S1, S2, S3, S4, S5, ST, eq_self, reduceIte, reduceCtorEq, Nat.reduceEqDiff, Nat.reduceAdd]
      refine CallH.by (insCmp_c h) ?_
      rintro _ _ rfl
      simp (maxSteps := 1000000) (disch := omega) only [S, S1, S2, S3, S4, S5, ST, eq_self, reduceIte, reduceCtorEq, Nat.reduceEqDiff, Nat.reduceAdd]
      refine hQ _ _ _ ?_
      simp (maxSteps := 1000000) (disch := omega) only [S, S1, S2, S3, S4, S5, ST, eq_self, reduceIte, reduceCtorEq, Nat.reduceEqDiff, Nat.reduceAdd]
      exact List.prefix_refl _
    · have hlim' : lim ≠ 0 := hlim.resolve_right (by omega)
      simp (maxSteps := 1000000) (disch := omega) only [h0, h1, h2, h3, h4, h10, h11, S, S1, S2, S3, S4, S5, ST, eq_self, reduceIte, reduceCtorEq, Nat.reduceEqDiff, Nat.reduceAdd]
      refine brD.intro (fun g2 => absurd g2 hlim') (fun g2 => ?_)
      simp (maxSteps := 1000000) (disch := omega) only [h0, h1, h2, h3, h4, h10, h11, S, S1, S2, S3, S4, S5, ST, eq_self, reduceIte, reduceCtorEq, Nat.reduceEqDiff, Nat.reduceAdd]
      refine CallH.by (choosePivot_c h (by omega)) ?_
      rintro _ A ⟨⟨j, rfl⟩, pA⟩
      simp (maxSteps := 1000000) (disch := omega) only [h0, h1, h2, h3, h4, h10, h11, S, S1, S2, S3, S4, S5, ST, eq_self, reduceIte, reduceCtorEq, Nat.reduceEqDiff, Nat.reduceAdd]
      refine brD.intro (fun g3 => absurd g3 (by decide)) (fun g3 => ?_)
      simp (maxSteps := 1000000) (disch := omega) only [h0, h1, h2, h3, h4, h10, h11, S, S1, S2, S3, S4, S5, ST, eq_self, reduceIte, reduceCtorEq, Nat.reduceEqDiff, Nat.reduceAdd]
      refine CallH.by (partialIns_c (h.pre pA) (by omega)) ?_
      rintro _ _ ⟨rfl, rfl⟩
      simp (maxSteps := 1000000) (disch := omega) only [S, S1, S2, S3, S4, S5, ST, eq_self, reduceIte, reduceCtorEq, Nat.reduceEqDiff, Nat.reduceAdd]
      refine hQ _ _ _ ?_
      simp (maxSteps := 1000000) (disch := omega) only [S, S1, S2, S3, S4, S5, ST, eq_self, reduceIte, reduceCtorEq, Nat.reduceEqDiff, Nat.reduceAdd]
      exact pA
end
end Go.Proofs.Ytlcipphiflcaiaa.Ai
namespace Go.Proofs.Ytlcipphiflcaiaa.Ai
open Go
def ords54 : List (Nat × List (Nat × Bool)) := []
def cd54 : Cd := (.seq (.reg [⟨⟨some 5, Op.move (Operand.tmp 0), none⟩, []⟩,
  ⟨⟨some 6, Op.call { callee := (Callee.builtin Builtin.len), args := #[(Operand.tmp 5)], argTypes := #[27] }, none⟩, []⟩,
  ⟨⟨some 4, Op.assign (Operand.tmp 6), none⟩, []⟩]) (.reg [⟨⟨some 7, Op.move (Operand.tmp 0), none⟩, []⟩,
  ⟨⟨some 8, Op.move (Operand.tmp 4), none⟩, []⟩,
  ⟨⟨some 9, Op.move (Operand.tmp 4), none⟩, []⟩,
  ⟨⟨some 10, Op.convert 3 76 (Operand.tmp 9), none⟩, []⟩,
  ⟨⟨some 11, Op.call { callee := (Callee.value (Operand.func 69)), args := #[(Operand.tmp 10)], argTypes := #[76] }, none⟩, []⟩,
  ⟨⟨some 12, Op.move (Operand.tmp 1), none⟩, []⟩,
  ⟨⟨some 13, Op.call { callee := (Callee.value (Operand.func 68)), args := #[(Operand.tmp 7), (Operand.const (Value.int IntKind.i64 0)), (Operand.tmp 8), (Operand.tmp 11), (Operand.tmp 12)], argTypes := #[27, 3, 3, 3, 45] }, none⟩, []⟩]))
theorem sl54 : slim Try.f54.ntmps ords54 (Try.f54.body.getD .skip) = some cd54 := by kernel_rfl
theorem in54 {args : List Value} {H : AH} {R : Value → AH → Prop} (hl : args.length = 2) (h : ∀ (Q : Exit → Sl → AH → Prop), (∀ e s H, endA Try.prog [] R e s H → Q e s H) → wpC Try.prog cd54 Q (enterA args) H) : ACalls Try.prog 54 args H R :=
  ACalls.intro (by kernel_rfl) Try.func54 rfl (by kernel_rfl) sl54 hl (of_decide_eq_true (by kernel_rfl)) (by kernel_rfl) h
end Go.Proofs.Ytlcipphiflcaiaa.Ai
namespace Go.Proofs.Ytlcipphiflcaiaa.Ai
open Go Go.RowKit
set_option linter.unusedVariables false
set_option linter.unusedSimpArgs false
theorem str_at {P : Program} {t : TypeId} (hu : P.underlying t = some .string) (s : ByteArray) (hz : s.size = 256) (hp : ∀ i : Fin 256, 0 < i.1 → 1 ≤ (s.data.getD i.1 0).toNat) (k : IntKind) (n : Nat) (h0 : 0 < n) (h1 : n < 256) : ∃ b : Nat, 1 ≤ b ∧ b < 256 ∧ indexA P t (.string s) (.int k (n : Int)) = some (.int .u8 (b : Int)) := by
  have hl : n < s.data.size := by have : s.data.size = 256 := hz; omega
  have hlt : n < s.size := by omega
  have e1 : s[(n : Int).toNat]? = some s[n] := by rw [Int.toNat_natCast]; simp [hlt]
  have e2 := hp ⟨n, h1⟩ h0
  have e3 : s.data.getD n 0 = s[n] := by
    rw [Array.getD_eq_getD_getElem?, Array.getElem?_eq_getElem hl]; rfl
  refine ⟨s[n].toNat, ?_, UInt8.toNat_lt _, ?_⟩
  · rw [← e3]; exact e2
  · simp only [indexA, hu, if_pos (show (0 : Int) ≤ n by omega), e1]
set_option maxRecDepth 20000 in
theorem Len64b_c (n : Nat) (H : AH) (h0 : 0 < n) (hn : n < 65536) : ACalls Try.prog 88 [.int .u64 (n : Int)] H fun r H' => (∃ k : Int, r = .int .i64 k ∧ 1 ≤ k) ∧ H = H' := by
  refine in88 rfl ?_
  intro Q hQ
  have k8 : binA Try.prog .shr 106 (.int .u64 (n : Int)) (.int .u64 8) = some (.int .u64 ((n / 256 : Nat) : Int)) := by
    simp only [binA, shiftA]
    rw [if_pos (.inr trivial), if_neg (by decide)]
    congr 2
    have : (2 ^ min (8 : Int).toNat IntKind.u64.bits : Int) = 256 := by decide
    rw [this, Int.fdiv_eq_ediv_of_nonneg _ (by decide)]
    omega
  simp (maxSteps := 1000000) (disch := omega) only [cd88, S, S1, S2, S3, S4, S5, ST, eq_self, reduceIte, reduceCtorEq, Nat.reduceEqDiff, Nat.reduceAdd]
  refine brD.intro (fun h => absurd h (by omega)) (fun _ => ?_)
  simp (maxSteps := 1000000) (disch := omega) only [S, S1, S2, S3, S4, S5, ST, eq_self, reduceIte, reduceCtorEq, Nat.reduceEqDiff, Nat.reduceAdd]
  refine brD.intro (fun h => absurd h (by omega)) (fun _ => ?_)
  simp (maxSteps := 1000000) (disch := omega) only [S, S1, S2, S3, S4, S5, ST, eq_self, reduceIte, reduceCtorEq, Nat.reduceEqDiff, Nat.reduceAdd]
  refine brD.intro (fun h => ?_) (fun h => ?_)
  · have hw : IntKind.u8.wrap ((n / 256 : Nat) : Int) = ((n / 256 : Nat) : Int) := wrapU8 (by omega) (by omega)
    simp (maxSteps := 1000000) (disch := omega) only [k8, hw, wrap64, S, S1, S2, S3, S4, S5, ST, eq_self, reduceIte, reduceCtorEq, Nat.reduceEqDiff, Nat.reduceAdd]
    generalize hs : (ByteArray.mk _) = s
    have hz : s.size = 256 := by rw [← hs]; rfl
    have hp : ∀ i : Fin 256, 0 < i.1 → 1 ≤ (s.data.getD i.1 0).toNat := by rw [← hs]; decide +kernel
    obtain ⟨b, hb1, hb2, hb⟩ := str_at (P := Try.prog) Try.underlying9 s hz hp .u8 (n / 256) (by omega) (by omega)
    simp (maxSteps := 1000000) (disch := omega) only [hb, wrap64, S, S1, S2, S3, S4, S5, ST, eq_self, reduceIte, reduceCtorEq, Nat.reduceEqDiff, Nat.reduceAdd]
    refine hQ _ _ _ ?_
    simp (maxSteps := 1000000) (disch := omega) only [S, S1, S2, S3, S4, S5, ST, eq_self, reduceIte, reduceCtorEq, Nat.reduceEqDiff, Nat.reduceAdd]
    exact ⟨_, rfl, by omega⟩
  · have hw : IntKind.u8.wrap (n : Int) = (n : Int) := wrapU8 (by omega) (by omega)
    simp (maxSteps := 1000000) (disch := omega) only [hw, wrap64, S, S1, S2, S3, S4, S5, ST, eq_self, reduceIte, reduceCtorEq, Nat.reduceEqDiff, Nat.reduceAdd]
    generalize hs : (ByteArray.mk _) = s
    have hz : s.size = 256 := by rw [← hs]; rfl
    have hp : ∀ i : Fin 256, 0 < i.1 → 1 ≤ (s.data.getD i.1 0).toNat := by rw [← hs]; decide +kernel
    obtain ⟨b, hb1, hb2, hb⟩ := str_at (P := Try.prog) Try.underlying9 s hz hp .u8 n (by omega) (by omega)
    simp (maxSteps := 1000000) (disch := omega) only [hb, wrap64, S, S1, S2, S3, S4, S5, ST, eq_self, reduceIte, reduceCtorEq, Nat.reduceEqDiff, Nat.reduceAdd]
    refine hQ _ _ _ ?_
    simp (maxSteps := 1000000) (disch := omega) only [S, S1, S2, S3, S4, S5, ST, eq_self, reduceIte, reduceCtorEq, Nat.reduceEqDiff, Nat.reduceAdd]
    exact ⟨_, rfl, by omega⟩
theorem Lenb_c (n : Nat) (H : AH) (h0 : 0 < n) (hn : n < 65536) : ACalls Try.prog 69 [.int .u64 (n : Int)] H fun r H' => (∃ k : Int, r = .int .i64 k ∧ 1 ≤ k) ∧ H = H' := by
  refine in69 rfl ?_
  intro Q hQ
  simp (maxSteps := 1000000) (disch := omega) only [cd69, S, S1, S2, S3, S4, S5, ST, eq_self, reduceIte, reduceCtorEq, Nat.reduceEqDiff, Nat.reduceAdd]
  refine CallH.by (Len64b_c n H h0 hn) ?_
  rintro _ _ ⟨⟨k, rfl, hk⟩, rfl⟩
  simp (maxSteps := 1000000) (disch := omega) only [S, S1, S2, S3, S4, S5, ST, eq_self, reduceIte, reduceCtorEq, Nat.reduceEqDiff, Nat.reduceAdd]
  refine hQ _ _ _ ?_
  simp (maxSteps := 1000000) (disch := omega) only [S, S1, S2, S3, S4, S5, ST, eq_self, reduceIte, reduceCtorEq, Nat.reduceEqDiff, Nat.reduceAdd]
  exact ⟨_, rfl, hk⟩
theorem str_z {P : Program} {t : TypeId} (hu : P.underlying t = some .string) (s : ByteArray) (hz : s.size = 256) (k : IntKind) (n : Nat) (h1 : n < 256) : ∃ b : Nat, b < 256 ∧ indexA P t (.string s) (.int k (n : Int)) = some (.int .u8 (b : Int)) := by
  have hlt : n < s.size := by omega
  have e1 : s[(n : Int).toNat]? = some s[n] := by rw [Int.toNat_natCast]; simp [hlt]
  refine ⟨s[n].toNat, UInt8.toNat_lt _, ?_⟩
  simp only [indexA, hu, if_pos (show (0 : Int) ≤ n by omega), e1]
set_option maxRecDepth 20000 in
theorem Len64z_c (n : Nat) (H : AH) (h0 : n = 0) : ACalls Try.prog 88 [.int .u64 (n : Int)] H fun r H' => (∃ k : Int, r = .int .i64 k) ∧ H = H' := by
  refine in88 rfl ?_
  intro Q hQ
  simp (maxSteps := 1000000) (disch := omega) only [cd88, S, S1, S2, S3, S4, S5, ST, eq_self, reduceIte, reduceCtorEq, Nat.reduceEqDiff, Nat.reduceAdd]
  refine brD.intro (fun h => absurd h (by omega)) (fun _ => ?_)
  simp (maxSteps := 1000000) (disch := omega) only [S, S1, S2, S3, S4, S5, ST, eq_self, reduceIte, reduceCtorEq, Nat.reduceEqDiff, Nat.reduceAdd]
  refine brD.intro (fun h => absurd h (by omega)) (fun _ => ?_)
  simp (maxSteps := 1000000) (disch := omega) only [S, S1, S2, S3, S4, S5, ST, eq_self, reduceIte, reduceCtorEq, Nat.reduceEqDiff, Nat.reduceAdd]
  refine brD.intro (fun h => absurd h (by omega)) (fun _ => ?_)
  have hw : IntKind.u8.wrap (n : Int) = (n : Int) := wrapU8 (by omega) (by omega)
  simp (maxSteps := 1000000) (disch := omega) only [hw, wrap64, S, S1, S2, S3, S4, S5, ST, eq_self, reduceIte, reduceCtorEq, Nat.reduceEqDiff, Nat.reduceAdd]
  generalize hs : (ByteArray.mk _) = s
  have hz : s.size = 256 := by rw [← hs]; rfl
  obtain ⟨b, hb2, hb⟩ := str_z (P := Try.prog) Try.underlying9 s hz .u8 n (by omega)
  simp (maxSteps := 1000000) (disch := omega) only [hb, wrap64, S, S1, S2, S3, S4, S5, ST, eq_self, reduceIte, reduceCtorEq, Nat.reduceEqDiff, Nat.reduceAdd]
  refine hQ _ _ _ ?_
  simp (maxSteps := 1000000) (disch := omega) only [S, S1, S2, S3, S4, S5, ST, eq_self, reduceIte, reduceCtorEq, Nat.reduceEqDiff, Nat.reduceAdd]
  exact ⟨_, rfl⟩
theorem Lenz_c (n : Nat) (H : AH) (h0 : n = 0) : ACalls Try.prog 69 [.int .u64 (n : Int)] H fun r H' => (∃ k : Int, r = .int .i64 k) ∧ H = H' := by
  refine in69 rfl ?_
  intro Q hQ
  simp (maxSteps := 1000000) (disch := omega) only [cd69, S, S1, S2, S3, S4, S5, ST, eq_self, reduceIte, reduceCtorEq, Nat.reduceEqDiff, Nat.reduceAdd]
  refine CallH.by (Len64z_c n H h0) ?_
  rintro _ _ ⟨⟨k, rfl⟩, rfl⟩
  simp (maxSteps := 1000000) (disch := omega) only [S, S1, S2, S3, S4, S5, ST, eq_self, reduceIte, reduceCtorEq, Nat.reduceEqDiff, Nat.reduceAdd]
  refine hQ _ _ _ ?_
  simp (maxSteps := 1000000) (disch := omega) only [S, S1, S2, S3, S4, S5, ST, eq_self, reduceIte, reduceCtorEq, Nat.reduceEqDiff, Nat.reduceAdd]
  exact ⟨_, rfl⟩
theorem SortFunc_c {H : AH} {v : Value} {us : List Value} {ls : List (List Int)} (h : Sts H v us ls) :
    ACalls Try.prog 54 [v, fnCmp] H fun r H' => H <+: H' := by
  refine in54 rfl ?_
  intro Q hQ
  have hb := h.bnd
  have hl := h.len
  have hU : IntKind.u64.wrap (ls.length : Int) = (ls.length : Int) := by rw [IntKind.wrap_u64]; omega
  simp (maxSteps := 1000000) (disch := omega) only [cd54, h.row.len Try.underlying27, hl, hU, S, S1, S2, S3, S4, S5, ST, eq_self, reduceIte, reduceCtorEq, Nat.reduceEqDiff, Nat.reduceAdd]
  by_cases h1 : 1 ≤ ls.length
  rotate_left
  · refine CallH.by (Lenz_c ls.length H (by omega)) ?_
    rintro _ _ ⟨⟨k, rfl⟩, rfl⟩
    simp (maxSteps := 1000000) (disch := omega) only [S, S1, S2, S3, S4, S5, ST, eq_self, reduceIte, reduceCtorEq, Nat.reduceEqDiff, Nat.reduceAdd]
    refine CallH.by (pdqCmp_c h k (.inr (by omega))) ?_
    rintro _ B hB
    simp (maxSteps := 1000000) (disch := omega) only [S, S1, S2, S3, S4, S5, ST, eq_self, reduceIte, reduceCtorEq, Nat.reduceEqDiff, Nat.reduceAdd]
    refine hQ _ _ _ ?_
    simp (maxSteps := 1000000) (disch := omega) only [S, S1, S2, S3, S4, S5, ST, eq_self, reduceIte, reduceCtorEq, Nat.reduceEqDiff, Nat.reduceAdd]
    exact hB
  refine CallH.by (Lenb_c ls.length H (by omega) (by omega)) ?_
  rintro _ _ ⟨⟨k, rfl, hk⟩, rfl⟩
  simp (maxSteps := 1000000) (disch := omega) only [S, S1, S2, S3, S4, S5, ST, eq_self, reduceIte, reduceCtorEq, Nat.reduceEqDiff, Nat.reduceAdd]
  refine CallH.by (pdqCmp_c h k (.inl (by omega))) ?_
  rintro _ B hB
  simp (maxSteps := 1000000) (disch := omega) only [S, S1, S2, S3, S4, S5, ST, eq_self, reduceIte, reduceCtorEq, Nat.reduceEqDiff, Nat.reduceAdd]
  refine hQ _ _ _ ?_
  simp (maxSteps := 1000000) (disch := omega) only [S, S1, S2, S3, S4, S5, ST, eq_self, reduceIte, reduceCtorEq, Nat.reduceEqDiff, Nat.reduceAdd]
  exact hB
end Go.Proofs.Ytlcipphiflcaiaa.Ai
namespace Go.Proofs.Ytlcipphiflcaiaa.Ai
open Go
set_option linter.unusedVariables false
theorem cmpL_pre : ∀ (p a b : List Int), cmpL (p ++ a) (p ++ b) = cmpL a b
  | [], a, b => rfl
  | x :: p, a, b => by
    show cmpL (x :: (p ++ a)) (x :: (p ++ b)) = _
    rw [cmpL]
    have : cmpI x x = 0 := by unfold cmpI; simp
    simp only [this]
    simpa using cmpL_pre p a b
theorem srtL_of {ls : List (List Int)} (h : ls.Pairwise fun x y => 0 < cmpL y x) : SrtL ls := by
  intro i j hij hj
  rw [List.pairwise_iff_getElem] at h
  have := h i j (by omega) hj hij
  have e1 : ls.getD i [] = ls[i] := by simp [show i < ls.length by omega]
  have e2 : ls.getD j [] = ls[j] := by simp [hj]
  rw [e1, e2]; exact this
theorem cmpL_head (p r q : List Int) {e f : Int} (h : e < f) : 0 < cmpL (p ++ f :: q) (p ++ e :: r) := by
  rw [cmpL_pre, cmpL]
  have h1 : cmpI f e = 1 := by
    unfold cmpI
    have a : ¬ f < e := by omega
    simp [a, h]
  rw [h1, if_pos (by decide)]; decide
end Go.Proofs.Ytlcipphiflcaiaa.Ai
namespace Go.Proofs.Ytlcipphiflcaiaa.Ai
open Go
set_option linter.unusedVariables false
/-- the trees that begin with some edges and go on with the last k ones -/
def grA (es : List (Int × Int)) (n : Nat) : Nat → List Int → List (List Int)
  | 0, T => if T.length + 1 = n then [T] else []
  | k + 1, T => if T.length + 1 = n then [T] else
      (if jnB es n T (enA es ((es.length - (k + 1) : Nat) : Int)) (enB es ((es.length - (k + 1) : Nat) : Int)) = true then [] else grA es n k (T ++ [((es.length - (k + 1) : Nat) : Int)])) ++ grA es n k T
theorem grA_full {es : List (Int × Int)} {n : Nat} {T : List Int} (h : T.length + 1 = n) : ∀ k, grA es n k T = [T]
  | 0 => by rw [grA, if_pos h]
  | k + 1 => by rw [grA, if_pos h]
theorem grA_few {es : List (Int × Int)} {n : Nat} : ∀ k (T : List Int), T.length + 1 + k < n → grA es n k T = []
  | 0, T, h => by rw [grA, if_neg (by omega)]
  | k + 1, T, h => by
    rw [grA, if_neg (by omega), grA_few k T (by omega), List.append_nil]
    split
    · rfl
    · exact grA_few k _ (by simp; omega)
/-- no edge joins what those before it join -/
def Fst (es : List (Int × Int)) (T : List Int) : Prop := ∀ k, k < T.length → ¬ Jn es (T.take k) (enA es (T.getD k 0)) (enB es (T.getD k 0))
theorem Fst.nil (es : List (Int × Int)) : Fst es [] := fun k hk => absurd hk (Nat.not_lt_zero k)
theorem Fst.snoc {es : List (Int × Int)} {T : List Int} {e : Int} (h : Fst es T) (he : ¬ Jn es T (enA es e) (enB es e)) : Fst es (T ++ [e]) := by
  intro k hk
  rw [List.length_append, List.length_singleton] at hk
  by_cases g : k < T.length
  · have e1 : (T ++ [e]).getD k 0 = T.getD k 0 := by
      rw [List.getD_eq_getElem?_getD, List.getElem?_append_left g, ← List.getD_eq_getElem?_getD]
    rw [e1, List.take_append_of_le_length (by omega)]
    exact h k g
  · have : k = T.length := by omega
    subst this
    have e1 : (T ++ [e]).getD T.length 0 = e := by
      rw [List.getD_eq_getElem?_getD, List.getElem?_append_right (Nat.le_refl _)]; simp
    rw [e1, List.take_append_of_le_length (Nat.le_refl _), List.take_length]
    exact he
/-- a beginning of a tree -/
structure Beg (n : Nat) (es : List (Int × Int)) (k : Nat) (T : List Int) : Prop where
  fst : Fst es T
  asc : T.Pairwise (· < ·)
  low : ∀ e ∈ T, 0 ≤ e ∧ e < ((es.length - k : Nat) : Int)
  len : T.length + 1 ≤ n
theorem Beg.ed {n : Nat} {es : List (Int × Int)} {k : Nat} {T : List Int} (h : Beg n es k T) : EdIn es T := fun e he => by have := h.low e he; omega
theorem Beg.nil {n : Nat} (hn : 1 ≤ n) (es : List (Int × Int)) : Beg n es es.length [] := ⟨Fst.nil es, .nil, fun e he => by simp at he, hn⟩
theorem Beg.skip {n : Nat} {es : List (Int × Int)} {k : Nat} {T : List Int} (h : Beg n es (k + 1) T) : Beg n es k T := ⟨h.fst, h.asc, fun e he => by have := h.low e he; omega, h.len⟩
theorem Beg.snoc {n : Nat} {es : List (Int × Int)} (hg : Grd (n : Int) es) {k : Nat} {T : List Int} (h : Beg n es (k + 1) T) (hk : k + 1 ≤ es.length) (hl : T.length + 1 ≠ n) (hj : ¬ jnB es n T (enA es ((es.length - (k + 1) : Nat) : Int)) (enB es ((es.length - (k + 1) : Nat) : Int)) = true) : Beg n es k (T ++ [((es.length - (k + 1) : Nat) : Int)]) := by
  have he : (0 : Int) ≤ ((es.length - (k + 1) : Nat) : Int) ∧ ((es.length - (k + 1) : Nat) : Int) < es.length := by omega
  have hen := en_eq hg he
  refine ⟨h.fst.snoc fun q => hj ((jnB_iff hg h.ed (by omega) (by omega)).2 q), ?_, fun e hm => ?_, by have := h.len; simp; omega⟩
  · rw [List.pairwise_append]
    exact ⟨h.asc, by simp, fun a ha b hb => by rw [List.mem_singleton.1 hb]; exact (h.low a ha).2⟩
  · rcases List.mem_append.1 hm with q | q
    · have := h.low e q; omega
    · rw [List.mem_singleton.1 q]; omega
theorem Beg.tree {n : Nat} {es : List (Int × Int)} (hg : Grd (n : Int) es) {k : Nat} {T : List Int} (h : Beg n es k T) (hl : T.length + 1 = n) : TreL n es T :=
  ⟨hl, h.asc, h.ed, (tree_iff (h.asc.imp fun q e => by omega) hl (h.ed.ends hg)).1 h.fst⟩
theorem grA_tree {n : Nat} {es : List (Int × Int)} (hg : Grd (n : Int) es) : ∀ (k : Nat) (T : List Int), k ≤ es.length → Beg n es k T → ∀ U ∈ grA es n k T, TreL n es U ∧ ∃ r, U = T ++ r
  | 0, T, hk, h, U, hU => by
    rw [grA] at hU
    split at hU
    · rename_i e
      rw [List.mem_singleton] at hU
      subst hU
      exact ⟨h.tree hg e, [], by simp⟩
    · simp at hU
  | k + 1, T, hk, h, U, hU => by
    rw [grA] at hU
    split at hU
    · rename_i e
      rw [List.mem_singleton] at hU
      subst hU
      exact ⟨h.tree hg e, [], by simp⟩
    · rename_i e
      rcases List.mem_append.1 hU with hU | hU
      · split at hU
        · simp at hU
        · rename_i hj
          obtain ⟨h1, r, h2⟩ := grA_tree hg k _ (by omega) (h.snoc hg hk e hj) U hU
          exact ⟨h1, _, by rw [h2, List.append_assoc]⟩
      · exact grA_tree hg k T (by omega) h.skip U hU
/-- what is not taken is greater -/
theorem grA_rest {n : Nat} {es : List (Int × Int)} : ∀ (k : Nat) (T : List Int), k ≤ es.length → ∀ U ∈ grA es n k T, ∃ r, U = T ++ r ∧ ∀ e ∈ r, ((es.length - k : Nat) : Int) ≤ e
  | 0, T, hk, U, hU => by
    rw [grA] at hU
    split at hU
    · rw [List.mem_singleton] at hU; subst hU; exact ⟨[], by simp, by simp⟩
    · simp at hU
  | k + 1, T, hk, U, hU => by
    rw [grA] at hU
    split at hU
    · rw [List.mem_singleton] at hU; subst hU; exact ⟨[], by simp, by simp⟩
    · rcases List.mem_append.1 hU with hU | hU
      · split at hU
        · simp at hU
        · obtain ⟨r, r1, r2⟩ := grA_rest k _ (by omega) U hU
          refine ⟨_ :: r, by rw [r1, List.append_assoc]; rfl, fun e he => ?_⟩
          rcases List.mem_cons.1 he with rfl | he
          · exact Int.le_refl _
          · have := r2 e he; omega
      · obtain ⟨r, r1, r2⟩ := grA_rest k T (by omega) U hU
        exact ⟨r, r1, fun e he => by have := r2 e he; omega⟩
/-- they come in order -/
theorem grA_pw {n : Nat} {es : List (Int × Int)} (hg : Grd (n : Int) es) : ∀ (k : Nat) (T : List Int), k ≤ es.length → Beg n es k T → (grA es n k T).Pairwise fun x y => 0 < cmpL y x
  | 0, T, hk, h => by rw [grA]; split <;> simp
  | k + 1, T, hk, h => by
    rw [grA]
    split
    · simp
    · rename_i e
      rw [List.pairwise_append]
      refine ⟨?_, grA_pw hg k T (by omega) h.skip, fun U hU V hV => ?_⟩
      · split
        · exact .nil
        · rename_i hj
          exact grA_pw hg k _ (by omega) (h.snoc hg hk e hj)
      · split at hU
        · simp at hU
        · rename_i hj
          obtain ⟨r, r1, r2⟩ := grA_rest k _ (by omega) U hU
          obtain ⟨q, q1, q2⟩ := grA_rest k T (by omega) V hV
          obtain ⟨tV, _⟩ := grA_tree hg k T (by omega) h.skip V hV
          cases q with
          | nil =>
            have := tV.1
            rw [q1, List.append_nil] at this
            exact absurd this e
          | cons f q =>
            rw [r1, q1, List.append_assoc]
            refine cmpL_head T r q ?_
            have := q2 f (by simp)
            omega
/-- each tree is there -/
theorem grA_all {n : Nat} {es : List (Int × Int)} (hg : Grd (n : Int) es) {U : List Int} (hU : TreL n es U) : ∀ (k : Nat) (T r : List Int), k ≤ es.length → Beg n es k T → U = T ++ r → (∀ e ∈ r, ((es.length - k : Nat) : Int) ≤ e) → U ∈ grA es n k T
  | 0, T, r, hk, h, hr, hge => by
    have hrn : r = [] := by
      cases r with
      | nil => rfl
      | cons f r =>
        have h1 := hge f (by simp)
        have h2 := hU.2.2.1 f (by rw [hr]; simp)
        omega
    subst hrn
    rw [List.append_nil] at hr
    subst hr
    rw [grA, if_pos hU.1]; simp
  | k + 1, T, r, hk, h, hr, hge => by
    rw [grA]
    by_cases e : T.length + 1 = n
    · rw [if_pos e]
      have hrn : r = [] := by
        have := hU.1
        rw [hr, List.length_append] at this
        exact List.eq_nil_of_length_eq_zero (by omega)
      rw [hr, hrn]; simp
    · rw [if_neg e, List.mem_append]
      have hfst := (tree_iff (hU.2.1.imp fun q e => by omega) hU.1 (hU.2.2.1.ends hg)).2 hU.2.2.2
      cases r with
      | nil => rw [hr, List.append_nil] at hU; exact absurd hU.1 e
      | cons f r =>
        have hf := hge f (by simp)
        have hasc := hU.2.1
        rw [hr, List.pairwise_append] at hasc
        have hasc2 := List.pairwise_cons.1 hasc.2.1
        by_cases g : f = ((es.length - (k + 1) : Nat) : Int)
        · left
          subst g
          have hen := en_eq hg (hU.2.2.1 _ (by rw [hr]; simp) : (0 : Int) ≤ ((es.length - (k + 1) : Nat) : Int) ∧ ((es.length - (k + 1) : Nat) : Int) < es.length)
          have hj : ¬ jnB es n T (enA es ((es.length - (k + 1) : Nat) : Int)) (enB es ((es.length - (k + 1) : Nat) : Int)) = true := by
            intro q
            have q := (jnB_iff hg h.ed (by omega) (by omega)).1 q
            have h1 := hfst T.length (by rw [hr]; simp)
            have e1 : U.getD T.length 0 = ((es.length - (k + 1) : Nat) : Int) := by
              rw [hr, List.getD_eq_getElem?_getD, List.getElem?_append_right (Nat.le_refl _)]; simp
            have e2 : U.take T.length = T := by rw [hr, List.take_append_of_le_length (Nat.le_refl _), List.take_length]
            rw [e1, e2] at h1
            exact h1 q
          rw [if_neg hj]
          refine grA_all hg hU k _ r (by omega) (h.snoc hg hk e hj) (by rw [hr, List.append_assoc]; rfl) fun x hx => ?_
          have := hasc2.1 x hx
          omega
        · right
          refine grA_all hg hU k T (f :: r) (by omega) h.skip hr fun x hx => ?_
          rcases List.mem_cons.1 hx with rfl | hx
          · omega
          · have := hasc2.1 x hx; omega
/-- all trees -/
def treA (n : Nat) (es : List (Int × Int)) : List (List Int) := grA es n es.length []
theorem treA_iff {n : Nat} (hn : 1 ≤ n) {es : List (Int × Int)} (hg : Grd (n : Int) es) (U : List Int) : U ∈ treA n es ↔ TreL n es U :=
  ⟨fun h => (grA_tree hg _ [] (Nat.le_refl _) (Beg.nil hn es) U h).1, fun h => grA_all hg h es.length [] U (Nat.le_refl _) (Beg.nil hn es) (by simp) fun e he => by have := h.2.2.1 e he; omega⟩
theorem treA_pw {n : Nat} (hn : 1 ≤ n) {es : List (Int × Int)} (hg : Grd (n : Int) es) : (treA n es).Pairwise fun x y => 0 < cmpL y x := grA_pw hg _ [] (Nat.le_refl _) (Beg.nil hn es)
end Go.Proofs.Ytlcipphiflcaiaa.Ai
namespace Go.Proofs.Ytlcipphiflcaiaa.Ai
open Go Go.RowKit
set_option linter.unusedVariables false
set_option linter.unusedSimpArgs false
/-- the sum of weights -/
def swL (ws : List Int) (T : List Int) : Int := (T.map fun e => ws.getD e.toNat 0).sum
theorem swL_app (ws : List Int) (T U : List Int) : swL ws (T ++ U) = swL ws T + swL ws U := by unfold swL; rw [List.map_append, List.sum_append]
/-- one weight, the first k edges -/
def krN (n : Nat) (es : List (Int × Int)) (ws : List Int) (w : Int) (K : List Int) : Nat → List Int
  | 0 => K
  | k + 1 => if ws.getD k 0 = w ∧ jnB es n (krN n es ws w K k) (enA es (k : Int)) (enB es (k : Int)) = false then krN n es ws w K k ++ [(k : Int)] else krN n es ws w K k
/-- all edges with less weight -/
def krW (n : Nat) (es : List (Int × Int)) (ws : List Int) : Nat → List Int
  | 0 => []
  | w + 1 => krN n es ws (w : Int) (krW n es ws w) es.length
theorem Jn.over {es : List (Int × Int)} {T U : List Int} (h : ∀ e ∈ T, Jn es U (enA es e) (enB es e)) {x y : Nat} (hj : Jn es T x y) : Jn es U x y := by
  induction hj with
  | refl x => exact .refl x
  | edge e q => exact h e q
  | symm _ ih => exact .symm ih
  | trans _ _ i1 i2 => exact .trans i1 i2
/-- the state of the choice: all edges of weight below w, and the first k of weight w, are joined -/
structure Krs (n : Nat) (es : List (Int × Int)) (ws : List Int) (w : Int) (k : Nat) (K : List Int) : Prop where
  fst : Fst es K
  nd : K.Nodup
  ed : EdIn es K
  low : ∀ e ∈ K, ws.getD e.toNat 0 ≤ w
  all : ∀ e : Nat, e < es.length → (ws.getD e 0 < w ∨ (ws.getD e 0 = w ∧ e < k)) → Jn es K (enA es (e : Int)) (enB es (e : Int))
theorem krN_ok {n : Nat} {es : List (Int × Int)} {ws : List Int} (hg : Grd (n : Int) es) {w : Int} {K : List Int} (h : Krs n es ws w 0 K) : ∀ k, k ≤ es.length →
    Krs n es ws w k (krN n es ws w K k) ∧ ∃ r, krN n es ws w K k = K ++ r ∧ ∀ e ∈ r, ws.getD e.toNat 0 = w := by
  intro k
  induction k with
  | zero => intro _; exact ⟨h, [], by simp [krN], by simp⟩
  | succ k ih =>
    intro hk
    obtain ⟨i1, r, i2, i3⟩ := ih (by omega)
    have hend := EdIn.ends hg i1.ed
    have hek : (0 : Int) ≤ (k : Int) ∧ (k : Int) < es.length := by omega
    have ee := en_eq hg hek
    have hjn := jnB_not hg i1.ed (i := enA es (k : Int)) (j := enB es (k : Int)) (by omega) (by omega)
    have hji := jnB_iff hg i1.ed (i := enA es (k : Int)) (j := enB es (k : Int)) (by omega) (by omega)
    rw [krN]
    by_cases c : ws.getD k 0 = w ∧ jnB es n (krN n es ws w K k) (enA es (k : Int)) (enB es (k : Int)) = false
    · rw [if_pos c]
      have hn := hjn.1 c.2
      refine ⟨⟨i1.fst.snoc hn, ?_, ?_, ?_, ?_⟩, r ++ [(k : Int)], by rw [i2, List.append_assoc], ?_⟩
      · rw [List.nodup_append]
        refine ⟨i1.nd, by simp, fun a ha b hb e => ?_⟩
        rw [List.mem_singleton.1 hb] at e
        subst e
        exact hn (.edge _ ha)
      · intro e he
        rcases List.mem_append.1 he with q | q
        · exact i1.ed e q
        · rw [List.mem_singleton.1 q]; exact hek
      · intro e he
        rcases List.mem_append.1 he with q | q
        · exact i1.low e q
        · rw [List.mem_singleton.1 q, Int.toNat_natCast]; omega
      · intro e he hw
        have hs : ∀ x ∈ krN n es ws w K k, x ∈ krN n es ws w K k ++ [(k : Int)] := fun x hx => List.mem_append_left _ hx
        by_cases q : e = k
        · subst q; exact .edge _ (by simp)
        · exact (i1.all e he (by omega)).mono hs
      · intro e he
        rcases List.mem_append.1 he with q | q
        · exact i3 e q
        · rw [List.mem_singleton.1 q, Int.toNat_natCast]; exact c.1
    · rw [if_neg c]
      refine ⟨⟨i1.fst, i1.nd, i1.ed, i1.low, fun e he hw => ?_⟩, r, i2, i3⟩
      by_cases q : e = k ∧ ws.getD e 0 = w
      · obtain ⟨rfl, q2⟩ := q
        refine hji.1 ?_
        cases hb : jnB es n (krN n es ws w K e) (enA es (e : Int)) (enB es (e : Int)) with
        | true => rfl
        | false => exact absurd ⟨q2, hb⟩ c
      · exact i1.all e he (by omega)
theorem Krs.next {n : Nat} {es : List (Int × Int)} {ws : List Int} {w : Int} {K : List Int} (h : Krs n es ws w es.length K) : Krs n es ws (w + 1) 0 K :=
  ⟨h.fst, h.nd, h.ed, fun e he => by have := h.low e he; omega, fun e he hw => h.all e he (by omega)⟩
theorem krW_ok {n : Nat} {es : List (Int × Int)} {ws : List Int} (hg : Grd (n : Int) es) (hw : ∀ e : Nat, e < es.length → 0 ≤ ws.getD e 0) : ∀ w : Nat, Krs n es ws (w : Int) 0 (krW n es ws w) := by
  intro w
  induction w with
  | zero => exact ⟨Fst.nil es, .nil, fun e he => by simp [krW] at he, fun e he => by simp [krW] at he, fun e he h => by have := hw e he; omega⟩
  | succ w ih =>
    have := (krN_ok hg ih es.length (Nat.le_refl _)).1.next
    rw [krW]
    rw [show ((w + 1 : Nat) : Int) = (w : Int) + 1 by omega]
    exact this
/-- a forest has fewer edges than nodes -/
theorem Fst.few {n : Nat} (hn : 1 ≤ n) {es : List (Int × Int)} (hg : Grd (n : Int) es) {K : List Int} (h : Fst es K) (he : EdIn es K) : K.length + 1 ≤ n := by
  have key : ∀ j, j ≤ K.length → cls (Jn es (K.take j)) n + j ≤ n := by
    intro j
    induction j with
    | zero => intro _; rw [List.take_zero, cls_nil]; omega
    | succ j ih =>
      intro hj
      have h1 := ih (by omega)
      have hm : K.getD j 0 ∈ K := by simp [show j < K.length by omega]
      have hen := EdIn.ends hg he _ hm
      have h2 := cls_two (es := es) (T := K.take j) (U := K.take (j + 1)) (e := K.getD j 0) (n := n) (fun x hx => by
        rw [List.take_add_one]; exact List.mem_append_left _ hx) (by
        rw [List.take_add_one, List.getElem?_eq_getElem (by omega)]
        refine List.mem_append_right _ ?_
        simp [show j < K.length by omega]) hen.1 hen.2 (h j (by omega))
      omega
  refine Classical.byContradiction fun hc => ?_
  have h1 := key (n - 1) (by omega)
  have h2 := cls_conn (es := es) (T := K.take (n - 1)) (n := n) (by omega)
  have hm : K.getD (n - 1) 0 ∈ K := by simp [show n - 1 < K.length by omega]
  have hen := EdIn.ends hg he _ hm
  exact h (n - 1) (by omega) (h2 _ _ hen.1 hen.2)
theorem filt_two (p : Int → Bool) : ∀ l : List Int, l.length = (l.filter p).length + (l.filter fun e => !p e).length
  | [] => rfl
  | a :: l => by
    have := filt_two p l
    cases h : p a <;> simp [h] <;> omega
/-- as many edges of small weight as any tree -/
theorem kr_many {n : Nat} (hn : 1 ≤ n) {es : List (Int × Int)} (hg : Grd (n : Int) es) {ws : List Int} {w : Int} {K T : List Int} (hT : TreL n es T) (h : Krs n es ws w 0 K) : (T.filter fun e => decide (ws.getD e.toNat 0 < w)).length ≤ K.length := by
  have hc : Conn es (K ++ T.filter fun e => !decide (ws.getD e.toNat 0 < w)) n := by
    intro x y hx hy
    refine Jn.over (T := T) (fun e he => ?_) (hT.2.2.2 x y hx hy)
    by_cases q : ws.getD e.toNat 0 < w
    · have hb := hT.2.2.1 e he
      have := h.all e.toNat (by omega) (.inl q)
      rw [show ((e.toNat : Nat) : Int) = e by omega] at this
      exact this.mono fun x hx => List.mem_append_left _ hx
    · exact .edge e (List.mem_append_right _ (List.mem_filter.2 ⟨he, by rw [decide_eq_false q]; rfl⟩))
  have h1 := conn_cls hc
  have h2 := cls_le es n (K ++ T.filter fun e => !decide (ws.getD e.toNat 0 < w))
  have h4 := filt_two (fun e : Int => decide (ws.getD e.toNat 0 < w)) T
  have h5 := hT.1
  rw [List.length_append] at h2
  omega
theorem sw_split (ws : List Int) (w : Int) : ∀ T : List Int, swL ws (T.filter fun e => decide (ws.getD e.toNat 0 < w + 1)) = swL ws (T.filter fun e => decide (ws.getD e.toNat 0 < w)) + w * (((T.filter fun e => decide (ws.getD e.toNat 0 < w + 1)).length : Int) - ((T.filter fun e => decide (ws.getD e.toNat 0 < w)).length : Int))
  | [] => by simp [swL]
  | a :: T => by
    have ih := sw_split ws w T
    have e0 : ∀ (x : Int) (l : List Int), swL ws (x :: l) = ws.getD x.toNat 0 + swL ws l := fun x l => by simp [swL]
    by_cases q : ws.getD a.toNat 0 < w
    · rw [List.filter_cons_of_pos (by rw [decide_eq_true_eq]; omega), List.filter_cons_of_pos (by simpa using q), e0, e0, ih, List.length_cons, List.length_cons]
      rw [show (((T.filter fun e => decide (ws.getD e.toNat 0 < w + 1)).length + 1 : Nat) : Int) - (((T.filter fun e => decide (ws.getD e.toNat 0 < w)).length + 1 : Nat) : Int) = ((T.filter fun e => decide (ws.getD e.toNat 0 < w + 1)).length : Int) - ((T.filter fun e => decide (ws.getD e.toNat 0 < w)).length : Int) by omega]
      omega
    · by_cases q2 : ws.getD a.toNat 0 = w
      · rw [List.filter_cons_of_pos (by rw [decide_eq_true_eq]; omega), List.filter_cons_of_neg (by simpa using q), e0, ih, List.length_cons]
        rw [show (((T.filter fun e => decide (ws.getD e.toNat 0 < w + 1)).length + 1 : Nat) : Int) - ((T.filter fun e => decide (ws.getD e.toNat 0 < w)).length : Int) = (((T.filter fun e => decide (ws.getD e.toNat 0 < w + 1)).length : Int) - ((T.filter fun e => decide (ws.getD e.toNat 0 < w)).length : Int)) + 1 by omega, Int.mul_add, Int.mul_one]
        omega
      · rw [List.filter_cons_of_neg (by rw [decide_eq_true_eq]; omega), List.filter_cons_of_neg (by simpa using q)]
        exact ih
theorem sw_same (ws : List Int) (w : Int) : ∀ r : List Int, (∀ e ∈ r, ws.getD e.toNat 0 = w) → swL ws r = w * (r.length : Int)
  | [], _ => by simp [swL]
  | a :: r, h => by
    have ih := sw_same ws w r fun e he => h e (List.mem_cons_of_mem _ he)
    have h1 := h a (by simp)
    have e0 : swL ws (a :: r) = ws.getD a.toNat 0 + swL ws r := by simp [swL]
    rw [e0, ih, h1, List.length_cons, show ((r.length + 1 : Nat) : Int) = (r.length : Int) + 1 by omega, Int.mul_add, Int.mul_one]
    omega
/-- the greedy sum is the least -/
theorem kr_least {n : Nat} (hn : 1 ≤ n) {es : List (Int × Int)} (hg : Grd (n : Int) es) {ws : List Int} {M : Nat} (hw : ∀ e : Nat, e < es.length → 0 ≤ ws.getD e 0 ∧ ws.getD e 0 < (M : Int)) {T : List Int} (hT : TreL n es T) : swL ws (krW n es ws M) ≤ swL ws T := by
  have h0 : ∀ e : Nat, e < es.length → 0 ≤ ws.getD e 0 := fun e he => (hw e he).1
  have key : ∀ w : Nat, swL ws (krW n es ws w) + (w : Int) * ((T.filter fun e => decide (ws.getD e.toNat 0 < (w : Int))).length : Int) ≤ swL ws (T.filter fun e => decide (ws.getD e.toNat 0 < (w : Int))) + (w : Int) * ((krW n es ws w).length : Int) := by
    intro w
    induction w with
    | zero =>
      have : T.filter (fun e => decide (ws.getD e.toNat 0 < ((0 : Nat) : Int))) = [] := by
        rw [List.filter_eq_nil_iff]
        intro e he
        have := hT.2.2.1 e he
        have := h0 e.toNat (by omega)
        simp only [decide_eq_true_eq]
        omega
      rw [this]
      simp [krW, swL]
    | succ w ih =>
      have hs := sw_split ws (w : Int) T
      have hm := kr_many hn hg hT (krW_ok hg h0 (w + 1))
      rw [show ((w + 1 : Nat) : Int) = (w : Int) + 1 by omega] at hm ⊢
      obtain ⟨_, r, e1, e2⟩ := krN_ok hg (krW_ok hg h0 w) es.length (Nat.le_refl _)
      have e3 : krW n es ws (w + 1) = krW n es ws w ++ r := by rw [krW]; exact e1
      have e4 := sw_same ws (w : Int) r e2
      rw [e3] at hm ⊢
      rw [swL_app, e4, hs]
      rw [List.length_append] at hm ⊢
      generalize (T.filter fun e => decide (ws.getD e.toNat 0 < (w : Int) + 1)).length = t1 at *
      generalize (T.filter fun e => decide (ws.getD e.toNat 0 < (w : Int))).length = t0 at *
      generalize (krW n es ws w).length = k0 at *
      rw [show ((k0 + r.length : Nat) : Int) = (k0 : Int) + (r.length : Int) by omega]
      rw [Int.add_mul, Int.add_mul, Int.mul_sub, Int.mul_add, Int.one_mul, Int.one_mul]
      omega
  have h1 := key M
  have hall : T.filter (fun e => decide (ws.getD e.toNat 0 < (M : Int))) = T := by
    rw [List.filter_eq_self]
    intro e he
    have := hT.2.2.1 e he
    have := (hw e.toNat (by omega)).2
    simpa using this
  rw [hall] at h1
  have h2 := (krW_ok hg h0 M).fst.few hn hg (krW_ok hg h0 M).ed
  have h3 := hT.1
  have h4 : (M : Int) * ((krW n es ws M).length : Int) ≤ (M : Int) * (T.length : Int) := Int.mul_le_mul_of_nonneg_left (by omega) (by omega)
  omega
end Go.Proofs.Ytlcipphiflcaiaa.Ai
namespace Go.Proofs.Ytlcipphiflcaiaa.Ai
open Go
def ords91 : List (Nat × List (Nat × Bool)) := []
def cd91 : Cd := (.seq (.reg [⟨⟨some 2, Op.assign (Operand.const (Value.int IntKind.i64 0)), none⟩, []⟩]) (.seq (.reg [⟨⟨some 3, Op.move (Operand.tmp 0), none⟩, []⟩,
  ⟨⟨some 4, Op.binOp BinOp.shr 106 (Operand.tmp 3) (Operand.const (Value.int IntKind.u64 1)) 76, none⟩, []⟩,
  ⟨⟨some 5, Op.binOp BinOp.and 106 (Operand.tmp 4) (Operand.const (Value.int IntKind.u64 6148914691236517205)) 106, none⟩, []⟩,
  ⟨⟨some 6, Op.move (Operand.tmp 0), none⟩, []⟩,
  ⟨⟨some 7, Op.binOp BinOp.and 106 (Operand.tmp 6) (Operand.const (Value.int IntKind.u64 6148914691236517205)) 106, none⟩, []⟩,
  ⟨⟨some 8, Op.binOp BinOp.add 106 (Operand.tmp 5) (Operand.tmp 7) 106, none⟩, []⟩,
  ⟨⟨some 0, Op.assign (Operand.tmp 8), none⟩, []⟩]) (.seq (.reg [⟨⟨some 9, Op.move (Operand.tmp 0), none⟩, []⟩,
  ⟨⟨some 10, Op.binOp BinOp.shr 106 (Operand.tmp 9) (Operand.const (Value.int IntKind.u64 2)) 76, none⟩, []⟩,
  ⟨⟨some 11, Op.binOp BinOp.and 106 (Operand.tmp 10) (Operand.const (Value.int IntKind.u64 3689348814741910323)) 106, none⟩, []⟩,
  ⟨⟨some 12, Op.move (Operand.tmp 0), none⟩, []⟩,
  ⟨⟨some 13, Op.binOp BinOp.and 106 (Operand.tmp 12) (Operand.const (Value.int IntKind.u64 3689348814741910323)) 106, none⟩, []⟩,
  ⟨⟨some 14, Op.binOp BinOp.add 106 (Operand.tmp 11) (Operand.tmp 13) 106, none⟩, []⟩,
  ⟨⟨some 0, Op.assign (Operand.tmp 14), none⟩, []⟩]) (.seq (.reg [⟨⟨some 15, Op.move (Operand.tmp 0), none⟩, []⟩,
  ⟨⟨some 16, Op.binOp BinOp.shr 106 (Operand.tmp 15) (Operand.const (Value.int IntKind.u64 4)) 76, none⟩, []⟩,
  ⟨⟨some 17, Op.move (Operand.tmp 0), none⟩, []⟩,
  ⟨⟨some 18, Op.binOp BinOp.add 106 (Operand.tmp 16) (Operand.tmp 17) 106, none⟩, []⟩,
  ⟨⟨some 19, Op.binOp BinOp.and 106 (Operand.tmp 18) (Operand.const (Value.int IntKind.u64 1085102592571150095)) 106, none⟩, []⟩,
  ⟨⟨some 0, Op.assign (Operand.tmp 19), none⟩, []⟩]) (.seq (.reg [⟨⟨some 20, Op.move (Operand.tmp 0), none⟩, []⟩,
  ⟨⟨some 21, Op.move (Operand.tmp 0), none⟩, []⟩,
  ⟨⟨some 22, Op.binOp BinOp.shr 106 (Operand.tmp 21) (Operand.const (Value.int IntKind.u64 8)) 76, none⟩, []⟩,
  ⟨⟨some 23, Op.binOp BinOp.add 106 (Operand.tmp 20) (Operand.tmp 22) 106, none⟩, []⟩,
  ⟨⟨some 0, Op.assign (Operand.tmp 23), none⟩, []⟩]) (.seq (.reg [⟨⟨some 24, Op.move (Operand.tmp 0), none⟩, []⟩,
  ⟨⟨some 25, Op.move (Operand.tmp 0), none⟩, []⟩,
  ⟨⟨some 26, Op.binOp BinOp.shr 106 (Operand.tmp 25) (Operand.const (Value.int IntKind.u64 16)) 76, none⟩, []⟩,
  ⟨⟨some 27, Op.binOp BinOp.add 106 (Operand.tmp 24) (Operand.tmp 26) 106, none⟩, []⟩,
  ⟨⟨some 0, Op.assign (Operand.tmp 27), none⟩, []⟩]) (.seq (.reg [⟨⟨some 28, Op.move (Operand.tmp 0), none⟩, []⟩,
  ⟨⟨some 29, Op.move (Operand.tmp 0), none⟩, []⟩,
  ⟨⟨some 30, Op.binOp BinOp.shr 106 (Operand.tmp 29) (Operand.const (Value.int IntKind.u64 32)) 76, none⟩, []⟩,
  ⟨⟨some 31, Op.binOp BinOp.add 106 (Operand.tmp 28) (Operand.tmp 30) 106, none⟩, []⟩,
  ⟨⟨some 0, Op.assign (Operand.tmp 31), none⟩, []⟩]) (.seq (.reg [⟨⟨some 32, Op.move (Operand.tmp 0), none⟩, []⟩,
  ⟨⟨some 33, Op.convert 106 3 (Operand.tmp 32), none⟩, []⟩,
  ⟨⟨some 34, Op.binOp BinOp.and 3 (Operand.tmp 33) (Operand.const (Value.int IntKind.i64 127)) 3, none⟩, []⟩,
  ⟨⟨some 2, Op.assign (Operand.tmp 34), none⟩, []⟩]) .ret))))))))
theorem sl91 : slim Try.f91.ntmps ords91 (Try.f91.body.getD .skip) = some cd91 := by kernel_rfl
theorem in91 {args : List Value} {H : AH} {R : Value → AH → Prop} (hl : args.length = 1) (h : ∀ (Q : Exit → Sl → AH → Prop), (∀ e s H, endA Try.prog [ResultVar.tmp 2] R e s H → Q e s H) → wpC Try.prog cd91 Q (enterA args) H) : ACalls Try.prog 91 args H R :=
  ACalls.intro (by kernel_rfl) Try.func91 rfl (by kernel_rfl) sl91 hl (of_decide_eq_true (by kernel_rfl)) (by kernel_rfl) h
def ords72 : List (Nat × List (Nat × Bool)) := []
def cd72 : Cd := (.seq (.reg [⟨⟨some 2, Op.assign (Operand.const (Value.int IntKind.i64 0)), none⟩, []⟩]) (.seq (.cond (Operand.const (Value.bool false)) (.seq (.reg [⟨⟨some 3, Op.move (Operand.tmp 0), none⟩, []⟩,
  ⟨⟨some 4, Op.convert 76 104 (Operand.tmp 3), none⟩, []⟩,
  ⟨⟨some 5, Op.call { callee := (Callee.value (Operand.func 90)), args := #[(Operand.tmp 4)], argTypes := #[104] }, none⟩, []⟩,
  ⟨⟨some 2, Op.assign (Operand.tmp 5), none⟩, []⟩]) .ret) .skip) (.seq (.reg [⟨⟨some 6, Op.move (Operand.tmp 0), none⟩, []⟩,
  ⟨⟨some 7, Op.call { callee := (Callee.value (Operand.func 91)), args := #[(Operand.tmp 6)], argTypes := #[106] }, none⟩, []⟩,
  ⟨⟨some 2, Op.assign (Operand.tmp 7), none⟩, []⟩]) .ret)))
theorem sl72 : slim Try.f72.ntmps ords72 (Try.f72.body.getD .skip) = some cd72 := by kernel_rfl
theorem in72 {args : List Value} {H : AH} {R : Value → AH → Prop} (hl : args.length = 1) (h : ∀ (Q : Exit → Sl → AH → Prop), (∀ e s H, endA Try.prog [ResultVar.tmp 2] R e s H → Q e s H) → wpC Try.prog cd72 Q (enterA args) H) : ACalls Try.prog 72 args H R :=
  ACalls.intro (by kernel_rfl) Try.func72 rfl (by kernel_rfl) sl72 hl (of_decide_eq_true (by kernel_rfl)) (by kernel_rfl) h
def ords58 : List (Nat × List (Nat × Bool)) := []
def cd58 : Cd := (.seq (.reg [⟨⟨some 2, Op.assign (Operand.const (Value.int IntKind.i64 0)), none⟩, []⟩]) (.seq (.reg [⟨⟨some 3, Op.move (Operand.tmp 0), none⟩, []⟩,
  ⟨⟨some 4, Op.call { callee := (Callee.value (Operand.func 72)), args := #[(Operand.tmp 3)], argTypes := #[76] }, none⟩, []⟩,
  ⟨⟨some 2, Op.assign (Operand.tmp 4), none⟩, []⟩]) .ret))
theorem sl58 : slim Try.f58.ntmps ords58 (Try.f58.body.getD .skip) = some cd58 := by kernel_rfl
theorem in58 {args : List Value} {H : AH} {R : Value → AH → Prop} (hl : args.length = 1) (h : ∀ (Q : Exit → Sl → AH → Prop), (∀ e s H, endA Try.prog [ResultVar.tmp 2] R e s H → Q e s H) → wpC Try.prog cd58 Q (enterA args) H) : ACalls Try.prog 58 args H R :=
  ACalls.intro (by kernel_rfl) Try.func58 rfl (by kernel_rfl) sl58 hl (of_decide_eq_true (by kernel_rfl)) (by kernel_rfl) h
end Go.Proofs.Ytlcipphiflcaiaa.Ai
namespace Go.Proofs.Ytlcipphiflcaiaa.Ai
open Go Go.RowKit
set_option linter.unusedVariables false
set_option linter.unusedSimpArgs false
/-- counting ones by parts -/
def pc1 (b : Nat) : Nat := ((b / 2 ^ 1) &&& 6148914691236517205) + (b &&& 6148914691236517205)
def pc2 (b : Nat) : Nat := ((b / 2 ^ 2) &&& 3689348814741910323) + (b &&& 3689348814741910323)
def pc3 (b : Nat) : Nat := (b / 2 ^ 4 + b) &&& 1085102592571150095
def pcS8 (b : Nat) : Nat := b + b / 2 ^ 8
def pcS16 (b : Nat) : Nat := b + b / 2 ^ 16
def pcS32 (b : Nat) : Nat := b + b / 2 ^ 32
def popc (b : Nat) : Nat := pcS32 (pcS16 (pcS8 (pc3 (pc2 (pc1 b))))) &&& 127
theorem pc1_le (b : Nat) : pc1 b ≤ 12297829382473034410 := by
  unfold pc1
  have h1 : (b / 2 ^ 1) &&& 6148914691236517205 ≤ 6148914691236517205 := Nat.and_le_right
  have h2 : b &&& 6148914691236517205 ≤ 6148914691236517205 := Nat.and_le_right
  omega
theorem pc2_le (b : Nat) : pc2 b ≤ 7378697629483820646 := by
  unfold pc2
  have h1 : (b / 2 ^ 2) &&& 3689348814741910323 ≤ 3689348814741910323 := Nat.and_le_right
  have h2 : b &&& 3689348814741910323 ≤ 3689348814741910323 := Nat.and_le_right
  omega
theorem pc3_le (b : Nat) : pc3 b ≤ 1085102592571150095 := by unfold pc3; exact Nat.and_le_right
theorem bin_shrU (P : Program) (t : TypeId) (b y : Nat) (hy : y < 64) : binA P .shr t (.int .u64 (b : Int)) (.int .u64 (y : Int)) = some (.int .u64 ((b / 2 ^ y : Nat) : Int)) := by
  have : ¬ ((y : Int) < 0) := by omega
  simp only [binA, shiftA, this, if_false, IntKind.bits]
  rw [if_pos (.inr trivial)]
  have := shr_nat b y (by omega)
  simp only [this]
theorem bin_addU (P : Program) (t : TypeId) (a b : Nat) (h : a + b < 2 ^ 64) : binA P .add t (.int .u64 (a : Int)) (.int .u64 (b : Int)) = some (.int .u64 ((a + b : Nat) : Int)) := by
  have e : IntKind.u64.wrap ((a : Int) + (b : Int)) = ((a + b : Nat) : Int) := by rw [IntKind.wrap_u64]; omega
  simp only [binA, intA, e]
  simp
theorem bin_and127 (P : Program) (t : TypeId) (a : Nat) (ha : a < 2 ^ 63) : binA P .and t (.int .i64 (a : Int)) (.int .i64 127) = some (.int .i64 ((a &&& 127 : Nat) : Int)) := by
  have e : bitsA .and .i64 (a : Int) 127 = ((a &&& 127 : Nat) : Int) := by
    have h : a &&& 127 ≤ 127 := Nat.and_le_right
    have e : (BitVec.ofInt 64 (a : Int) &&& BitVec.ofInt 64 ((127 : Nat) : Int)).toNat = a &&& 127 := by rw [BitVec.toNat_and, ofInt_nat a (by omega), ofInt_nat 127 (by decide)]
    show IntKind.i64.wrap (((BitVec.ofInt 64 (a : Int) &&& BitVec.ofInt 64 ((127 : Nat) : Int)).toNat : Nat) : Int) = _
    rw [e, wrap64 (by omega) (by omega)]
  simp only [binA, intA, e]
  simp
set_option maxRecDepth 20000 in
set_option maxHeartbeats 2000000 in
theorem Ones64_c (b : Nat) (H : AH) (hb : b < 2 ^ 64) : ACalls Try.prog 91 [.int .u64 (b : Int)] H fun r H' => r = .int .i64 ((popc b : Nat) : Int) ∧ H = H' := by
  refine in91 rfl ?_
  intro Q hQ
  have l1 := pc1_le b
  have l2 := pc2_le (pc1 b)
  have l3 := pc3_le (pc2 (pc1 b))
  have m1 : (b / 2 ^ 1) &&& 6148914691236517205 ≤ 6148914691236517205 := Nat.and_le_right
  have m2 : b &&& 6148914691236517205 ≤ 6148914691236517205 := Nat.and_le_right
  have m3 : (pc1 b / 2 ^ 2) &&& 3689348814741910323 ≤ 3689348814741910323 := Nat.and_le_right
  have m4 : pc1 b &&& 3689348814741910323 ≤ 3689348814741910323 := Nat.and_le_right
  have n8 : pcS8 (pc3 (pc2 (pc1 b))) ≤ 1085102592571150095 + 1085102592571150095 := by unfold pcS8; omega
  have n16 : pcS16 (pcS8 (pc3 (pc2 (pc1 b)))) ≤ 4 * 1085102592571150095 := by unfold pcS16; omega
  have n32 : pcS32 (pcS16 (pcS8 (pc3 (pc2 (pc1 b))))) ≤ 8 * 1085102592571150095 := by unfold pcS32; omega
  have k1 : binA Try.prog .shr 106 (.int .u64 ((b : Nat) : Int)) (.int .u64 1) = some (.int .u64 ((b / 2 ^ 1 : Nat) : Int)) := bin_shrU _ _ b 1 (by decide)
  have k2 : binA Try.prog .and 106 (.int .u64 ((b / 2 ^ 1 : Nat) : Int)) (.int .u64 6148914691236517205) = some (.int .u64 (((b / 2 ^ 1) &&& 6148914691236517205 : Nat) : Int)) := bin_and _ _ (b / 2 ^ 1) 6148914691236517205 (by omega) (by decide)
  have k3 : binA Try.prog .and 106 (.int .u64 ((b : Nat) : Int)) (.int .u64 6148914691236517205) = some (.int .u64 ((b &&& 6148914691236517205 : Nat) : Int)) := bin_and _ _ b 6148914691236517205 hb (by decide)
  have k4 : binA Try.prog .add 106 (.int .u64 (((b / 2 ^ 1) &&& 6148914691236517205 : Nat) : Int)) (.int .u64 ((b &&& 6148914691236517205 : Nat) : Int)) = some (.int .u64 ((pc1 b : Nat) : Int)) := bin_addU _ _ _ _ (by omega)
  have k5 : binA Try.prog .shr 106 (.int .u64 ((pc1 b : Nat) : Int)) (.int .u64 2) = some (.int .u64 ((pc1 b / 2 ^ 2 : Nat) : Int)) := bin_shrU _ _ (pc1 b) 2 (by decide)
  have k6 : binA Try.prog .and 106 (.int .u64 ((pc1 b / 2 ^ 2 : Nat) : Int)) (.int .u64 3689348814741910323) = some (.int .u64 (((pc1 b / 2 ^ 2) &&& 3689348814741910323 : Nat) : Int)) := bin_and _ _ (pc1 b / 2 ^ 2) 3689348814741910323 (by omega) (by decide)
  have k7 : binA Try.prog .and 106 (.int .u64 ((pc1 b : Nat) : Int)) (.int .u64 3689348814741910323) = some (.int .u64 ((pc1 b &&& 3689348814741910323 : Nat) : Int)) := bin_and _ _ (pc1 b) 3689348814741910323 (by omega) (by decide)
  have k8 : binA Try.prog .add 106 (.int .u64 (((pc1 b / 2 ^ 2) &&& 3689348814741910323 : Nat) : Int)) (.int .u64 ((pc1 b &&& 3689348814741910323 : Nat) : Int)) = some (.int .u64 ((pc2 (pc1 b) : Nat) : Int)) := bin_addU _ _ _ _ (by omega)
  have k9 : binA Try.prog .shr 106 (.int .u64 ((pc2 (pc1 b) : Nat) : Int)) (.int .u64 4) = some (.int .u64 ((pc2 (pc1 b) / 2 ^ 4 : Nat) : Int)) := bin_shrU _ _ (pc2 (pc1 b)) 4 (by decide)
  have k10 : binA Try.prog .add 106 (.int .u64 ((pc2 (pc1 b) / 2 ^ 4 : Nat) : Int)) (.int .u64 ((pc2 (pc1 b) : Nat) : Int)) = some (.int .u64 ((pc2 (pc1 b) / 2 ^ 4 + pc2 (pc1 b) : Nat) : Int)) := bin_addU _ _ _ _ (by omega)
  have k11 : binA Try.prog .and 106 (.int .u64 ((pc2 (pc1 b) / 2 ^ 4 + pc2 (pc1 b) : Nat) : Int)) (.int .u64 1085102592571150095) = some (.int .u64 ((pc3 (pc2 (pc1 b)) : Nat) : Int)) := bin_and _ _ (pc2 (pc1 b) / 2 ^ 4 + pc2 (pc1 b)) 1085102592571150095 (by omega) (by decide)
  have k12 : binA Try.prog .shr 106 (.int .u64 ((pc3 (pc2 (pc1 b)) : Nat) : Int)) (.int .u64 8) = some (.int .u64 ((pc3 (pc2 (pc1 b)) / 2 ^ 8 : Nat) : Int)) := bin_shrU _ _ (pc3 (pc2 (pc1 b))) 8 (by decide)
  have k13 : binA Try.prog .add 106 (.int .u64 ((pc3 (pc2 (pc1 b)) : Nat) : Int)) (.int .u64 ((pc3 (pc2 (pc1 b)) / 2 ^ 8 : Nat) : Int)) = some (.int .u64 ((pcS8 (pc3 (pc2 (pc1 b))) : Nat) : Int)) := bin_addU _ _ _ _ (by omega)
  have k14 : binA Try.prog .shr 106 (.int .u64 ((pcS8 (pc3 (pc2 (pc1 b))) : Nat) : Int)) (.int .u64 16) = some (.int .u64 ((pcS8 (pc3 (pc2 (pc1 b))) / 2 ^ 16 : Nat) : Int)) := bin_shrU _ _ (pcS8 (pc3 (pc2 (pc1 b)))) 16 (by decide)
  have k15 : binA Try.prog .add 106 (.int .u64 ((pcS8 (pc3 (pc2 (pc1 b))) : Nat) : Int)) (.int .u64 ((pcS8 (pc3 (pc2 (pc1 b))) / 2 ^ 16 : Nat) : Int)) = some (.int .u64 ((pcS16 (pcS8 (pc3 (pc2 (pc1 b)))) : Nat) : Int)) := bin_addU _ _ _ _ (by omega)
  have k16 : binA Try.prog .shr 106 (.int .u64 ((pcS16 (pcS8 (pc3 (pc2 (pc1 b)))) : Nat) : Int)) (.int .u64 32) = some (.int .u64 ((pcS16 (pcS8 (pc3 (pc2 (pc1 b)))) / 2 ^ 32 : Nat) : Int)) := bin_shrU _ _ (pcS16 (pcS8 (pc3 (pc2 (pc1 b))))) 32 (by decide)
  have k17 : binA Try.prog .add 106 (.int .u64 ((pcS16 (pcS8 (pc3 (pc2 (pc1 b)))) : Nat) : Int)) (.int .u64 ((pcS16 (pcS8 (pc3 (pc2 (pc1 b)))) / 2 ^ 32 : Nat) : Int)) = some (.int .u64 ((pcS32 (pcS16 (pcS8 (pc3 (pc2 (pc1 b))))) : Nat) : Int)) := bin_addU _ _ _ _ (by omega)
  have c1 : convA Try.prog 106 3 (.int .u64 ((pcS32 (pcS16 (pcS8 (pc3 (pc2 (pc1 b))))) : Nat) : Int)) = some (.int .i64 ((pcS32 (pcS16 (pcS8 (pc3 (pc2 (pc1 b))))) : Nat) : Int)) := by
    simp only [convA, Try.underlying106, Try.underlying3]
    rw [wrap64 (by omega) (by omega)]
  have c2 := bin_and127 Try.prog 3 (pcS32 (pcS16 (pcS8 (pc3 (pc2 (pc1 b)))))) (by omega)
  simp (maxSteps := 1000000) (disch := omega) only [cd91, k1, k2, k3, k4, k5, k6, k7, k8, k9, k10, k11, k12, k13, k14, k15, k16, k17, c1, c2, S, S1, S2, S3, S4, S5, ST, eq_self, reduceIte, reduceCtorEq, Nat.reduceEqDiff, Nat.reduceAdd]
  refine hQ _ _ _ ?_
  simp (maxSteps := 1000000) (disch := omega) only [S, S1, S2, S3, S4, S5, ST, eq_self, reduceIte, reduceCtorEq, Nat.reduceEqDiff, Nat.reduceAdd]
  rfl
theorem Ones_c (b : Nat) (H : AH) (hb : b < 2 ^ 64) : ACalls Try.prog 72 [.int .u64 (b : Int)] H fun r H' => r = .int .i64 ((popc b : Nat) : Int) ∧ H = H' := by
  refine in72 rfl ?_
  intro Q hQ
  simp (maxSteps := 1000000) (disch := omega) only [cd72, S, S1, S2, S3, S4, S5, ST, eq_self, reduceIte, reduceCtorEq, Nat.reduceEqDiff, Nat.reduceAdd]
  refine CallH.by (Ones64_c b H hb) ?_
  rintro _ _ ⟨rfl, rfl⟩
  simp (maxSteps := 1000000) (disch := omega) only [S, S1, S2, S3, S4, S5, ST, eq_self, reduceIte, reduceCtorEq, Nat.reduceEqDiff, Nat.reduceAdd]
  refine hQ _ _ _ ?_
  simp (maxSteps := 1000000) (disch := omega) only [S, S1, S2, S3, S4, S5, ST, eq_self, reduceIte, reduceCtorEq, Nat.reduceEqDiff, Nat.reduceAdd]
theorem size_c (b : Nat) (H : AH) (hb : b < 2 ^ 64) : ACalls Try.prog 58 [.int .u64 (b : Int)] H fun r H' => r = .int .i64 ((popc b : Nat) : Int) ∧ H = H' := by
  refine in58 rfl ?_
  intro Q hQ
  simp (maxSteps := 1000000) (disch := omega) only [cd58, S, S1, S2, S3, S4, S5, ST, eq_self, reduceIte, reduceCtorEq, Nat.reduceEqDiff, Nat.reduceAdd]
  refine CallH.by (Ones_c b H hb) ?_
  rintro _ _ ⟨rfl, rfl⟩
  simp (maxSteps := 1000000) (disch := omega) only [S, S1, S2, S3, S4, S5, ST, eq_self, reduceIte, reduceCtorEq, Nat.reduceEqDiff, Nat.reduceAdd]
  refine hQ _ _ _ ?_
  simp (maxSteps := 1000000) (disch := omega) only [S, S1, S2, S3, S4, S5, ST, eq_self, reduceIte, reduceCtorEq, Nat.reduceEqDiff, Nat.reduceAdd]
end Go.Proofs.Ytlcipphiflcaiaa.Ai
namespace Go.Proofs.Ytlcipphiflcaiaa.Ai
open Go
set_option linter.unusedVariables false
theorem nodup_leB {α : Type} [DecidableEq α] : ∀ (l m : List α), l.Nodup → (∀ x ∈ l, x ∈ m) → l.length ≤ m.length
  | [], m, _, _ => by simp
  | x :: l, m, hn, h => by
    have hn' := List.nodup_cons.1 hn
    have hx := h x (by simp)
    have := nodup_leB l (m.erase x) hn'.2 fun y hy => by
      exact (List.mem_erase_of_ne (fun e => by subst e; exact hn'.1 hy)).2 (h y (by simp [hy]))
    have h2 := List.length_erase_of_mem hx
    have h3 := List.length_pos_of_mem hx
    simp only [List.length_cons]; omega
theorem nodup_back {α : Type} [DecidableEq α] {l m : List α} (hn : l.Nodup) (h : ∀ x ∈ l, x ∈ m) (hl : m.length ≤ l.length) : ∀ x ∈ m, x ∈ l := by
  intro x hx
  refine Classical.byContradiction fun q => ?_
  have := nodup_leB (x :: l) m (List.nodup_cons.2 ⟨q, hn⟩) (fun y hy => by
    rcases List.mem_cons.1 hy with rfl | hy
    · exact hx
    · exact h y hy)
  simp only [List.length_cons] at this; omega
/-- is it so -/
noncomputable def pdc (p : Prop) : Bool := @decide p (Classical.propDecidable p)
theorem pdc_iff {p : Prop} : pdc p = true ↔ p := ⟨fun h => @of_decide_eq_true p (Classical.propDecidable p) h, fun h => @decide_eq_true p (Classical.propDecidable p) h⟩
theorem pdc_no {p : Prop} (h : ¬ p) : pdc p = false := by
  rw [← Bool.not_eq_true, pdc_iff]; exact h
/-- how many edges lie between two nodes -/
noncomputable def sepC (es : List (Int × Int)) (E : List Int) (x y : Nat) : Nat := E.countP fun e => pdc (¬ Jn es (wo1 E e) x y)
theorem sepC_le (es : List (Int × Int)) (E : List Int) (x y : Nat) : sepC es E x y ≤ E.length := List.countP_le_length
theorem sepC_symm (es : List (Int × Int)) (E : List Int) (x y : Nat) : sepC es E x y = sepC es E y x := by
  unfold sepC
  congr 1
  funext e
  have : (¬ Jn es (wo1 E e) x y) = ¬ Jn es (wo1 E e) y x := propext ⟨fun h q => h q.symm, fun h q => h q.symm⟩
  rw [this]
theorem sepC_self (es : List (Int × Int)) (E : List Int) (x : Nat) : sepC es E x x = 0 := by
  unfold sepC
  rw [List.countP_eq_zero]
  intro e _ h
  exact pdc_iff.1 h (.refl x)
theorem wo1_cons_self {E : List Int} {e : Int} (h : e ∉ E) : wo1 (e :: E) e = E := by
  unfold wo1
  rw [List.filter_cons]
  simp only [ne_eq, not_true_eq_false, decide_false, Bool.false_eq_true, if_false]
  rw [List.filter_eq_self]
  intro y hy
  simp only [decide_eq_true_eq]
  exact fun q => h (q ▸ hy)
/-- one more edge, at a new node -/
theorem sepC_old {es : List (Int × Int)} {E : List Int} {e0 : Int} (h0 : e0 ∉ E) {x y : Nat} (hj : Jn es E x y) : sepC es (e0 :: E) x y ≤ sepC es E x y := by
  unfold sepC
  rw [List.countP_cons, wo1_cons_self h0]
  have : pdc (¬ Jn es E x y) = false := by
    exact pdc_no fun q => q hj
  rw [this]
  simp only [Bool.false_eq_true, if_false, Nat.add_zero]
  refine List.countP_mono_left fun e he h => ?_
  rw [pdc_iff] at h ⊢
  exact fun q => h (q.mono fun z hz => wo1_mem.2 ⟨List.mem_cons_of_mem _ (wo1_mem.1 hz).1, (wo1_mem.1 hz).2⟩)
theorem sepC_new {es : List (Int × Int)} {E : List Int} {e0 : Int} (h0 : e0 ∉ E) {w z : Nat} (hj : Jn es [e0] w z) (y : Nat) : sepC es (e0 :: E) z y ≤ sepC es E w y + 1 := by
  unfold sepC
  rw [List.countP_cons]
  have h1 : (E.countP fun e => pdc (¬ Jn es (wo1 (e0 :: E) e) z y)) ≤ E.countP fun e => pdc (¬ Jn es (wo1 E e) w y) := by
    refine List.countP_mono_left fun e he h => ?_
    rw [pdc_iff] at h ⊢
    intro q
    have hne : e0 ≠ e := fun q => h0 (q ▸ he)
    have a : Jn es (wo1 (e0 :: E) e) w z := hj.mono fun x hx => by
      rw [List.mem_singleton] at hx
      subst hx
      exact wo1_mem.2 ⟨by simp, hne⟩
    exact h (a.symm.trans (q.mono fun z hz => wo1_mem.2 ⟨List.mem_cons_of_mem _ (wo1_mem.1 hz).1, (wo1_mem.1 hz).2⟩))
  split <;> omega
/-- pairs of a list, each once -/
def prL : List Nat → List (Nat × Nat)
  | [] => []
  | x :: l => l.map (fun y => (x, y)) ++ prL l
theorem prL_mem {x y : Nat} : ∀ {l : List Nat}, x ∈ l → y ∈ l → x ≠ y → (x, y) ∈ prL l ∨ (y, x) ∈ prL l
  | [], h, _, _ => by simp at h
  | z :: l, hx, hy, hne => by
    unfold prL
    rcases List.mem_cons.1 hx with h1 | h1
    · rcases List.mem_cons.1 hy with h2 | h2
      · exact absurd (h1.trans h2.symm) hne
      · left; rw [List.mem_append]; left; exact List.mem_map.2 ⟨y, h2, by rw [h1]⟩
    · rcases List.mem_cons.1 hy with h2 | h2
      · right; rw [List.mem_append]; left; exact List.mem_map.2 ⟨x, h1, by rw [h2]⟩
      · rcases prL_mem h1 h2 hne with q | q
        · left; exact List.mem_append_right _ q
        · right; exact List.mem_append_right _ q
theorem prL_in {x y : Nat} : ∀ {l : List Nat}, (x, y) ∈ prL l → x ∈ l ∧ y ∈ l
  | [], h => by simp [prL] at h
  | z :: l, h => by
    unfold prL at h
    rcases List.mem_append.1 h with q | q
    · obtain ⟨w, h1, h2⟩ := List.mem_map.1 q
      rw [Prod.mk.injEq] at h2
      obtain ⟨rfl, rfl⟩ := h2
      exact ⟨by simp, by simp [h1]⟩
    · obtain ⟨h1, h2⟩ := prL_in q
      exact ⟨by simp [h1], by simp [h2]⟩
def triN (j : Nat) : Nat := j * (j - 1) / 2
theorem triN_succ (j : Nat) : triN (j + 1) = triN j + j := by
  unfold triN
  cases j with
  | zero => rfl
  | succ j =>
    simp only [Nat.add_sub_cancel]
    rw [Nat.succ_mul (j + 1) (j + 1), Nat.mul_succ (j + 1) j]
    generalize (j + 1) * j = z
    omega
/-- a part of a tree, with its nodes -/
structure Grow (es : List (Int × Int)) (T : List Int) (n : Nat) (vs : List Nat) (E : List Int) : Prop where
  nd : vs.Nodup
  lt : ∀ x ∈ vs, x < n
  nde : E.Nodup
  sub : ∀ e ∈ E, e ∈ T
  len : E.length + 1 = vs.length
  con : ∀ x ∈ vs, ∀ y ∈ vs, Jn es E x y
  ends : ∀ e ∈ E, enA es e ∈ vs ∧ enB es e ∈ vs
  row : ∀ x ∈ vs, ∀ k, (vs.countP fun y => decide (k ≤ sepC es E x y)) ≤ vs.length - k
  pr : ∀ k, 1 ≤ k → ((prL vs).countP fun p => decide (k ≤ sepC es E p.1 p.2)) ≤ triN (vs.length + 1 - k)
theorem Grow.one (es : List (Int × Int)) (T : List Int) {n : Nat} (hn : 0 < n) : Grow es T n [0] [] := by
  refine ⟨by simp, fun x hx => by rw [List.mem_singleton] at hx; omega, .nil, by simp, rfl, fun x hx y hy => ?_, by simp, fun x hx k => ?_, fun k hk => by simp [prL]⟩
  · rw [List.mem_singleton] at hx hy
    subst hx; subst hy; exact .refl 0
  · rw [List.mem_singleton] at hx
    subst hx
    rw [List.countP_cons, List.countP_nil, sepC_self]
    cases k <;> simp
theorem Grow.step {es : List (Int × Int)} {T : List Int} {n : Nat} {vs : List Nat} {E : List Int} (g : Grow es T n vs E) {e0 : Int} {w z : Nat} (he : e0 ∈ T) (hw : w ∈ vs) (hz : z ∉ vs) (hzn : z < n) (hj : Jn es [e0] w z) (hz' : (enA es e0 = w ∧ enB es e0 = z) ∨ (enA es e0 = z ∧ enB es e0 = w)) : Grow es T n (z :: vs) (e0 :: E) := by
  have h0 : e0 ∉ E := fun q => by
    have := g.ends e0 q
    rcases hz' with ⟨_, q2⟩ | ⟨q1, _⟩
    · rw [q2] at this; exact hz this.2
    · rw [q1] at this; exact hz this.1
  have up : ∀ {x y}, Jn es E x y → Jn es (e0 :: E) x y := fun h => h.mono fun e he => List.mem_cons_of_mem _ he
  have hwz : Jn es (e0 :: E) w z := hj.mono fun e he => by rw [List.mem_singleton] at he; simp [he]
  have old : ∀ x ∈ vs, ∀ y ∈ vs, sepC es (e0 :: E) x y ≤ sepC es E x y := fun x hx y hy => sepC_old h0 (g.con x hx y hy)
  have new : ∀ y, sepC es (e0 :: E) z y ≤ sepC es E w y + 1 := fun y => sepC_new h0 hj y
  have toz : ∀ x ∈ vs, Jn es (e0 :: E) x z := fun x hx => (up (g.con x hx w hw)).trans hwz
  have hlen := g.len
  have zrow : ∀ k, 1 ≤ k → (vs.countP fun y => decide (k ≤ sepC es (e0 :: E) z y)) ≤ vs.length - (k - 1) := by
    intro k hk
    refine Nat.le_trans (List.countP_mono_left fun y hy h => ?_) (g.row w hw (k - 1))
    rw [decide_eq_true_eq] at h ⊢
    have := new y
    omega
  refine ⟨List.nodup_cons.2 ⟨hz, g.nd⟩, fun x hx => ?_, List.nodup_cons.2 ⟨h0, g.nde⟩, fun e h => ?_, by simp only [List.length_cons]; omega, fun x hx y hy => ?_, fun e h => ?_, fun x hx k => ?_, fun k hk => ?_⟩
  · rcases List.mem_cons.1 hx with rfl | hx
    · exact hzn
    · exact g.lt x hx
  · rcases List.mem_cons.1 h with rfl | h
    · exact he
    · exact g.sub e h
  · rcases List.mem_cons.1 hx with h1 | h1 <;> rcases List.mem_cons.1 hy with h2 | h2
    · rw [h1, h2]; exact .refl _
    · rw [h1]; exact (toz y h2).symm
    · rw [h2]; exact toz x h1
    · exact up (g.con x h1 y h2)
  · rcases List.mem_cons.1 h with rfl | h
    · rcases hz' with ⟨q1, q2⟩ | ⟨q1, q2⟩
      · rw [q1, q2]; exact ⟨by simp [hw], by simp⟩
      · rw [q1, q2]; exact ⟨by simp, by simp [hw]⟩
    · have := g.ends e h
      exact ⟨by simp [this.1], by simp [this.2]⟩
  · rw [List.countP_cons, List.length_cons]
    rcases List.mem_cons.1 hx with rfl | hx
    · rw [sepC_self]
      by_cases hk : k = 0
      · subst hk
        have := List.countP_le_length (p := fun y => decide (0 ≤ sepC es (e0 :: E) x y)) (l := vs)
        simp only [Nat.le_refl, decide_true, if_true]; omega
      · have := zrow k (by omega)
        have h2 : decide (k ≤ 0) = false := decide_eq_false (by omega)
        rw [h2]
        simp only [Bool.false_eq_true, if_false]; omega
    · have h1 : (vs.countP fun y => decide (k ≤ sepC es (e0 :: E) x y)) ≤ vs.length - k := by
        refine Nat.le_trans (List.countP_mono_left fun y hy h => ?_) (g.row x hx k)
        rw [decide_eq_true_eq] at h ⊢
        have := old x hx y hy
        omega
      by_cases hk : k ≤ vs.length
      · split <;> omega
      · have h2 : decide (k ≤ sepC es (e0 :: E) x z) = false := by
          refine decide_eq_false ?_
          have := sepC_le es (e0 :: E) x z
          simp only [List.length_cons] at this
          omega
        rw [h2]
        simp only [Bool.false_eq_true, if_false]; omega
  · unfold prL
    rw [List.countP_append, List.countP_map]
    have h1 : vs.countP ((fun p : Nat × Nat => decide (k ≤ sepC es (e0 :: E) p.1 p.2)) ∘ fun y => (z, y)) ≤ vs.length - (k - 1) := zrow k hk
    have h2 : ((prL vs).countP fun p => decide (k ≤ sepC es (e0 :: E) p.1 p.2)) ≤ triN (vs.length + 1 - k) := by
      refine Nat.le_trans (List.countP_mono_left fun p hp h => ?_) (g.pr k hk)
      rw [decide_eq_true_eq] at h ⊢
      have hi := prL_in (x := p.1) (y := p.2) hp
      have := old p.1 hi.1 p.2 hi.2
      omega
    rw [List.length_cons]
    by_cases hk2 : k ≤ vs.length + 1
    · have e : vs.length + 1 + 1 - k = (vs.length + 1 - k) + 1 := by omega
      rw [e, triN_succ]; omega
    · have hz0 : vs.length - (k - 1) = 0 := by omega
      have e : vs.length + 1 + 1 - k = vs.length + 1 - k := by omega
      rw [e]; omega
theorem jn_inv {es : List (Int × Int)} {T : List Int} {p : Nat → Prop} (h : ∀ e ∈ T, p (enA es e) ↔ p (enB es e)) {x y : Nat} (hj : Jn es T x y) : p x ↔ p y := by
  induction hj with
  | refl => exact Iff.rfl
  | edge e he => exact h e he
  | symm _ ih => exact ih.symm
  | trans _ _ i1 i2 => exact i1.trans i2
theorem grow_all {es : List (Int × Int)} {T : List Int} {n : Nat} (h : Tree es T n) (hn : 0 < n) : ∀ m, m + 1 ≤ n → ∃ vs E, Grow es T n vs E ∧ vs.length = m + 1
  | 0, _ => ⟨[0], [], .one es T hn, rfl⟩
  | m + 1, hm => by
    obtain ⟨vs, E, g, hl⟩ := grow_all h hn m (by omega)
    obtain ⟨y, hy, hyv⟩ : ∃ y, y < n ∧ y ∉ vs := by
      refine Classical.byContradiction fun q => ?_
      have := nodup_leB (List.range n) vs List.nodup_range fun x hx => Classical.byContradiction fun q2 => q ⟨x, List.mem_range.1 hx, q2⟩
      rw [List.length_range] at this; omega
    obtain ⟨v, hv⟩ : ∃ v, v ∈ vs := by
      cases vs with
      | nil => simp at hl
      | cons v vs => exact ⟨v, by simp⟩
    have hj := h.conn v y (g.lt v hv) hy
    obtain ⟨e, he, hne⟩ : ∃ e, e ∈ T ∧ ¬ (enA es e ∈ vs ↔ enB es e ∈ vs) := by
      refine Classical.byContradiction fun q => ?_
      have := jn_inv (p := fun x => x ∈ vs) (fun e he => Classical.byContradiction fun q2 => q ⟨e, he, q2⟩) hj
      exact hyv (this.1 hv)
    have hen := h.ends e he
    by_cases ha : enA es e ∈ vs
    · have hb : enB es e ∉ vs := fun q => hne ⟨fun _ => q, fun _ => ha⟩
      exact ⟨_, _, g.step he ha hb hen.2 (.edge e (by simp)) (.inl ⟨rfl, rfl⟩), by simp [hl]⟩
    · have hb : enB es e ∈ vs := Classical.byContradiction fun q => hne ⟨fun r => absurd r ha, fun r => absurd r q⟩
      exact ⟨_, _, g.step he hb ha hen.1 (.symm (.edge e (by simp))) (.inr ⟨rfl, rfl⟩), by simp [hl]⟩
/-- at most so many pairs of ends are so far -/
theorem far_few {es : List (Int × Int)} {T : List Int} {n : Nat} (h : Tree es T n) (hn : 0 < n) {F : List Int} (hF : F.Nodup) (hfe : ∀ f ∈ F, enA es f < enB es f ∧ enB es f < n) (hinj : ∀ f ∈ F, ∀ g ∈ F, enA es f = enA es g → enB es f = enB es g → f = g) (k : Nat) (hk : 1 ≤ k) :
    (F.countP fun f => decide (k ≤ sepC es T (enA es f) (enB es f))) ≤ triN (n + 1 - k) := by
  obtain ⟨vs, E, g, hl⟩ := grow_all h hn (n - 1) (by omega)
  have hl : vs.length = n := by omega
  have hET := nodup_back g.nde g.sub (by have := h.len; have := g.len; omega)
  have hsame : ∀ x y, sepC es T x y ≤ sepC es E x y := by
    intro x y
    unfold sepC
    rw [List.countP_eq_length_filter, List.countP_eq_length_filter]
    refine nodup_leB _ _ (h.nd.sublist List.filter_sublist) fun e he => ?_
    rw [List.mem_filter, pdc_iff] at he ⊢
    exact ⟨hET e he.1, fun q => he.2 (q.mono fun z hz => wo1_mem.2 ⟨g.sub z (wo1_mem.1 hz).1, (wo1_mem.1 hz).2⟩)⟩
  have hvs : ∀ x, x < n → x ∈ vs := fun x hx => nodup_back g.nd (m := List.range n) (fun y hy => List.mem_range.2 (g.lt y hy)) (by rw [List.length_range]; omega) x (List.mem_range.2 hx)
  have hp := g.pr k hk
  rw [hl] at hp
  refine Nat.le_trans ?_ hp
  rw [List.countP_eq_length_filter, List.countP_eq_length_filter]
  let m : Int → Nat × Nat := fun f => if (enA es f, enB es f) ∈ prL vs then (enA es f, enB es f) else (enB es f, enA es f)
  have hm : ∀ f, m f = (enA es f, enB es f) ∨ m f = (enB es f, enA es f) := by
    intro f
    show (if _ then _ else _) = _ ∨ (if _ then _ else _) = _
    split
    · exact .inl rfl
    · exact .inr rfl
  have := nodup_leB ((F.filter fun f => decide (k ≤ sepC es T (enA es f) (enB es f))).map m) ((prL vs).filter fun p => decide (k ≤ sepC es E p.1 p.2)) ?_ ?_
  · rw [List.length_map] at this; exact this
  · rw [List.Nodup, List.pairwise_map]
    refine List.Pairwise.imp_of_mem ?_ (hF.sublist List.filter_sublist)
    intro f f' h1 h2 hne heq
    have h1 := (List.mem_filter.1 h1).1
    have h2 := (List.mem_filter.1 h2).1
    have a1 := hfe f h1
    have a2 := hfe f' h2
    rcases hm f with q | q <;> rcases hm f' with q2 | q2 <;> rw [q, q2, Prod.mk.injEq] at heq
    · exact hne (hinj f h1 f' h2 heq.1 heq.2)
    · omega
    · omega
    · exact hne (hinj f h1 f' h2 heq.2 heq.1)
  · intro p hp
    obtain ⟨f, hf, rfl⟩ := List.mem_map.1 hp
    rw [List.mem_filter, decide_eq_true_eq] at hf
    obtain ⟨hf, hk⟩ := hf
    have a := hfe f hf
    have hs := hsame (enA es f) (enB es f)
    rw [List.mem_filter, decide_eq_true_eq]
    show (if _ then _ else _) ∈ _ ∧ k ≤ sepC es E (if _ then _ else _ : Nat × Nat).1 (if _ then _ else _ : Nat × Nat).2
    split
    · rename_i q; exact ⟨q, by simp only; omega⟩
    · rename_i q
      refine ⟨(prL_mem (hvs _ (by omega)) (hvs _ a.2) (by omega)).resolve_left q, ?_⟩
      simp only
      rw [sepC_symm]; omega
def farS (n m : Nat) : Nat := ((List.range 7).map fun k => min m (triN (n - k))).foldl (· + ·) 0
theorem sum_cnt {α : Type} (c : α → Nat) : ∀ (F : List α), (∀ f ∈ F, c f ≤ 7) → (F.map c).foldr (· + ·) 0 = F.countP (fun f => decide (1 ≤ c f)) + F.countP (fun f => decide (2 ≤ c f)) + F.countP (fun f => decide (3 ≤ c f)) + F.countP (fun f => decide (4 ≤ c f)) + F.countP (fun f => decide (5 ≤ c f)) + F.countP (fun f => decide (6 ≤ c f)) + F.countP (fun f => decide (7 ≤ c f))
  | [], _ => rfl
  | f :: F, h => by
    have ih := sum_cnt c F fun g hg => h g (by simp [hg])
    have hf := h f (by simp)
    rw [List.map_cons, List.foldr_cons, ih]
    simp only [List.countP_cons, decide_eq_true_eq]
    generalize c f = m at *
    have : m = 0 ∨ m = 1 ∨ m = 2 ∨ m = 3 ∨ m = 4 ∨ m = 5 ∨ m = 6 ∨ m = 7 := by omega
    rcases this with rfl | rfl | rfl | rfl | rfl | rfl | rfl | rfl <;> simp <;> omega
theorem far_sum {es : List (Int × Int)} {T : List Int} {n : Nat} (h : Tree es T n) (hn : 0 < n) (h8 : n ≤ 8) {F : List Int} (hF : F.Nodup) (hfe : ∀ f ∈ F, enA es f < enB es f ∧ enB es f < n) (hinj : ∀ f ∈ F, ∀ g ∈ F, enA es f = enA es g → enB es f = enB es g → f = g) :
    (F.map fun f => sepC es T (enA es f) (enB es f)).foldr (· + ·) 0 ≤ farS n F.length := by
  rw [sum_cnt _ F fun f _ => by have := sepC_le es T (enA es f) (enB es f); have := h.len; omega]
  have key := far_few h hn hF hfe hinj
  have b : ∀ k, (F.countP fun f => decide (k ≤ sepC es T (enA es f) (enB es f))) ≤ F.length := fun k => List.countP_le_length
  have m : ∀ k, 1 ≤ k → (F.countP fun f => decide (k ≤ sepC es T (enA es f) (enB es f))) ≤ min F.length (triN (n + 1 - k)) := fun k hk => Nat.le_min.2 ⟨b k, key k hk⟩
  have e : farS n F.length = min F.length (triN (n + 1 - 1)) + min F.length (triN (n + 1 - 2)) + min F.length (triN (n + 1 - 3)) + min F.length (triN (n + 1 - 4)) + min F.length (triN (n + 1 - 5)) + min F.length (triN (n + 1 - 6)) + min F.length (triN (n + 1 - 7)) := by
    unfold farS
    simp only [List.range, List.range.loop, List.map_cons, List.map_nil, List.foldl_cons, List.foldl_nil]
    have : ∀ k, n + 1 - (k + 1) = n - k := fun k => by omega
    rw [this 0, this 1, this 2, this 3, this 4, this 5, this 6]
    omega
  rw [e]
  have m1 := m 1 (by omega)
  have m2 := m 2 (by omega)
  have m3 := m 3 (by omega)
  have m4 := m 4 (by omega)
  have m5 := m 5 (by omega)
  have m6 := m 6 (by omega)
  have m7 := m 7 (by omega)
  omega
end Go.Proofs.Ytlcipphiflcaiaa.Ai
namespace Go.Proofs.Ytlcipphiflcaiaa.Ai
open Go Go.RowKit
set_option linter.unusedVariables false
theorem and_split (k : Nat) {x m : Nat} (y n : Nat) (hx : x < 2 ^ k) (hm : m < 2 ^ k) : (2 ^ k * y + x) &&& (2 ^ k * n + m) = 2 ^ k * (y &&& n) + (x &&& m) := by
  refine Nat.eq_of_testBit_eq fun j => ?_
  rw [Nat.testBit_and, Nat.testBit_two_pow_mul_add _ hx, Nat.testBit_two_pow_mul_add _ hm, Nat.testBit_two_pow_mul_add _ (Nat.lt_of_le_of_lt Nat.and_le_left hx)]
  split
  · rw [Nat.testBit_and]
  · rw [Nat.testBit_and]
/-- a mask that repeats after a byte -/
theorem and_top (k : Nat) {y : Nat} (n m : Nat) (hy : y < 2 ^ k) (hm : m < 2 ^ k) : y &&& (2 ^ k * n + m) = y &&& m := by
  have := and_split k 0 n hy hm
  rw [Nat.mul_zero, Nat.zero_add, Nat.zero_and, Nat.mul_zero, Nat.zero_add] at this
  exact this
theorem pc1_split {x y : Nat} (hx : x < 256) (hy : y < 2 ^ 48) : pc1 (256 * y + x) = 256 * pc1 y + pc1 x := by
  unfold pc1
  have e1 : (256 * y + x) / 2 ^ 1 = 2 ^ 8 * (y / 2) + (128 * (y % 2) + x / 2) := by omega
  have e2 : 256 * y + x = 2 ^ 8 * y + x := by omega
  have eM : 6148914691236517205 = 2 ^ 8 * 24019198012642645 + 85 := by decide
  have eM2 : 6148914691236517205 = 2 ^ 56 * 85 + 24019198012642645 := by decide
  rw [e1, e2]
  conv => lhs; rw [eM]
  rw [and_split 8 _ _ (by omega) (by decide), and_split 8 _ _ (by omega) (by decide)]
  have t1 := and_top 56 (y := y / 2) 85 24019198012642645 (by omega) (by decide)
  have t2 := and_top 56 (y := y) 85 24019198012642645 (by omega) (by decide)
  have t3 := and_top 8 (y := x / 2) 24019198012642645 85 (by omega) (by decide)
  have t4 := and_top 8 (y := x) 24019198012642645 85 (by omega) (by decide)
  have t5 := and_split 7 (x := x / 2) (m := 85) (y % 2) 0 (by omega) (by decide)
  have e5 : 128 * (y % 2) + x / 2 = 2 ^ 7 * (y % 2) + x / 2 := by omega
  rw [← eM2] at t1 t2
  rw [← eM] at t3 t4
  rw [Nat.and_zero, Nat.mul_zero, Nat.zero_add, Nat.zero_add] at t5
  have e6 : y / 2 ^ 1 = y / 2 := by omega
  have e7 : x / 2 ^ 1 = x / 2 := by omega
  rw [e5, t5, e6, e7, t1, t2, t3, t4]
  omega
theorem pc2_split {x y : Nat} (hx : x < 256) (hy : y < 2 ^ 48) : pc2 (256 * y + x) = 256 * pc2 y + pc2 x := by
  unfold pc2
  have e1 : (256 * y + x) / 2 ^ 2 = 2 ^ 8 * (y / 4) + (64 * (y % 4) + x / 4) := by omega
  have e2 : 256 * y + x = 2 ^ 8 * y + x := by omega
  have eM : 3689348814741910323 = 2 ^ 8 * 14411518807585587 + 51 := by decide
  have eM2 : 3689348814741910323 = 2 ^ 56 * 51 + 14411518807585587 := by decide
  rw [e1, e2]
  conv => lhs; rw [eM]
  rw [and_split 8 _ _ (by omega) (by decide), and_split 8 _ _ (by omega) (by decide)]
  have t1 := and_top 56 (y := y / 4) 51 14411518807585587 (by omega) (by decide)
  have t2 := and_top 56 (y := y) 51 14411518807585587 (by omega) (by decide)
  have t3 := and_top 8 (y := x / 4) 14411518807585587 51 (by omega) (by decide)
  have t4 := and_top 8 (y := x) 14411518807585587 51 (by omega) (by decide)
  have t5 := and_split 6 (x := x / 4) (m := 51) (y % 4) 0 (by omega) (by decide)
  have e5 : 64 * (y % 4) + x / 4 = 2 ^ 6 * (y % 4) + x / 4 := by omega
  rw [← eM2] at t1 t2
  rw [← eM] at t3 t4
  rw [Nat.and_zero, Nat.mul_zero, Nat.zero_add, Nat.zero_add] at t5
  have e6 : y / 2 ^ 2 = y / 4 := by omega
  have e7 : x / 2 ^ 2 = x / 4 := by omega
  rw [e5, t5, e6, e7, t1, t2, t3, t4]
  omega
theorem pc3_split {x y : Nat} (hx : x ≤ 68) (hy : y < 2 ^ 40) (hy16 : y % 16 ≤ 4) : pc3 (256 * y + x) = 256 * pc3 y + pc3 x := by
  unfold pc3
  have e1 : (256 * y + x) / 2 ^ 4 + (256 * y + x) = 2 ^ 8 * (y / 16 + y) + (16 * (y % 16) + x / 16 + x) := by omega
  have eM : 1085102592571150095 = 2 ^ 8 * 4238682002231055 + 15 := by decide
  have eM2 : 1085102592571150095 = 2 ^ 56 * 15 + 4238682002231055 := by decide
  rw [e1]
  conv => lhs; rw [eM]
  rw [and_split 8 _ _ (by omega) (by decide)]
  have t1 := and_top 56 (y := y / 16 + y) 15 4238682002231055 (by omega) (by decide)
  have t3 := and_top 8 (y := x / 16 + x) 4238682002231055 15 (by omega) (by decide)
  rw [← eM2] at t1
  rw [← eM] at t3
  have m1 : (16 * (y % 16) + x / 16 + x) &&& 15 = (16 * (y % 16) + x / 16 + x) % 16 := Nat.and_two_pow_sub_one_eq_mod _ 4
  have m2 : (x / 16 + x) &&& 15 = (x / 16 + x) % 16 := Nat.and_two_pow_sub_one_eq_mod _ 4
  have e6 : y / 2 ^ 4 = y / 16 := by omega
  have e7 : x / 2 ^ 4 = x / 16 := by omega
  rw [e6, e7, t1, t3, m1, m2]
  omega
/-- a byte's own count -/
def cb8 (x : Nat) : Nat := pc3 (pc2 (pc1 x))
def byteOk : Bool := (List.range 256).all fun x => decide (cb8 x = (List.range 8).countP fun j => x.testBit j) && (Nat.ble (pc1 x) 170 && (Nat.ble (pc2 (pc1 x)) 68 && Nat.ble (pc2 (pc1 x) % 16) 4))
theorem byteOk_ok : byteOk = true := by decide +kernel
theorem byte_ok {x : Nat} (h : x < 256) : cb8 x = ((List.range 8).countP fun j => x.testBit j) ∧ pc1 x ≤ 170 ∧ pc2 (pc1 x) ≤ 68 ∧ pc2 (pc1 x) % 16 ≤ 4 := by
  have := byteOk_ok
  unfold byteOk at this
  rw [List.all_eq_true] at this
  have := this x (List.mem_range.2 h)
  simp only [Bool.and_eq_true, decide_eq_true_eq] at this
  exact ⟨this.1, Nat.le_of_ble_eq_true this.2.1, Nat.le_of_ble_eq_true this.2.2.1, Nat.le_of_ble_eq_true this.2.2.2⟩
theorem popc_bytes {a b c d : Nat} (ha : a < 256) (hb : b < 256) (hc : c < 256) (hd : d < 256) : popc (a + 256 * (b + 256 * (c + 256 * d))) = cb8 a + cb8 b + cb8 c + cb8 d := by
  obtain ⟨a0, a1, a2, a3⟩ := byte_ok ha
  obtain ⟨b0, b1, b2, b3⟩ := byte_ok hb
  obtain ⟨c0, c1, c2, c3⟩ := byte_ok hc
  obtain ⟨d0, d1, d2, d3⟩ := byte_ok hd
  have le8 : ∀ x : Nat, ((List.range 8).countP fun j => x.testBit j) ≤ 8 := fun x => by
    have := List.countP_le_length (p := fun j => x.testBit j) (l := List.range 8)
    rw [List.length_range] at this
    exact this
  have a8 := le8 a
  have b8 := le8 b
  have c8 := le8 c
  have d8 := le8 d
  have e : a + 256 * (b + 256 * (c + 256 * d)) = 256 * (256 * (256 * d + c) + b) + a := by omega
  rw [e]
  have p1 : pc1 (256 * (256 * (256 * d + c) + b) + a) = 256 * (256 * (256 * pc1 d + pc1 c) + pc1 b) + pc1 a := by
    rw [pc1_split ha (by omega), pc1_split hb (by omega), pc1_split hc (by omega)]
  have p2 : pc2 (256 * (256 * (256 * pc1 d + pc1 c) + pc1 b) + pc1 a) = 256 * (256 * (256 * pc2 (pc1 d) + pc2 (pc1 c)) + pc2 (pc1 b)) + pc2 (pc1 a) := by
    rw [pc2_split (by omega) (by omega), pc2_split (by omega) (by omega), pc2_split (by omega) (by omega)]
  have p3 : pc3 (256 * (256 * (256 * pc2 (pc1 d) + pc2 (pc1 c)) + pc2 (pc1 b)) + pc2 (pc1 a)) = 256 * (256 * (256 * cb8 d + cb8 c) + cb8 b) + cb8 a := by
    rw [pc3_split (by omega) (by omega) (by omega), pc3_split (by omega) (by omega) (by omega), pc3_split (by omega) (by omega) (by omega)]
    rfl
  unfold popc
  rw [p1, p2, p3]
  rw [← a0] at a8
  rw [← b0] at b8
  rw [← c0] at c8
  rw [← d0] at d8
  have m : ∀ z : Nat, z &&& 127 = z % 128 := fun z => Nat.and_two_pow_sub_one_eq_mod z 7
  rw [m]
  unfold pcS32 pcS16 pcS8
  generalize cb8 a = A at *
  generalize cb8 b = B at *
  generalize cb8 c = C at *
  generalize cb8 d = D at *
  clear p1 p2 p3 a0 a1 a2 a3 b0 b1 b2 b3 c0 c1 c2 c3 d0 d1 d2 d3 e
  have s1 : (256 * (256 * (256 * D + C) + B) + A) / 2 ^ 8 = 256 * (256 * D + C) + B := by omega
  rw [s1]
  have s2 : (256 * (256 * (256 * D + C) + B) + A + (256 * (256 * D + C) + B)) / 2 ^ 16 = 256 * D + (C + D) := by omega
  rw [s2]
  have s3 : (256 * (256 * (256 * D + C) + B) + A + (256 * (256 * D + C) + B) + (256 * D + (C + D))) / 2 ^ 32 = 0 := by omega
  rw [s3]
  omega
/-- the count is that of the bits -/
theorem popc_cnt {b : Nat} (h : b < 2 ^ 32) : popc b = (List.range 32).countP fun z => b.testBit z := by
  have e : b = b % 256 + 256 * (b / 256 % 256 + 256 * (b / 65536 % 256 + 256 * (b / 16777216))) := by omega
  have hp := popc_bytes (a := b % 256) (b := b / 256 % 256) (c := b / 65536 % 256) (d := b / 16777216) (by omega) (by omega) (by omega) (by omega)
  rw [← e] at hp
  rw [hp, (byte_ok (x := b % 256) (by omega)).1, (byte_ok (x := b / 256 % 256) (by omega)).1, (byte_ok (x := b / 65536 % 256) (by omega)).1, (byte_ok (x := b / 16777216) (by omega)).1]
  have r32 : List.range 32 = List.range 8 ++ ((List.range 8).map (· + 8) ++ ((List.range 8).map (· + 16) ++ (List.range 8).map (· + 24))) := by decide
  rw [r32, List.countP_append, List.countP_append, List.countP_append, List.countP_map, List.countP_map, List.countP_map]
  have tb : ∀ (x j : Nat), x.testBit j = decide (x / 2 ^ j % 2 = 1) := fun x j => Nat.testBit_eq_decide_div_mod_eq
  have k0 : ((List.range 8).countP fun j => (b % 256).testBit j) = (List.range 8).countP fun z => b.testBit z := List.countP_congr fun j hj => by
    rw [show (256 : Nat) = 2 ^ 8 from rfl, Nat.testBit_mod_two_pow, decide_eq_true (List.mem_range.1 hj), Bool.true_and]
  have kk : ∀ s : Nat, ((List.range 8).countP fun j => (b / 2 ^ s % 256).testBit j) = (List.range 8).countP ((fun z => b.testBit z) ∘ (· + s)) := fun s => List.countP_congr fun j hj => by
    rw [show (256 : Nat) = 2 ^ 8 from rfl, Nat.testBit_mod_two_pow, decide_eq_true (List.mem_range.1 hj), Bool.true_and, Nat.testBit_div_two_pow]
    show _ ↔ b.testBit (j + s) = true
    exact Iff.rfl
  have k1 := kk 8
  have k2 := kk 16
  have k3 := kk 24
  rw [k0]
  have e1 : b / 2 ^ 8 = b / 256 := rfl
  have e2 : b / 2 ^ 16 = b / 65536 := rfl
  have e3 : b / 2 ^ 24 % 256 = b / 16777216 := by omega
  rw [e1] at k1
  rw [e2] at k2
  rw [e3] at k3
  rw [k1, k2, k3]
  omega
theorem popc_len2 {b : Nat} {s : List Int} (hb : b < 2 ^ 64 ∧ ∀ z, z < 64 → b.testBit z = decide ((z : Int) ∈ s)) (hs : s.Pairwise (· < ·)) (hr : ∀ x ∈ s, 0 ≤ x ∧ x < 28) : popc b = s.length := by
  have h28 : b < 2 ^ 32 := by
    refine Nat.lt_pow_two_of_testBit b fun i hi => ?_
    by_cases q : i < 64
    · rw [hb.2 i q, decide_eq_false_iff_not]
      intro w
      have := hr _ w
      omega
    · exact Nat.testBit_lt_two_pow (Nat.lt_of_lt_of_le hb.1 (Nat.pow_le_pow_right (by omega) (by omega)))
  rw [popc_cnt h28, List.countP_eq_length_filter]
  have h1 := nodup_leB (((List.range 32).filter fun z => b.testBit z).map fun z : Nat => (z : Int)) s (by
    rw [List.Nodup, List.pairwise_map]
    exact (List.nodup_range.sublist List.filter_sublist).imp fun q e => q (by omega)) fun x hx => by
      obtain ⟨z, hz, rfl⟩ := List.mem_map.1 hx
      obtain ⟨z1, z2⟩ := List.mem_filter.1 hz
      have := List.mem_range.1 z1
      rw [hb.2 z (by omega)] at z2
      exact of_decide_eq_true z2
  have h2 := nodup_leB s (((List.range 32).filter fun z => b.testBit z).map fun z : Nat => (z : Int)) (hs.imp fun q e => by omega) fun x hx => by
    have := hr x hx
    refine List.mem_map.2 ⟨x.toNat, List.mem_filter.2 ⟨List.mem_range.2 (by omega), ?_⟩, by omega⟩
    rw [hb.2 _ (by omega), decide_eq_true_eq]
    have e : ((x.toNat : Nat) : Int) = x := by omega
    rw [e]; exact hx
  rw [List.length_map] at h1 h2
  omega
end Go.Proofs.Ytlcipphiflcaiaa.Ai
