/- Colourings with two colours, in plain Lean: by trying, and by the parity of distances. -/
import Derived.Test.YthhnpchjjbjabaaTwo
namespace Go.Proofs.Ythhnpchjjbjabaa.Ai
open Go
set_option linter.unusedVariables false

/-- is a colour free behind some colours -/
def freeK (es : List (Int × Int)) (b : List Int) (c : Int) : Nat → Bool
  | 0 => true
  | j + 1 => freeK es b c j && (decide (b.getD j 0 ≠ c) || !nearB es (j : Int) (b.length : Int))
def tryC (es : List (Int × Int)) (rec : List Int → List (List Int) → List (List Int)) (b : List Int) : Nat → Nat → List (List Int) → List (List Int)
  | 0, _, ls => ls
  | d + 1, c, ls => tryC es rec b d (c + 1) (if ls.length ≤ 300 ∧ freeK es b (c : Int) b.length = true then rec (b ++ [(c : Int)]) ls else ls)
/-- the colourings with two colours that begin with some, behind those of a list -/
def moreL (es : List (Int × Int)) : Nat → List Int → List (List Int) → List (List Int)
  | 0 => fun b ls => ls ++ [b]
  | f + 1 => fun b ls => tryC es (moreL es f) b 2 0 ls
theorem tryC_full (es : List (Int × Int)) (rec : List Int → List (List Int) → List (List Int)) (b : List Int) (ls : List (List Int)) (h : ¬ ls.length ≤ 300) : ∀ d c, tryC es rec b d c ls = ls
  | 0, _ => rfl
  | d + 1, c => by
    simp only [tryC]
    rw [if_neg (fun g => h g.1)]
    exact tryC_full es rec b ls h d (c + 1)
theorem tryC_len (es : List (Int × Int)) (rec : List Int → List (List Int) → List (List Int)) (b : List Int) (hr : ∀ b ls, ls.length ≤ 300 → (rec b ls).length ≤ 301) : ∀ d c ls, ls.length ≤ 301 → (tryC es rec b d c ls).length ≤ 301
  | 0, _, ls, h => h
  | d + 1, c, ls, h => by
    simp only [tryC]
    refine tryC_len es rec b hr d (c + 1) _ ?_
    split
    · rename_i g; exact hr _ _ g.1
    · exact h
theorem moreL_len (es : List (Int × Int)) : ∀ f b ls, ls.length ≤ 300 → (moreL es f b ls).length ≤ 301
  | 0, b, ls, h => by simp [moreL]; omega
  | f + 1, b, ls, h => tryC_len es (moreL es f) b (moreL_len es f) 2 0 ls (by omega)
theorem moreL_ne (es : List (Int × Int)) : ∀ f b ls, ls ≠ [] → moreL es f b ls ≠ []
  | 0, b, ls, h => by simp [moreL]
  | f + 1, b, ls, h => by
    have key : ∀ d c ls, ls ≠ [] → tryC es (moreL es f) b d c ls ≠ [] := by
      intro d
      induction d with
      | zero => intro c ls h; exact h
      | succ d ih =>
        intro c ls h
        simp only [tryC]
        refine ih (c + 1) _ ?_
        split
        · exact moreL_ne es f _ ls h
        · exact h
    exact key 2 0 ls h
theorem freeK_iff (es : List (Int × Int)) (b : List Int) (c : Int) (k : Nat) : freeK es b c k = true ↔ ∀ y, y < k → b.getD y 0 ≠ c ∨ nearB es (y : Int) (b.length : Int) = false := by
  induction k with
  | zero => simp [freeK]
  | succ k ih =>
    simp only [freeK, Bool.and_eq_true, ih, Bool.or_eq_true, decide_eq_true_eq, Bool.not_eq_true']
    constructor
    · rintro ⟨h1, h2⟩ y hy
      by_cases e : y = k
      · subst e; exact h2
      · exact h1 y (by omega)
    · intro h
      exact ⟨fun y hy => h y (by omega), h k (by omega)⟩
/-- a colouring with two colours -/
def Col2 (es : List (Int × Int)) (N : Nat) (g : Nat → Int) : Prop := (∀ i, i < N → g i = 0 ∨ g i = 1) ∧ ∀ i j : Nat, i < N → j < N → nearB es (i : Int) (j : Int) = true → g i ≠ g j
def Ext2 (es : List (Int × Int)) (N : Nat) (b : List Int) : Prop := ∃ g, Col2 es N g ∧ ∀ i, i < b.length → g i = b.getD i 0
theorem moreL_iff {n : Int} {es : List (Int × Int)} (hg : Grd n es) : ∀ f b, Col2 es b.length (fun i => b.getD i 0) → (moreL es f b [] ≠ [] ↔ Ext2 es (b.length + f) b)
  | 0, b, hb => by
    refine ⟨fun _ => ⟨_, hb, fun _ _ => rfl⟩, fun _ => ?_⟩
    simp [moreL]
  | f + 1, b, hb => by
    have at1 : ∀ (c : Int) i, (b ++ [c]).getD i 0 = if i < b.length then b.getD i 0 else if i = b.length then c else 0 := by
      intro c i
      rw [List.getD_eq_getElem?_getD, List.getElem?_append]
      split
      · rw [← List.getD_eq_getElem?_getD]
      · split
        · rename_i h; subst h; simp
        · rename_i h1 h2
          rw [List.getElem?_eq_none (by simp; omega)]; rfl
    have col : ∀ c : Int, (c = 0 ∨ c = 1) → freeK es b c b.length = true → Col2 es (b ++ [c]).length (fun i => (b ++ [c]).getD i 0) := by
      intro c hc hf
      rw [freeK_iff] at hf
      refine ⟨fun i hi => ?_, fun i j hi hj hn => ?_⟩
      · simp only [at1]
        simp only [List.length_append, List.length_cons, List.length_nil] at hi
        split
        · rename_i h; exact hb.1 i h
        · rw [if_pos (by omega)]; exact hc
      · simp only [at1]
        simp only [List.length_append, List.length_cons, List.length_nil] at hi hj
        have hne := (near_rng hg hn).2.2
        by_cases h1 : i < b.length
        · rw [if_pos h1]
          by_cases h2 : j < b.length
          · rw [if_pos h2]; exact hb.2 i j h1 h2 hn
          · have : j = b.length := by omega
            subst this
            rw [if_neg h2, if_pos rfl]
            rcases hf i h1 with h | h
            · exact h
            · rw [h] at hn; exact absurd hn (by decide)
        · have : i = b.length := by omega
          subst this
          rw [if_neg h1, if_pos rfl]
          have h2 : j < b.length := by omega
          rw [if_pos h2]
          rcases hf j h2 with h | h
          · exact fun e => h e.symm
          · rw [nearB_comm, h] at hn; exact absurd hn (by decide)
    have ext : ∀ c : Int, Ext2 es ((b ++ [c]).length + f) (b ++ [c]) → Ext2 es (b.length + (f + 1)) b := by
      rintro c ⟨g, h1, h2⟩
      have e : (b ++ [c]).length + f = b.length + (f + 1) := by simp; omega
      rw [e] at h1
      refine ⟨g, h1, fun i hi => ?_⟩
      rw [h2 i (by simp; omega), at1, if_pos hi]
    have back : Ext2 es (b.length + (f + 1)) b → ∃ c : Int, (c = 0 ∨ c = 1) ∧ freeK es b c b.length = true ∧ Ext2 es ((b ++ [c]).length + f) (b ++ [c]) := by
      rintro ⟨g, h1, h2⟩
      refine ⟨g b.length, h1.1 _ (by omega), ?_, g, ?_, fun i hi => ?_⟩
      · rw [freeK_iff]
        intro y hy
        by_cases hn : nearB es (y : Int) (b.length : Int) = true
        · left
          rw [← h2 y hy]
          exact h1.2 y b.length (by omega) (by omega) hn
        · right; simpa using hn
      · have e : (b ++ [g b.length]).length + f = b.length + (f + 1) := by simp; omega
        rw [e]; exact h1
      · rw [at1]
        simp only [List.length_append, List.length_cons, List.length_nil] at hi
        split
        · rename_i h; exact h2 i h
        · rw [if_pos (by omega)]
          congr 1; omega
    have ih := fun c hc hf => moreL_iff hg f (b ++ [c]) (col c hc hf)
    have e0 : moreL es (f + 1) b [] = tryC es (moreL es f) b 2 0 [] := rfl
    rw [e0]
    simp only [tryC]
    have hz : ((0 : Nat) : Int) = 0 := rfl
    have ho : ((0 + 1 : Nat) : Int) = 1 := rfl
    rw [hz, ho]
    generalize hl1 : (if ([] : List (List Int)).length ≤ 300 ∧ freeK es b 0 b.length = true then moreL es f (b ++ [0]) [] else []) = l1
    have f1 : l1 ≠ [] ↔ (freeK es b 0 b.length = true ∧ Ext2 es ((b ++ [0]).length + f) (b ++ [0])) := by
      rw [← hl1]
      by_cases h : freeK es b 0 b.length = true
      · rw [if_pos ⟨by simp, h⟩, ih 0 (.inl rfl) h]
        exact ⟨fun g => ⟨h, g⟩, fun g => g.2⟩
      · rw [if_neg (fun g => h g.2)]
        exact ⟨fun g => absurd rfl g, fun g => absurd g.1 h⟩
    by_cases hne : l1 = []
    · have h0 : ¬ (freeK es b 0 b.length = true ∧ Ext2 es ((b ++ [0]).length + f) (b ++ [0])) := fun g => f1.2 g hne
      rw [hne]
      by_cases h : freeK es b 1 b.length = true
      · rw [if_pos ⟨by simp, h⟩, ih 1 (.inr rfl) h]
        refine ⟨ext 1, fun g => ?_⟩
        obtain ⟨c, hc, g1, g2⟩ := back g
        rcases hc with rfl | rfl
        · exact absurd ⟨g1, g2⟩ h0
        · exact g2
      · rw [if_neg (fun g => h g.2)]
        refine ⟨fun g => absurd rfl g, fun g => ?_⟩
        obtain ⟨c, hc, g1, g2⟩ := back g
        rcases hc with rfl | rfl
        · exact absurd ⟨g1, g2⟩ h0
        · exact absurd g1 h
    · have hE := f1.1 hne
      refine ⟨fun _ => ext 0 hE.2, fun _ => ?_⟩
      split
      · exact moreL_ne es f _ l1 hne
      · exact hne
/-- even -/
def evB (n : Nat) (es : List (Int × Int)) : Bool := decide (0 < (moreL es n [] []).length)
theorem evB_iff {n : Nat} {es : List (Int × Int)} (hg : Grd (n : Int) es) : evB n es = true ↔ ∃ g, Col2 es n g := by
  unfold evB
  rw [decide_eq_true_iff, List.length_pos_iff, moreL_iff hg n [] ⟨fun i hi => absurd hi (Nat.not_lt_zero i), fun i j hi => absurd hi (Nat.not_lt_zero i)⟩]
  unfold Ext2
  simp only [List.length_nil, Nat.zero_add]
  exact ⟨fun ⟨g, h, _⟩ => ⟨g, h⟩, fun ⟨g, h⟩ => ⟨g, h, fun i hi => absurd hi (Nat.not_lt_zero i)⟩⟩

/- distances by the queue: what holds all along -/
structure DI (L : List (List Int)) (i : Nat) (st : List Int × List Int) (k : Nat) : Prop where
  bi : BI L.length st
  iff : ∀ v, v < L.length → (0 ≤ st.1.getD v 0 ↔ (v : Int) ∈ st.2)
  src : ∀ v, v < L.length → 0 ≤ st.1.getD v 0 → (v = i ∧ st.1.getD v 0 = 0) ∨ ∃ u, u < L.length ∧ 0 ≤ st.1.getD u 0 ∧ (v : Int) ∈ L.getD u [] ∧ st.1.getD v 0 = st.1.getD u 0 + 1
  cl : ∀ j, j < k → ∀ y ∈ L.getD (st.2.getD j 0).toNat [], 0 ≤ st.1.getD y.toNat 0
  le : k ≤ st.2.length
  at_ : 0 ≤ st.1.getD i 0
theorem bfsIn_keep (d : Int) (v : Nat) : ∀ (l : List Int) (st : List Int × List Int), (∀ y ∈ l, 0 ≤ y ∧ y < st.1.length) → 0 ≤ st.1.getD v 0 → (bfsIn d l st).1.getD v 0 = st.1.getD v 0
  | [], st, _, _ => rfl
  | j :: r, st, hl, h => by
    simp only [bfsIn]
    have hj := hl j (by simp)
    split
    · rename_i hn
      have hvj : j.toNat ≠ v := fun e => by rw [e] at hn; omega
      have e1 : (st.1.set j.toNat d).getD v 0 = st.1.getD v 0 := by
        rw [List.getD_eq_getElem?_getD, List.getD_eq_getElem?_getD, List.getElem?_set_ne hvj]
      rw [bfsIn_keep d v r _ (fun y hy => by simpa using hl y (by simp [hy])) (by show 0 ≤ (st.1.set j.toNat d).getD v 0; rw [e1]; exact h)]
      exact e1
    · exact bfsIn_keep d v r st (fun y hy => hl y (by simp [hy])) h
theorem bfsIn_new (d : Int) (hd : 0 ≤ d) (v : Nat) : ∀ (l : List Int) (st : List Int × List Int), (∀ y ∈ l, 0 ≤ y ∧ y < st.1.length) → v < st.1.length → st.1.getD v 0 < 0 →
    (((v : Int) ∈ l ∧ (bfsIn d l st).1.getD v 0 = d ∧ (v : Int) ∈ (bfsIn d l st).2) ∨ ((v : Int) ∉ l ∧ (bfsIn d l st).1.getD v 0 = st.1.getD v 0 ∧ ((v : Int) ∈ (bfsIn d l st).2 → (v : Int) ∈ st.2)))
  | [], st, _, _, h => .inr ⟨by simp, rfl, id⟩
  | j :: r, st, hl, hv, h => by
    have hj := hl j (by simp)
    simp only [bfsIn]
    by_cases e : j = (v : Int)
    · subst e
      rw [Int.toNat_natCast, if_pos h]
      have e1 : (st.1.set v d).getD v 0 = d := by rw [getD_setB _ _ _ _ hv, if_pos rfl]
      refine .inl ⟨by simp, ?_, ?_⟩
      · rw [bfsIn_keep d v r _ (fun y hy => by simpa using hl y (by simp [hy])) (by show 0 ≤ (st.1.set v d).getD v 0; rw [e1]; exact hd)]
        exact e1
      · exact (bfsIn_pre d r _).subset (by simp)
    · have hne : ¬ (v : Int) = j := fun h => e h.symm
      split
      · rename_i hn
        have e1 : (st.1.set j.toNat d).getD v 0 = st.1.getD v 0 := by
          rw [getD_setB _ _ _ _ hv, if_neg (by omega)]
        rcases bfsIn_new d hd v r (st.1.set j.toNat d, st.2 ++ [j]) (fun y hy => by simpa using hl y (by simp [hy])) (by simpa using hv) (by show (st.1.set j.toNat d).getD v 0 < 0; rw [e1]; exact h) with ⟨h1, h2, h3⟩ | ⟨h1, h2, h3⟩
        · exact .inl ⟨by simp [h1], h2, h3⟩
        · refine .inr ⟨by simp [hne, h1], by rw [h2]; exact e1, fun h4 => ?_⟩
          have := h3 h4
          simpa [hne] using this
      · rcases bfsIn_new d hd v r st (fun y hy => hl y (by simp [hy])) hv h with ⟨h1, h2, h3⟩ | ⟨h1, h2, h3⟩
        · exact .inl ⟨by simp [h1], h2, h3⟩
        · exact .inr ⟨by simp [hne, h1], h2, h3⟩
theorem DI.step {L : List (List Int)} (hL : LOk L.length L) {i : Nat} {st : List Int × List Int} {k : Nat} (h : DI L i st k) (hk : k < st.2.length) :
    DI L i (bfsIn (st.1.getD (st.2.getD k 0).toNat 0 + 1) (L.getD (st.2.getD k 0).toNat []) st) (k + 1) := by
  have hm : st.2.getD k 0 ∈ st.2 := by simp [hk]
  obtain ⟨hxr, hx0⟩ := h.bi.q _ hm
  have hlo := h.bi.lo (st.2.getD k 0).toNat (by omega)
  have hlen := h.bi.len
  generalize hx : (st.2.getD k 0).toNat = x at *
  generalize hd : st.1.getD x 0 + 1 = d at *
  have hl := hL x
  have hl' : ∀ y ∈ L.getD x [], 0 ≤ y ∧ y < (st.1.length : Int) := by rw [hlen]; exact hl
  have hbi := BI.inn (d := d) _ h.bi hl (by omega)
  have hpre := bfsIn_pre d (L.getD x []) st
  have keep : ∀ v, 0 ≤ st.1.getD v 0 → _ := fun v hv => bfsIn_keep d v (L.getD x []) st hl' hv
  have new : ∀ v, v < L.length → st.1.getD v 0 < 0 → _ := fun v hv hn => bfsIn_new d (by omega) v (L.getD x []) st hl' (by omega) hn
  refine ⟨hbi, ?_, ?_, ?_, ?_, ?_⟩
  · intro v hv
    by_cases hn : 0 ≤ st.1.getD v 0
    · rw [keep v hn]
      exact ⟨fun _ => hpre.subset ((h.iff v hv).1 hn), fun _ => hn⟩
    · rcases new v hv (by omega) with ⟨h1, h2, h3⟩ | ⟨h1, h2, h3⟩
      · rw [h2]; exact ⟨fun _ => h3, fun _ => by omega⟩
      · rw [h2]; exact ⟨fun g => absurd g hn, fun g => (h.iff v hv).2 (h3 g)⟩
  · intro v hv hp
    by_cases hn : 0 ≤ st.1.getD v 0
    · rw [keep v hn]
      rcases h.src v hv hn with h1 | ⟨u, u1, u2, u3, u4⟩
      · exact .inl h1
      · exact .inr ⟨u, u1, by rw [keep u u2]; exact u2, u3, by rw [keep u u2]; exact u4⟩
    · rcases new v hv (by omega) with ⟨h1, h2, h3⟩ | ⟨h1, h2, h3⟩
      · refine .inr ⟨x, by omega, by rw [keep x hx0]; exact hx0, h1, ?_⟩
        rw [h2, keep x hx0, ← hd]
      · rw [h2] at hp; exact absurd hp hn
  · intro j hj y hy
    have hg : (bfsIn d (L.getD x []) st).2.getD j 0 = st.2.getD j 0 := by
      obtain ⟨t, ht⟩ := hpre
      rw [← ht, List.getD_eq_getElem?_getD, List.getElem?_append_left (by omega), ← List.getD_eq_getElem?_getD]
    rw [hg] at hy
    by_cases hn : 0 ≤ st.1.getD y.toNat 0
    · rw [keep _ hn]; exact hn
    · by_cases e : j = k
      · subst e
        rw [hx] at hy
        have hr := hl y hy
        rcases new y.toNat (by omega) (by omega) with ⟨h1, h2, h3⟩ | ⟨h1, h2, h3⟩
        · rw [h2]; omega
        · rw [Int.toNat_of_nonneg hr.1] at h1; exact absurd hy h1
      · exact absurd (h.cl j (by omega) y hy) hn
  · have := hpre.length_le
    omega
  · rw [keep i h.at_]; exact h.at_
theorem DI.run {L : List (List Int)} (hL : LOk L.length L) {i : Nat} : ∀ (f : Nat) (st : List Int × List Int) (k : Nat), f + k = L.length + 1 → DI L i st k → ∃ q, DI L i (bfsF L f st k, q) q.length
  | 0, st, k, hf, h => by have := h.bi.len_le; have := h.le; omega
  | f + 1, st, k, hf, h => by
    simp only [bfsF]
    split
    · rename_i hk
      exact DI.run hL f _ _ (by omega) (h.step hL hk)
    · have e : k = st.2.length := by have := h.le; omega
      exact ⟨st.2, by rw [← e]; exact h⟩
theorem DI.zero {L : List (List Int)} {i : Nat} (hi : i < L.length) : DI L i (bfs0 L.length i, [(i : Int)]) 0 := by
  have hat : ∀ v, v < L.length → (bfs0 L.length i).getD v 0 = if i = v then 0 else -1 := by
    intro v hv
    unfold bfs0
    rw [getD_setB _ _ _ _ (by simpa using hv)]
    split
    · rfl
    · rw [List.getD_eq_getElem?_getD, List.getElem?_replicate, if_pos hv]; rfl
  refine ⟨bfs0_BI _ i hi, ?_, ?_, fun j hj => absurd hj (Nat.not_lt_zero j), Nat.zero_le _, ?_⟩
  · intro v hv
    show 0 ≤ (bfs0 L.length i).getD v 0 ↔ (v : Int) ∈ [(i : Int)]
    rw [hat v hv, List.mem_singleton]
    split <;> omega
  · intro v hv h
    left
    have h' : 0 ≤ (bfs0 L.length i).getD v 0 := h
    rw [hat v hv] at h'
    show v = i ∧ (bfs0 L.length i).getD v 0 = 0
    rw [hat v hv]
    by_cases e : i = v
    · exact ⟨e.symm, by rw [if_pos e]⟩
    · rw [if_neg e] at h'; omega
  · show 0 ≤ (bfs0 L.length i).getD i 0
    rw [hat i hi, if_pos rfl]; omega
theorem bfs_DI {L : List (List Int)} (hL : LOk L.length L) {i : Nat} (hi : i < L.length) : ∃ q, DI L i (bfs L i, q) q.length := DI.run hL _ _ _ (by omega) (DI.zero hi)
/-- neighbors of what is met are met -/
theorem bfs_clo {L : List (List Int)} (hL : LOk L.length L) {i : Nat} (hi : i < L.length) {u : Nat} (hu : u < L.length) (h0 : 0 ≤ (bfs L i).getD u 0) {y : Int} (hy : y ∈ L.getD u []) : 0 ≤ (bfs L i).getD y.toNat 0 := by
  obtain ⟨q, h⟩ := bfs_DI hL hi
  obtain ⟨j, hj, e⟩ := List.mem_iff_getElem.1 ((h.iff u hu).1 h0)
  refine h.cl j hj y ?_
  have e2 : q.getD j 0 = (u : Int) := by simp [hj, e]
  show y ∈ L.getD (q.getD j 0).toNat []
  rw [e2, Int.toNat_natCast]; exact hy
/-- the parity of distances is the colour -/
theorem bfs_par {L : List (List Int)} (hL : LOk L.length L) {i : Nat} (hi : i < L.length) (g : Nat → Int) (h01 : ∀ v, v < L.length → g v = 0 ∨ g v = 1) (hc : ∀ u v : Nat, u < L.length → v < L.length → (v : Int) ∈ L.getD u [] → g u ≠ g v) :
    ∀ (d : Nat) (v : Nat), v < L.length → (bfs L i).getD v 0 = d → (g v - g i) % 2 = (d : Int) % 2 := by
  obtain ⟨q, h⟩ := bfs_DI hL hi
  intro d
  induction d with
  | zero =>
    intro v hv hd
    rcases h.src v hv (show 0 ≤ (bfs L i).getD v 0 by omega) with ⟨e, _⟩ | ⟨u, u1, u2, u3, u4⟩
    · subst e; simp
    · have u2' : 0 ≤ (bfs L i).getD u 0 := u2
      have u4' : (bfs L i).getD v 0 = (bfs L i).getD u 0 + 1 := u4
      omega
  | succ d ih =>
    intro v hv hd
    rcases h.src v hv (show 0 ≤ (bfs L i).getD v 0 by omega) with ⟨_, e⟩ | ⟨u, u1, u2, u3, u4⟩
    · have e' : (bfs L i).getD v 0 = 0 := e
      omega
    · have u4' : (bfs L i).getD v 0 = (bfs L i).getD u 0 + 1 := u4
      have := ih u u1 (by omega)
      have h1 := h01 u u1
      have h2 := h01 v hv
      have h3 := hc u v u1 hv u3
      omega
end Go.Proofs.Ythhnpchjjbjabaa.Ai
