/- Alternating walks of two matchings; in plain Lean. -/
import Derived.Test.YthhnpchjjbjabaaPcS
namespace Go.Proofs.Ythhnpchjjbjabaa.Ai
open Go
set_option linter.unusedVariables false

/-- an exchange of the members of a set without fixed points -/
structure Mate (N : Int → Prop) (m : Int → Int) : Prop where
  in_ : ∀ x, N x → N (m x)
  ne : ∀ x, N x → m x ≠ x
  inv : ∀ x, N x → m (m x) = x
/-- by turns -/
def trn (mA mB : Int → Int) (k : Nat) : Int → Int := if k % 2 = 0 then mA else mB
def alw (mA mB : Int → Int) (s : Int) : Nat → Int
  | 0 => s
  | k + 1 => trn mA mB k (alw mA mB s k)
theorem trn_two (mA mB : Int → Int) (k d : Nat) : trn mA mB (k + 2 * d) = trn mA mB k := by
  unfold trn
  have : (k + 2 * d) % 2 = k % 2 := by omega
  rw [this]
section
variable {N : Int → Prop} {mA mB : Int → Int} (hA : Mate N mA) (hB : Mate N mB) {s : Int} (hs : N s)
include hA hB
theorem trn_mate (k : Nat) : Mate N (trn mA mB k) := by
  unfold trn; split
  · exact hA
  · exact hB
include hs
theorem alw_in : ∀ k, N (alw mA mB s k)
  | 0 => hs
  | k + 1 => (trn_mate hA hB k).in_ _ (alw_in k)
theorem alw_back (k : Nat) : trn mA mB k (alw mA mB s (k + 1)) = alw mA mB s k := (trn_mate hA hB k).inv _ (alw_in hA hB hs k)
theorem alw_odd : ∀ d a, alw mA mB s a ≠ alw mA mB s (a + (2 * d + 1))
  | 0, a => fun e => (trn_mate hA hB a).ne _ (alw_in hA hB hs a) e.symm
  | d + 1, a => fun e => by
    have h1 := alw_back hA hB hs (a + 2 * (d + 1))
    rw [show a + 2 * (d + 1) + 1 = a + (2 * (d + 1) + 1) by omega, ← e, trn_two] at h1
    have h2 := alw_odd d (a + 1)
    rw [show a + 1 + (2 * d + 1) = a + 2 * (d + 1) by omega, ← h1] at h2
    exact h2 rfl
theorem alw_even : ∀ a d, alw mA mB s a = alw mA mB s (a + 2 * d) → s = alw mA mB s (2 * d)
  | 0, d, e => by rw [Nat.zero_add] at e; exact e
  | a + 1, d, e => by
    refine alw_even a d ?_
    have h1 := alw_back hA hB hs a
    have h2 := alw_back hA hB hs (a + 2 * d)
    rw [show a + 2 * d + 1 = a + 1 + 2 * d by omega, ← e, trn_two] at h2
    rw [← h1, ← h2]
end
/-- the first return -/
structure Per (mA mB : Int → Int) (s : Int) (p : Nat) : Prop where
  pos : 1 ≤ p
  ret : alw mA mB s (2 * p) = s
  min : ∀ k, 1 ≤ k → k < p → alw mA mB s (2 * k) ≠ s
theorem per_min {mA mB : Int → Int} {s : Int} : ∀ q, 1 ≤ q → alw mA mB s (2 * q) = s → ∃ p, p ≤ q ∧ Per mA mB s p := by
  intro q
  induction q using Nat.strongRecOn with
  | ind q ih =>
    intro h1 h2
    by_cases h : ∃ k, 1 ≤ k ∧ k < q ∧ alw mA mB s (2 * k) = s
    · obtain ⟨k, k1, k2, k3⟩ := h
      obtain ⟨p, p1, p2⟩ := ih k k2 k1 k3
      exact ⟨p, by omega, p2⟩
    · exact ⟨q, Nat.le_refl _, h1, h2, fun k k1 k2 k3 => h ⟨k, k1, k2, k3⟩⟩
theorem per_ex {n : Nat} {mA mB : Int → Int} (hA : Mate (fun x => 0 ≤ x ∧ x < n) mA) (hB : Mate (fun x => 0 ≤ x ∧ x < n) mB) {s : Int} (hs : 0 ≤ s ∧ s < n) : ∃ p, p ≤ n ∧ Per mA mB s p := by
  have hnot : ¬ ((List.range (n + 1)).map fun i => alw mA mB s (2 * i)).Nodup := by
    intro h
    have := nodupP_le n _ h (fun x hx => by
      obtain ⟨i, _, rfl⟩ := List.mem_map.1 hx
      exact alw_in hA hB hs (2 * i))
    simp at this
    omega
  have hex : ∃ i j, i < j ∧ j < n + 1 ∧ alw mA mB s (2 * i) = alw mA mB s (2 * j) := by
    refine Classical.byContradiction fun hno => hnot ?_
    rw [List.Nodup, List.pairwise_map]
    refine List.Pairwise.imp_of_mem ?_ List.pairwise_lt_range
    intro i j hi hj hij e
    exact hno ⟨i, j, hij, List.mem_range.1 hj, e⟩
  obtain ⟨i, j, hij, hj, e⟩ := hex
  have := alw_even hA hB hs (2 * i) (j - i) (by rw [show 2 * i + 2 * (j - i) = 2 * j by omega]; exact e)
  obtain ⟨p, h1, h2⟩ := per_min (mA := mA) (mB := mB) (s := s) (j - i) (by omega) this.symm
  exact ⟨p, by omega, h2⟩
/-- the walk to its first return -/
def alwL (mA mB : Int → Int) (s : Int) (k : Nat) : List Int := (List.range k).map (alw mA mB s)
section
variable {N : Int → Prop} {mA mB : Int → Int} (hA : Mate N mA) (hB : Mate N mB) {s : Int} (hs : N s) {p : Nat} (hp : Per mA mB s p)
include hA hB hs hp
theorem alwL_nodup : (alwL mA mB s (2 * p)).Nodup := by
  unfold alwL
  rw [List.Nodup, List.pairwise_map]
  refine List.Pairwise.imp_of_mem ?_ List.pairwise_lt_range
  intro a b ha hb hab e
  have hb' := List.mem_range.1 hb
  by_cases h2 : (b - a) % 2 = 0
  · obtain ⟨d, hd⟩ : ∃ d, b = a + 2 * d := ⟨(b - a) / 2, by omega⟩
    rw [hd] at e
    have := alw_even hA hB hs a d e
    exact hp.min d (by omega) (by omega) this.symm
  · obtain ⟨d, hd⟩ : ∃ d, b = a + (2 * d + 1) := ⟨(b - a) / 2, by omega⟩
    rw [hd] at e
    exact alw_odd hA hB hs d a e
theorem alwL_clo {x : Int} (hx : x ∈ alwL mA mB s (2 * p)) : mA x ∈ alwL mA mB s (2 * p) ∧ mB x ∈ alwL mA mB s (2 * p) := by
  unfold alwL at *
  obtain ⟨a, ha, rfl⟩ := List.mem_map.1 hx
  have ha' := List.mem_range.1 ha
  have hp1 := hp.pos
  have mem : ∀ k, k < 2 * p → alw mA mB s k ∈ (List.range (2 * p)).map (alw mA mB s) := fun k hk => List.mem_map.2 ⟨k, List.mem_range.2 hk, rfl⟩
  have nxt : trn mA mB a (alw mA mB s a) ∈ (List.range (2 * p)).map (alw mA mB s) := by
    by_cases e : a + 1 < 2 * p
    · exact mem (a + 1) e
    · have e2 : a + 1 = 2 * p := by omega
      have : trn mA mB a (alw mA mB s a) = alw mA mB s (a + 1) := rfl
      rw [this, e2, hp.ret]
      exact mem 0 (by omega)
  have prv : trn mA mB (a + 1) (alw mA mB s a) ∈ (List.range (2 * p)).map (alw mA mB s) := by
    by_cases e : a = 0
    · subst e
      have h1 := alw_back hA hB hs (2 * p - 1)
      rw [show 2 * p - 1 + 1 = 2 * p by omega, hp.ret] at h1
      have h2 : trn mA mB (2 * p - 1) = trn mA mB 1 := by
        rw [show 2 * p - 1 = 1 + 2 * (p - 1) by omega, trn_two]
      rw [h2] at h1
      show trn mA mB 1 s ∈ _
      rw [h1]
      exact mem _ (by omega)
    · have h1 := alw_back hA hB hs (a - 1)
      rw [show a - 1 + 1 = a by omega] at h1
      have h2 : trn mA mB (a + 1) = trn mA mB (a - 1) := by
        rw [show a + 1 = a - 1 + 2 * 1 by omega, trn_two]
      rw [h2, h1]
      exact mem _ (by omega)
  unfold trn at nxt prv
  by_cases h2 : a % 2 = 0
  · rw [if_pos h2] at nxt
    rw [if_neg (by omega)] at prv
    exact ⟨nxt, prv⟩
  · rw [if_neg h2] at nxt
    rw [if_pos (by omega)] at prv
    exact ⟨prv, nxt⟩
end
theorem nodup_le_of : ∀ (l m : List Int), l.Nodup → (∀ x ∈ l, x ∈ m) → l.length ≤ m.length
  | [], m, _, _ => Nat.zero_le _
  | a :: l, m, hn, h => by
    have ha := h a (by simp)
    have hn' := List.nodup_cons.1 hn
    have := nodup_le_of l (m.erase a) hn'.2 (fun x hx => (List.mem_erase_of_ne (fun e => by subst e; exact hn'.1 hx)).2 (h x (by simp [hx])))
    rw [List.length_erase_of_mem ha] at this
    have : 0 < m.length := List.length_pos_of_mem ha
    simp only [List.length_cons]
    omega

/- mates by the edges of a matching -/
def mateF (es : List (Int × Int)) : List Int → Int → Int
  | [], _ => -1
  | i :: r, x => if ed1 es i = x then ed2 es i else if ed2 es i = x then ed1 es i else mateF es r x
theorem seenL_mem (es : List (Int × Int)) (xs : List Int) (x : Int) : x ∈ seenL es xs ↔ ∃ i ∈ xs, x = ed1 es i ∨ x = ed2 es i := by
  unfold seenL
  rw [List.mem_flatMap]
  simp
theorem mateF_ed (es : List (Int × Int)) : ∀ (xs : List Int), (seenL es xs).Nodup → ∀ i ∈ xs, mateF es xs (ed1 es i) = ed2 es i ∧ mateF es xs (ed2 es i) = ed1 es i
  | [], _, i, hi => by simp at hi
  | j :: r, hn, i, hi => by
    have hc : seenL es (j :: r) = ed1 es j :: ed2 es j :: seenL es r := rfl
    rw [hc] at hn
    have h1 := List.nodup_cons.1 hn
    have h2 := List.nodup_cons.1 h1.2
    by_cases e : i = j
    · subst e
      simp only [mateF, if_true]
      refine ⟨trivial, ?_⟩
      rw [if_neg (fun e => h1.1 (by rw [e]; simp))]
    · have hir : i ∈ r := by simpa [e] using hi
      have m1 : ed1 es i ∈ seenL es r := (seenL_mem es r _).2 ⟨i, hir, .inl rfl⟩
      have m2 : ed2 es i ∈ seenL es r := (seenL_mem es r _).2 ⟨i, hir, .inr rfl⟩
      have ih := mateF_ed es r h2.2 i hir
      simp only [mateF]
      have a1 : ed1 es j ≠ ed1 es i := fun e => h1.1 (by rw [e]; exact List.mem_cons_of_mem _ m1)
      have a2 : ed2 es j ≠ ed1 es i := fun e => h2.1 (by rw [e]; exact m1)
      have a3 : ed1 es j ≠ ed2 es i := fun e => h1.1 (by rw [e]; exact List.mem_cons_of_mem _ m2)
      have a4 : ed2 es j ≠ ed2 es i := fun e => h2.1 (by rw [e]; exact m2)
      rw [if_neg a1, if_neg a2, if_neg a3, if_neg a4]
      exact ih
section
variable {n : Nat} {es : List (Int × Int)} (hg : Grd (n : Int) es)
include hg
theorem seen_nodup {a : List Int} (hm : Mtc es a) : (seenL es a).Nodup := by
  have key : ∀ k, k ≤ a.length → (seenL es (a.take k)).Nodup := by
    intro k
    induction k with
    | zero => intro _; simp [seenL]
    | succ k ih =>
      intro hk
      rw [seenL_take es a k (by omega)]
      obtain ⟨h1, h2⟩ := hm k (by omega)
      have hmem : es.getD (a.getD k 0).toNat (0, 0) ∈ es := by
        have hlt : (a.getD k 0).toNat < es.length := by have := h1.1; omega
        rw [List.getD_eq_getElem?_getD, List.getElem?_eq_getElem hlt]
        exact List.getElem_mem _
      have hr := grd_mem hg hmem
      have hne : ed1 es (a.getD k 0) ≠ ed2 es (a.getD k 0) := by
        show (es.getD (a.getD k 0).toNat (0, 0)).1 ≠ (es.getD (a.getD k 0).toNat (0, 0)).2
        omega
      rw [List.nodup_append]
      refine ⟨ih (by omega), List.nodup_cons.2 ⟨fun h => hne (List.mem_singleton.1 h), List.nodup_cons.2 ⟨by simp, List.nodup_nil⟩⟩, fun x hx y hy e => ?_⟩
      subst e
      simp only [List.mem_cons, List.not_mem_nil, or_false] at hy
      rcases hy with rfl | rfl
      · exact h2.1 hx
      · exact h2.2 hx
  have := key a.length (Nat.le_refl _)
  rwa [List.take_length] at this
theorem ed_rng {a : List Int} (hm : Mtc es a) {i : Int} (hi : i ∈ a) : es.getD i.toNat (0, 0) ∈ es ∧ 0 ≤ ed1 es i ∧ ed1 es i < ed2 es i ∧ ed2 es i < n := by
  have h := mtc_rng hm i hi
  have hmem : es.getD i.toNat (0, 0) ∈ es := by
    rw [List.getD_eq_getElem?_getD, List.getElem?_eq_getElem (show i.toNat < es.length by omega)]
    exact List.getElem_mem _
  exact ⟨hmem, grd_mem hg hmem⟩
theorem seen_all {a : List Int} (hm : Mtc es a) (hl : 2 * a.length = n) {x : Int} (hx : 0 ≤ x ∧ x < n) : x ∈ seenL es a := by
  refine Decidable.byContradiction fun hno => ?_
  have hn : (x :: seenL es a).Nodup := List.nodup_cons.2 ⟨hno, seen_nodup hg hm⟩
  have := nodupP_le n _ hn (fun y hy => by
    rcases List.mem_cons.1 hy with rfl | hy
    · exact hx
    · obtain ⟨i, hi, e⟩ := (seenL_mem es a y).1 hy
      have := ed_rng hg hm hi
      rcases e with rfl | rfl <;> omega)
  rw [List.length_cons, seenL_len] at this
  omega
theorem mate_ok {a : List Int} (hm : Mtc es a) (hl : 2 * a.length = n) : Mate (fun x => 0 ≤ x ∧ x < n) (mateF es a) := by
  have key : ∀ x : Int, 0 ≤ x ∧ x < n → ∃ i ∈ a, (x = ed1 es i ∧ mateF es a x = ed2 es i) ∨ (x = ed2 es i ∧ mateF es a x = ed1 es i) := by
    intro x hx
    obtain ⟨i, hi, e⟩ := (seenL_mem es a x).1 (seen_all hg hm hl hx)
    have := mateF_ed es a (seen_nodup hg hm) i hi
    refine ⟨i, hi, ?_⟩
    rcases e with rfl | rfl
    · exact .inl ⟨rfl, this.1⟩
    · exact .inr ⟨rfl, this.2⟩
  refine ⟨fun x hx => ?_, fun x hx => ?_, fun x hx => ?_⟩
  · obtain ⟨i, hi, h⟩ := key x hx
    have := ed_rng hg hm hi
    rcases h with ⟨e1, e2⟩ | ⟨e1, e2⟩ <;> rw [e2] <;> omega
  · obtain ⟨i, hi, h⟩ := key x hx
    have := ed_rng hg hm hi
    rcases h with ⟨e1, e2⟩ | ⟨e1, e2⟩ <;> rw [e2] <;> omega
  · obtain ⟨i, hi, h⟩ := key x hx
    have := mateF_ed es a (seen_nodup hg hm) i hi
    rcases h with ⟨e1, e2⟩ | ⟨e1, e2⟩
    · rw [e2, this.2, e1]
    · rw [e2, this.1, e1]
/-- an edge of a matching joins a node to its mate -/
theorem mate_near {a : List Int} (hm : Mtc es a) (hl : 2 * a.length = n) {x y : Int} (hx : 0 ≤ x ∧ x < n) : mateF es a x = y ↔ ∃ i ∈ a, es.getD i.toNat (0, 0) = (x, y) ∨ es.getD i.toNat (0, 0) = (y, x) := by
  have hed := mateF_ed es a (seen_nodup hg hm)
  constructor
  · intro h
    obtain ⟨i, hi, e⟩ := (seenL_mem es a x).1 (seen_all hg hm hl hx)
    refine ⟨i, hi, ?_⟩
    rcases e with rfl | rfl
    · left; rw [(hed i hi).1] at h; rw [← h]
    · right; rw [(hed i hi).2] at h; rw [← h]
  · rintro ⟨i, hi, e | e⟩
    · have e1 : ed1 es i = x := by show (es.getD i.toNat (0, 0)).1 = x; rw [e]
      have e2 : ed2 es i = y := by show (es.getD i.toNat (0, 0)).2 = y; rw [e]
      have := (hed i hi).1
      rw [e1, e2] at this; exact this
    · have e1 : ed1 es i = y := by show (es.getD i.toNat (0, 0)).1 = y; rw [e]
      have e2 : ed2 es i = x := by show (es.getD i.toNat (0, 0)).2 = x; rw [e]
      have := (hed i hi).2
      rw [e1, e2] at this; exact this
theorem es_inj {i j : Nat} (hi : i < es.length) (hj : j < es.length) {x y : Int} (h1 : es.getD i (0, 0) = (x, y) ∨ es.getD i (0, 0) = (y, x)) (h2 : es.getD j (0, 0) = (x, y) ∨ es.getD j (0, 0) = (y, x)) : i = j := by
  have at_ : ∀ i (h : i < es.length), es.getD i (0, 0) = es[i] := fun i h => by simp [h]
  have mi : es.getD i (0, 0) ∈ es := by rw [at_ i hi]; exact List.getElem_mem _
  have mj : es.getD j (0, 0) ∈ es := by rw [at_ j hj]; exact List.getElem_mem _
  have ri := grd_mem hg mi
  have rj := grd_mem hg mj
  have heq : es.getD i (0, 0) = es.getD j (0, 0) := by
    rcases h1 with h1 | h1 <;> rcases h2 with h2 | h2 <;> rw [h1] at ri ⊢ <;> rw [h2] at rj ⊢ <;> simp only at ri rj <;> omega
  have hp := grd_pwP hg
  rw [List.pairwise_iff_getElem] at hp
  rcases Nat.lt_trichotomy i j with h | h | h
  · have := hp i j hi hj h
    rw [← at_ i hi, ← at_ j hj, heq] at this
    unfold pairLt at this; omega
  · exact h
  · have := hp j i hj hi h
    rw [← at_ i hi, ← at_ j hj, heq] at this
    unfold pairLt at this; omega
theorem diff_near {a b : List Int} (hma : Mtc es a) (hmb : Mtc es b) (hla : 2 * a.length = n) (hlb : 2 * b.length = n) {x y : Int} (hx : 0 ≤ x ∧ x < n) :
    nearB (dE es a b) x y = true ↔ mateF es a x ≠ mateF es b x ∧ (y = mateF es a x ∨ y = mateF es b x) := by
  have na := fun z => mate_near hg hma hla (y := z) hx
  have nb := fun z => mate_near hg hmb hlb (y := z) hx
  rw [nearB_iff]
  have hmem : ∀ e : Int × Int, e ∈ dE es a b ↔ ∃ i : Int, ((0 ≤ i ∧ i < es.length) ∧ (decide (i ∈ a) != decide (i ∈ b)) = true) ∧ es.getD i.toNat (0, 0) = e := by
    intro e
    unfold dE dED
    rw [List.mem_map]
    exact exists_congr fun i => by rw [dix_mem]
  have lhs : ((x, y) ∈ dE es a b ∨ (y, x) ∈ dE es a b) ↔ ∃ i : Int, ((0 ≤ i ∧ i < es.length) ∧ (decide (i ∈ a) != decide (i ∈ b)) = true) ∧ (es.getD i.toNat (0, 0) = (x, y) ∨ es.getD i.toNat (0, 0) = (y, x)) := by
    rw [hmem, hmem]
    constructor
    · rintro (⟨i, h1, h2⟩ | ⟨i, h1, h2⟩)
      · exact ⟨i, h1, .inl h2⟩
      · exact ⟨i, h1, .inr h2⟩
    · rintro ⟨i, h1, h2 | h2⟩
      · exact .inl ⟨i, h1, h2⟩
      · exact .inr ⟨i, h1, h2⟩
  rw [lhs]
  have same : ∀ i j : Int, (0 ≤ i ∧ i < es.length) → (0 ≤ j ∧ j < es.length) → (es.getD i.toNat (0, 0) = (x, y) ∨ es.getD i.toNat (0, 0) = (y, x)) → (es.getD j.toNat (0, 0) = (x, y) ∨ es.getD j.toNat (0, 0) = (y, x)) → i = j := fun i j hi hj h1 h2 => by
    have := es_inj hg (i := i.toNat) (j := j.toNat) (by omega) (by omega) h1 h2
    omega
  constructor
  · rintro ⟨i, ⟨hi, hd⟩, h⟩
    by_cases ia : i ∈ a
    · have ib : i ∉ b := fun ib => by rw [decide_eq_true ia, decide_eq_true ib] at hd; simp at hd
      have ha := (na y).2 ⟨i, ia, h⟩
      refine ⟨fun e => ?_, .inl ha.symm⟩
      obtain ⟨j, jb, hj⟩ := (nb y).1 (by rw [← e]; exact ha)
      have := same i j hi (mtc_rng hmb j jb) h hj
      subst this
      exact ib jb
    · have ib : i ∈ b := Decidable.byContradiction fun ib => by rw [decide_eq_false ia, decide_eq_false ib] at hd; simp at hd
      have hb := (nb y).2 ⟨i, ib, h⟩
      refine ⟨fun e => ?_, .inr hb.symm⟩
      obtain ⟨j, ja, hj⟩ := (na y).1 (by rw [e]; exact hb)
      have := same i j hi (mtc_rng hma j ja) h hj
      subst this
      exact ia ja
  · rintro ⟨hne, h | h⟩
    · obtain ⟨i, ia, hi⟩ := (na y).1 h.symm
      have ib : i ∉ b := fun ib => hne (by rw [← h]; exact ((nb y).2 ⟨i, ib, hi⟩).symm)
      exact ⟨i, ⟨mtc_rng hma i ia, by rw [decide_eq_true ia, decide_eq_false ib]; rfl⟩, hi⟩
    · obtain ⟨i, ib, hi⟩ := (nb y).1 h.symm
      have ia : i ∉ a := fun ia => hne (by rw [← h]; exact (na y).2 ⟨i, ia, hi⟩)
      exact ⟨i, ⟨mtc_rng hmb i ib, by rw [decide_eq_false ia, decide_eq_true ib]; rfl⟩, hi⟩
/-- the walk goes over the piece that it begins in -/
theorem alt_piece {a b : List Int} (hma : Mtc es a) (hmb : Mtc es b) (hla : 2 * a.length = n) (hlb : 2 * b.length = n) {P : List Int} (hP : P ∈ piecesL (dE es a b) (domL (dE es a b) n n)) {p : Nat} (hp : Per (mateF es a) (mateF es b) (P.getD 0 0) p) : P.length = 2 * p := by
  have hA := mate_ok hg hma hla
  have hB := mate_ok hg hmb hlb
  have hs := piece_first hP
  have dom : ∀ x ∈ P, (0 ≤ x ∧ x < n) ∧ nbB (dE es a b) n x = true := fun x hx => (domL_mem _ _ _ x).1 (piece_sub hP hx)
  have hsN := (dom _ hs).1
  have hne : ∀ x ∈ P, mateF es a x ≠ mateF es b x := fun x hx => by
    obtain ⟨h1, h2⟩ := dom x hx
    obtain ⟨y, hy, hn⟩ := (nbB_iff _ _ _).1 h2
    exact ((diff_near hg hma hmb hla hlb h1).1 hn).1
  have stepP : ∀ x ∈ P, mateF es a x ∈ P ∧ mateF es b x ∈ P := fun x hx => by
    obtain ⟨h1, h2⟩ := dom x hx
    have nA := (diff_near hg hma hmb hla hlb h1).2 ⟨hne x hx, .inl rfl⟩
    have nB := (diff_near hg hma hmb hla hlb h1).2 ⟨hne x hx, .inr rfl⟩
    have inD : ∀ y, nearB (dE es a b) x y = true → y ∈ domL (dE es a b) n n := fun y hy => by
      have hr := dE_rng hg hy
      refine (domL_mem _ _ _ y).2 ⟨hr.2.1, (nbB_iff _ _ _).2 ⟨x, hr.1, by rw [nearB_comm]; exact hy⟩⟩
    exact ⟨piece_clo hP (inD _ nA) nA hx, piece_clo hP (inD _ nB) nB hx⟩
  have walkP : ∀ k, alw (mateF es a) (mateF es b) (P.getD 0 0) k ∈ P := by
    intro k
    induction k with
    | zero => exact hs
    | succ k ih =>
      show trn _ _ k _ ∈ P
      unfold trn
      split
      · exact (stepP _ ih).1
      · exact (stepP _ ih).2
  have hWP : ∀ x ∈ alwL (mateF es a) (mateF es b) (P.getD 0 0) (2 * p), x ∈ P := fun x hx => by
    obtain ⟨k, _, rfl⟩ := List.mem_map.1 hx
    exact walkP k
  have hPW : ∀ x ∈ P, x ∈ alwL (mateF es a) (mateF es b) (P.getD 0 0) (2 * p) := fun x hx => by
    have hr := piece_rch hP hs hx
    have hp1 := hp.pos
    induction hr with
    | refl => exact List.mem_map.2 ⟨0, List.mem_range.2 (by omega), rfl⟩
    | @step y z h1 h2 h3 ih =>
      have hyD := h1.in_ (S := (· ∈ domL (dE es a b) n n)) (piece_sub hP hs)
      have hyP : y ∈ P := by
        obtain ⟨q, hq, rfl⟩ := pieces_mem hP
        have hfD := piece_sub hP hs
        exact (reach_iff _ _ _ hq y).2 (((reach_iff _ _ _ hq _).1 hs).trans' h1)
      have hw := ih hyP
      have hN := (dom y hyP).1
      have := ((diff_near hg hma hmb hla hlb hN).1 h2).2
      have hc := alwL_clo hA hB hsN hp hw
      rcases this with e | e
      · rw [e]; exact hc.1
      · rw [e]; exact hc.2
  have hl : (alwL (mateF es a) (mateF es b) (P.getD 0 0) (2 * p)).length = 2 * p := by simp [alwL]
  have hPn : P.Nodup := by
    obtain ⟨q, hq, rfl⟩ := pieces_mem hP
    exact (reach_srt _ _ _).imp fun h e => by omega
  have h1 := nodup_le_of _ _ hPn hPW
  have h2 := nodup_le_of _ _ (alwL_nodup hA hB hsN hp) hWP
  omega
end
end Go.Proofs.Ythhnpchjjbjabaa.Ai
