/- All permutations of a few numbers in order, their places and codes; in plain Lean. -/
import Derived.Test.YthhnpchjjbjabaaPermP
namespace Go.Proofs.Ythhnpchjjbjabaa.Ai
open Go
set_option linter.unusedVariables false

def pmT (rec : List Int → List (List Int)) (b : List Int) : Nat → Nat → List (List Int)
  | 0, _ => []
  | d + 1, c => (if (c : Int) ∈ b then [] else rec (b ++ [(c : Int)])) ++ pmT rec b d (c + 1)
/-- all lists of different numbers below n that have so many more than those that they begin with -/
def pmG (n : Nat) : Nat → List Int → List (List Int)
  | 0 => fun b => [b]
  | f + 1 => fun b => pmT (pmG n f) b n 0
def pms (n : Nat) : List (List Int) := pmG n n []

theorem pmT_mem {rec : List Int → List (List Int)} {b q : List Int} {x : Nat} (hx : (x : Int) ∉ b) (hq : q ∈ rec (b ++ [(x : Int)])) : ∀ d c, c ≤ x → x < c + d → q ∈ pmT rec b d c
  | 0, c, h1, h2 => by omega
  | d + 1, c, h1, h2 => by
    simp only [pmT, List.mem_append]
    by_cases e : c = x
    · subst e; left; rw [if_neg hx]; exact hq
    · right; exact pmT_mem hx hq d (c + 1) (by omega) (by omega)
theorem pmG_mem (n : Nat) : ∀ (r b : List Int), (∀ x ∈ r, 0 ≤ x ∧ x < n) → (b ++ r).Nodup → b ++ r ∈ pmG n r.length b
  | [], b, _, _ => by simp [pmG]
  | x :: r, b, hr, hn => by
    have hx := hr x (by simp)
    obtain ⟨k, rfl⟩ : ∃ k : Nat, x = k := ⟨x.toNat, by omega⟩
    have hp := List.pairwise_append.1 hn
    have hxb : (k : Int) ∉ b := fun h => hp.2.2 _ h _ (by simp) rfl
    have e : b ++ (k : Int) :: r = (b ++ [(k : Int)]) ++ r := by simp
    rw [e] at hn ⊢
    show _ ∈ pmT (pmG n r.length) b n 0
    exact pmT_mem hxb (pmG_mem n r (b ++ [(k : Int)]) (fun y hy => hr y (by simp [hy])) hn) n 0 (by omega) (by omega)
theorem allIn_le : ∀ (m : Nat) (l : List Int), (∀ z : Nat, z < m → (z : Int) ∈ l) → m ≤ l.length
  | 0, _, _ => Nat.zero_le _
  | m + 1, l, h => by
    have hm := h m (by omega)
    have := allIn_le m (l.erase (m : Int)) (fun z hz => (List.mem_erase_of_ne (by omega)).2 (h z (by omega)))
    rw [List.length_erase_of_mem hm] at this
    have : 0 < l.length := List.length_pos_of_mem hm
    omega
theorem erase_all {p : List Int} {m : Nat} (h : ∀ z : Nat, z < m → (z : Int) ∈ p) (hl : p.length = m) {j : Nat} (hj : j < p.length) (hd : ∀ z : Nat, z < m → (z : Int) = p[j] → (z : Int) ∈ p.take j ++ p.drop (j + 1)) : False := by
  have := allIn_le m (p.take j ++ p.drop (j + 1)) (fun z hz => by
    have hm := h z hz
    by_cases e : (z : Int) = p[j]
    · exact hd z hz e
    · have e2 : p = p.take j ++ p[j] :: p.drop (j + 1) := by rw [List.getElem_cons_drop]; exact (List.take_append_drop j p).symm
      rw [e2] at hm
      simp only [List.mem_append, List.mem_cons] at hm ⊢
      rcases hm with hm | hm | hm
      · exact .inl hm
      · exact absurd hm e
      · exact .inr hm)
  simp only [List.length_append, List.length_take, List.length_drop] at this
  omega
theorem prm_nodup {p : List Int} (h : Prm p) : p.Nodup := by
  rw [List.Nodup, List.pairwise_iff_getElem]
  intro i j hi hj hij e
  refine erase_all h.2 rfl hj (fun z hz ez => ?_)
  rw [ez, ← e]
  refine List.mem_append.2 (.inl ?_)
  have : (p.take j)[i]'(by simp; omega) = p[i] := by simp
  rw [← this]; exact List.getElem_mem _
theorem prm_rng {p : List Int} (h : Prm p) : ∀ x ∈ p, 0 ≤ x ∧ x < p.length := by
  intro x hx
  apply Decidable.byContradiction
  intro hn
  obtain ⟨j, hj, e⟩ := List.getElem_of_mem hx
  refine erase_all h.2 rfl hj (fun z hz ez => ?_)
  rw [e] at ez
  exact absurd ⟨by omega, by omega⟩ hn
theorem pms_mem {p : List Int} (h : Prm p) : p ∈ pms p.length := pmG_mem p.length p [] (prm_rng h) (by simpa using prm_nodup h)

/- places among all -/
def cdF : Int → List Int → Int
  | c, [] => c
  | c, x :: r => cdF (c * ((r.length : Int) + 1) + ((r.countP fun y => decide (y < x) : Nat) : Int)) r
def cod (p : List Int) : Int := cdF 0 p
def mny : Nat → Nat
  | 0 => 1
  | n + 1 => mny n * (n + 1)
def codOk (n : Nat) : Bool := decide ((pms n).map cod = (List.range (mny n)).map fun z : Nat => (z : Int))
theorem cod0 : codOk 0 = true := by decide +kernel
theorem cod1 : codOk 1 = true := by decide +kernel
theorem cod2 : codOk 2 = true := by decide +kernel
theorem cod3 : codOk 3 = true := by decide +kernel
theorem cod4 : codOk 4 = true := by decide +kernel
set_option maxRecDepth 20000 in
theorem cod5 : codOk 5 = true := by decide +kernel
set_option maxRecDepth 20000 in
theorem cod6 : codOk 6 = true := by decide +kernel
theorem cod_all {n : Nat} (hn : n ≤ 6) : (pms n).map cod = (List.range (mny n)).map fun z : Nat => (z : Int) := by
  have h : codOk n = true := by
    have : n = 0 ∨ n = 1 ∨ n = 2 ∨ n = 3 ∨ n = 4 ∨ n = 5 ∨ n = 6 := by omega
    rcases this with rfl | rfl | rfl | rfl | rfl | rfl | rfl
    · exact cod0
    · exact cod1
    · exact cod2
    · exact cod3
    · exact cod4
    · exact cod5
    · exact cod6
  exact of_decide_eq_true h
theorem mny_le {n : Nat} (hn : n ≤ 6) : 1 ≤ mny n ∧ mny n ≤ 720 := by
  have : n = 0 ∨ n = 1 ∨ n = 2 ∨ n = 3 ∨ n = 4 ∨ n = 5 ∨ n = 6 := by omega
  rcases this with rfl | rfl | rfl | rfl | rfl | rfl | rfl <;> decide
theorem inj_nd {α β : Type} {L : List α} {f : α → β} (h : (L.map f).Nodup) {a b : α} (ha : a ∈ L) (hb : b ∈ L) (e : f a = f b) : a = b := by
  obtain ⟨i, hi, ei⟩ := List.getElem_of_mem ha
  obtain ⟨j, hj, ej⟩ := List.getElem_of_mem hb
  rw [List.Nodup, List.pairwise_iff_getElem] at h
  rcases Nat.lt_trichotomy i j with hij | hij | hij
  · have := h i j (by simpa using hi) (by simpa using hj) hij
    simp only [List.getElem_map, ei, ej] at this
    exact absurd e this
  · subst hij; rw [← ei, ← ej]
  · have := h j i (by simpa using hj) (by simpa using hi) hij
    simp only [List.getElem_map, ei, ej] at this
    exact absurd e.symm this
theorem range_nd (m : Nat) : ((List.range m).map fun z : Nat => (z : Int)).Nodup := by
  rw [List.Nodup, List.pairwise_map]
  exact List.nodup_range.imp fun h e => h (by omega)
theorem cod_rng {p : List Int} (h : Prm p) (hl : p.length ≤ 6) : 0 ≤ cod p ∧ cod p < mny p.length := by
  have hm : cod p ∈ (pms p.length).map cod := List.mem_map.2 ⟨p, pms_mem h, rfl⟩
  rw [cod_all hl, List.mem_map] at hm
  obtain ⟨z, hz, e⟩ := hm
  have := List.mem_range.1 hz
  omega
theorem cod_inj {p q : List Int} (hp : Prm p) (hq : Prm q) (hl : p.length ≤ 6) (e : p.length = q.length) (hc : cod p = cod q) : p = q := by
  refine inj_nd (L := pms p.length) (f := cod) ?_ (pms_mem hp) (by rw [e]; exact pms_mem hq) hc
  rw [cod_all hl]; exact range_nd _

/- keys -/
def keyF : Int → List Int → Int
  | a, [] => a
  | a, x :: r => keyF (10 * a + x) r
def keyL (p : List Int) : Int := keyF 1 p
theorem keyF_inj : ∀ (p q : List Int) (a b : Int), p.length = q.length → (∀ x ∈ p, 0 ≤ x ∧ x < 10) → (∀ x ∈ q, 0 ≤ x ∧ x < 10) → keyF a p = keyF b q → a = b ∧ p = q
  | [], [], a, b, _, _, _, h => ⟨h, rfl⟩
  | x :: p, y :: q, a, b, hl, hp, hq, h => by
    have hx := hp x (by simp)
    have hy := hq y (by simp)
    obtain ⟨h1, h2⟩ := keyF_inj p q (10 * a + x) (10 * b + y) (by simpa using hl) (fun z hz => hp z (by simp [hz])) (fun z hz => hq z (by simp [hz])) h
    have : a = b ∧ x = y := by omega
    exact ⟨this.1, by rw [this.2, h2]⟩
theorem key_inj {p q : List Int} (hp : Prm p) (hq : Prm q) (e : p.length = q.length) (hk : keyL p = keyL q) : p = q := by
  have h1 := hp.1
  have h2 := hq.1
  exact (keyF_inj p q 1 1 e (fun x hx => by have := prm_rng hp x hx; omega) (fun x hx => by have := prm_rng hq x hx; omega) hk).2
end Go.Proofs.Ythhnpchjjbjabaa.Ai
