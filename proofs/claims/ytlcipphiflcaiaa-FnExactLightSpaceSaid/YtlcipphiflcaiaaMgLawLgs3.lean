/- Texts of this claim, joined: PermP, CycP, IdxP, SrtP, PrmC, TreP, BfsP, PutP, PartP, Ty, Arr, Prs, Ints, Mark, MarkP, Grf, Base, Sort, Good, Near. -/
import Derived.Test.YtlcipphiflcaiaaProg
import Derived.KernelRfl
import Derived.Laws.BitsLemmas
import Derived.Laws.Bits64
import Derived.Test.YtlcipphiflcaiaaMgLawLgs2
namespace Go.Proofs.Ytlcipphiflcaiaa.Ai
open Go
def Asc (ys : List Int) : Prop := ∀ i j, i < j → j < ys.length → ys.getD i 0 ≤ ys.getD j 0
def Rsg (n : Int) (ys : List Int) : Prop := ∀ i, i < ys.length → (0 ≤ ys.getD i 0 ∧ ys.getD i 0 ≤ n - 1) ∧ (0 < i → ys.getD (i - 1) 0 < ys.getD i 0)
def Prm (p : List Int) : Prop := p.length ≤ 8 ∧ ∀ x, x < p.length → (x : Int) ∈ p
instance (p : List Int) : Decidable (Prm p) := inferInstanceAs (Decidable (_ ∧ _))
theorem pos_ex {ys : List Int} {x : Int} (h : x ∈ ys) : ∃ i, i < ys.length ∧ ys.getD i 0 = x := by
  obtain ⟨i, hi, e⟩ := List.getElem_of_mem h
  exact ⟨i, hi, by simp [hi, e]⟩
theorem asc_at {ys : List Int} (ha : Asc ys) (h : ∀ x, x < ys.length → (x : Int) ∈ ys) : ∀ i, i < ys.length → ys.getD i 0 = i := by
  -- a place of each number
  have ex : ∀ x, ∃ i, x < ys.length → (i < ys.length ∧ ys.getD i 0 = x) := by
    intro x
    by_cases hx : x < ys.length
    · obtain ⟨i, hi⟩ := pos_ex (h x hx); exact ⟨i, fun _ => hi⟩
    · exact ⟨0, fun e => absurd e hx⟩
  let pos : Nat → Nat := fun x => Classical.choose (ex x)
  have hp : ∀ x, x < ys.length → pos x < ys.length ∧ ys.getD (pos x) 0 = x := fun x hx => Classical.choose_spec (ex x) hx
  have mono : ∀ x, x + 1 < ys.length → pos x < pos (x + 1) := by
    intro x hx
    have h1 := hp x (by omega)
    have h2 := hp (x + 1) hx
    rcases Nat.lt_trichotomy (pos x) (pos (x + 1)) with h3 | h3 | h3
    · exact h3
    · rw [h3] at h1; rw [h1.2] at h2; omega
    · have := ha _ _ h3 h1.1
      rw [h1.2, h2.2] at this; omega
  have lo : ∀ x, x < ys.length → x ≤ pos x := by
    intro x
    induction x with
    | zero => intro _; omega
    | succ x ih =>
      intro hx
      have := ih (by omega)
      have := mono x hx
      omega
  have hi' : ∀ d x, x + d + 1 = ys.length → pos x ≤ x := by
    intro d
    induction d with
    | zero => intro x hx; have := (hp x (by omega)).1; omega
    | succ d ih =>
      intro x hx
      have := ih (x + 1) (by omega)
      have := mono x (by omega)
      omega
  intro i hi
  have h1 := lo i hi
  have h2 := hi' (ys.length - i - 1) i (by omega)
  have h3 := hp i hi
  have : pos i = i := by omega
  rw [this] at h3
  exact h3.2
theorem prm_at {p : List Int} (h : Prm p) {ys : List Int} (hp : ys.Perm p) (ha : Asc ys) : ∀ i, i < ys.length → ys.getD i 0 = i :=
  asc_at ha (fun x hx => hp.mem_iff.2 (h.2 x (by have := hp.length_eq; omega)))
end Go.Proofs.Ytlcipphiflcaiaa.Ai
namespace Go.Proofs.Ytlcipphiflcaiaa.Ai
open Go
theorem prm_range {p : List Int} (h : Prm p) : (∀ i, i < p.length → 0 ≤ p.getD i 0 ∧ p.getD i 0 < p.length) ∧ ∀ i j, i < p.length → j < p.length → p.getD i 0 = p.getD j 0 → i = j := by
  have hm := List.mergeSort_perm p (fun x y => decide (x ≤ y))
  have hs : (p.mergeSort (fun x y => decide (x ≤ y))).Pairwise (fun x y => decide (x ≤ y) = true) := List.pairwise_mergeSort (fun a b c h1 h2 => by simp at *; omega) (fun a b => by simp; omega) p
  have ha : Asc (p.mergeSort (fun x y => decide (x ≤ y))) := by
    intro i j hij hj
    rw [List.pairwise_iff_getElem] at hs
    have := hs i j (by omega) hj hij
    simp only [decide_eq_true_eq] at this
    rw [List.getD_eq_getElem?_getD, List.getD_eq_getElem?_getD, List.getElem?_eq_getElem hj, List.getElem?_eq_getElem (show i < (p.mergeSort (fun x y => decide (x ≤ y))).length by omega)]
    exact this
  have hat := prm_at h hm ha
  have hl := hm.length_eq
  generalize p.mergeSort (fun x y => decide (x ≤ y)) = ys at *
  have mem : ∀ y ∈ p, 0 ≤ y ∧ y < p.length := by
    intro y hy
    obtain ⟨i, hi, e⟩ := pos_ex (hm.mem_iff.2 hy)
    rw [hat i hi] at e
    omega
  have nd : ys.Nodup := by
    rw [List.Nodup, List.pairwise_iff_getElem]
    intro i j hi hj hij e
    have h1 := hat i hi
    have h2 := hat j hj
    simp only [List.getD_eq_getElem?_getD, List.getElem?_eq_getElem hi, List.getElem?_eq_getElem hj, Option.getD_some] at h1 h2
    omega
  have pd : p.Nodup := hm.nodup_iff.1 nd
  refine ⟨fun i hi => mem _ (by simp [hi]), fun i j hi hj e => ?_⟩
  rw [List.Nodup, List.pairwise_iff_getElem] at pd
  simp only [List.getD_eq_getElem?_getD, List.getElem?_eq_getElem hi, List.getElem?_eq_getElem hj, Option.getD_some] at e
  rcases Nat.lt_trichotomy i j with g | g | g
  · exact absurd e (pd i j hi hj g)
  · exact g
  · exact absurd e.symm (pd j i hj hi g)
/-- the way from y till x -/
def orb (p : List Int) (x y : Int) : Nat → List Int
  | 0 => []
  | n + 1 => if y = x then [] else y :: orb p x (p.getD y.toNat 0) n
def cycC (p : List Int) (x : Int) : List Int := x :: orb p x (p.getD x.toNat 0) p.length
theorem orb_self (p : List Int) (x : Int) (n : Nat) : orb p x x n = [] := by cases n <;> simp [orb]
/-- a way begun at x: c, and y comes next -/
structure Way (p : List Int) (x : Int) (c : List Int) (y : Int) : Prop where
  rng : ∀ z ∈ c, 0 ≤ z ∧ z < p.length
  nd : c.Nodup
  ne : c ≠ []
  head : c.getD 0 0 = x
  step : ∀ i, i + 1 < c.length → c.getD (i + 1) 0 = p.getD (c.getD i 0).toNat 0
  last : y = p.getD (c.getD (c.length - 1) 0).toNat 0
  tail : cycC p x = c ++ orb p x y (p.length + 1 - c.length)
theorem nodup_len (n : Nat) : ∀ (c : List Int), c.Nodup → (∀ z ∈ c, 0 ≤ z ∧ z < (n : Int)) → c.length ≤ n := by
  induction n with
  | zero =>
    intro c _ h
    cases c with
    | nil => simp
    | cons z c => have := h z (by simp); omega
  | succ n ih =>
    intro c hn h
    have hn' := hn.erase (n : Int)
    have hl : c.length ≤ (c.erase (n : Int)).length + 1 := by
      rw [List.length_erase]; split <;> omega
    have := ih (c.erase (n : Int)) hn' (fun z hz => by
      have h1 := h z (List.mem_of_mem_erase hz)
      have h2 : z ≠ n := fun e => by
        subst e
        exact (hn.not_mem_erase) hz
      omega)
    omega
theorem Way.len {p : List Int} {x y : Int} {c : List Int} (h : Way p x c y) : 1 ≤ c.length ∧ c.length ≤ p.length := by
  refine ⟨?_, nodup_len _ c h.nd h.rng⟩
  have := h.ne
  cases c with
  | nil => exact absurd rfl this
  | cons _ _ => simp
theorem getD_mem {c : List Int} {i : Nat} (h : i < c.length) : c.getD i 0 ∈ c := by simp [h]
theorem Way.yrng {p : List Int} {x y : Int} {c : List Int} (hp : Prm p) (h : Way p x c y) : 0 ≤ y ∧ y < p.length := by
  have hl := h.len
  have := h.rng _ (getD_mem (show c.length - 1 < c.length by omega))
  rw [h.last]
  exact (prm_range hp).1 _ (by omega)
/-- what comes again is x -/
theorem Way.back {p : List Int} {x y : Int} {c : List Int} (hp : Prm p) (h : Way p x c y) (hy : y ∈ c) : y = x := by
  have hl := h.len
  obtain ⟨i, hi, e⟩ := pos_ex hy
  by_cases h0 : i = 0
  · subst h0; rw [← e, h.head]
  · have h1 := h.step (i - 1) (by omega)
    rw [show i - 1 + 1 = i from by omega, e, h.last] at h1
    have r1 := h.rng _ (getD_mem (show c.length - 1 < c.length by omega))
    have r2 := h.rng _ (getD_mem (show i - 1 < c.length by omega))
    have := (prm_range hp).2 _ _ (by omega) (by omega) h1
    have e2 : c.getD (c.length - 1) 0 = c.getD (i - 1) 0 := by omega
    have nd := h.nd
    rw [List.Nodup, List.pairwise_iff_getElem] at nd
    simp only [List.getD_eq_getElem?_getD, List.getElem?_eq_getElem (show c.length - 1 < c.length by omega), List.getElem?_eq_getElem (show i - 1 < c.length by omega), Option.getD_some] at e2
    exact absurd e2.symm (nd (i - 1) (c.length - 1) (by omega) (by omega) (by omega))
set_option linter.unusedVariables false in
theorem Way.first {p : List Int} (hp : Prm p) {x : Nat} (hx : x < p.length) : Way p (x : Int) [(x : Int)] (p.getD x 0) :=
  ⟨fun z hz => by simp at hz; omega, by simp, by simp, rfl, fun i hi => by simp at hi, by simp, by simp [cycC]⟩
set_option linter.unusedVariables false in
theorem Way.next {p : List Int} {x y : Int} {c : List Int} (hp : Prm p) (h : Way p x c y) (hy : y ≠ x) : Way p x (c ++ [y]) (p.getD y.toNat 0) := by
  have hl := h.len
  have hyr := h.yrng hp
  have hni : y ∉ c := fun hm => hy (h.back hp hm)
  have hnd : (c ++ [y]).Nodup := List.nodup_append.2 ⟨h.nd, by simp, fun a ha b hb e => by simp at hb; subst hb; exact hni (e ▸ ha)⟩
  have hlen := nodup_len p.length (c ++ [y]) hnd (fun z hz => by
    rcases List.mem_append.1 hz with g | g
    · exact h.rng z g
    · simp at g; rw [g]; exact hyr)
  simp only [List.length_append, List.length_cons, List.length_nil] at hlen
  have at1 : ∀ i, i < c.length → (c ++ [y]).getD i 0 = c.getD i 0 := fun i hi => by
    rw [List.getD_eq_getElem?_getD, List.getD_eq_getElem?_getD, List.getElem?_append_left hi]
  have at2 : (c ++ [y]).getD c.length 0 = y := by
    rw [List.getD_eq_getElem?_getD, List.getElem?_append_right (Nat.le_refl _)]; simp
  refine ⟨fun z hz => ?_, hnd, by simp, by rw [at1 0 (by omega)]; exact h.head, fun i hi => ?_, ?_, ?_⟩
  · rcases List.mem_append.1 hz with g | g
    · exact h.rng z g
    · simp at g; rw [g]; exact hyr
  · simp only [List.length_append, List.length_cons, List.length_nil] at hi
    by_cases c1 : i + 1 < c.length
    · rw [at1 _ c1, at1 _ (by omega)]; exact h.step i c1
    · have : i = c.length - 1 := by omega
      subst this
      rw [show c.length - 1 + 1 = c.length from by omega, at2, at1 _ (by omega)]
      exact h.last
  · simp only [List.length_append, List.length_cons, List.length_nil, Nat.add_sub_cancel]
    rw [at2]
  · have := h.tail
    obtain ⟨n, hn⟩ : ∃ n, p.length + 1 - c.length = n + 1 := ⟨p.length - c.length, by omega⟩
    rw [hn] at this
    simp only [orb, if_neg hy] at this
    rw [this]
    simp only [List.length_append, List.length_cons, List.length_nil, List.append_assoc, List.cons_append, List.nil_append]
    rw [show p.length + 1 - (c.length + (0 + 1)) = n from by omega]
theorem Way.done {p : List Int} {x : Int} {c : List Int} (h : Way p x c x) : c = cycC p x := by
  rw [h.tail, orb_self, List.append_nil]
/-- a set that nothing leads into from outside -/
def Shut (p s : List Int) : Prop := (∀ z ∈ s, 0 ≤ z ∧ z < p.length) ∧ ∀ z : Nat, z < p.length → p.getD z 0 ∈ s → (z : Int) ∈ s
theorem Way.out {p s : List Int} {x y : Int} {c : List Int} (h : Way p x c y) (hs : Shut p s) (hd : ∀ z ∈ c, z ∉ s) : y ∉ s := by
  have hl := h.len
  have hm := getD_mem (show c.length - 1 < c.length by omega)
  have r := h.rng _ hm
  intro hy
  rw [h.last] at hy
  have := hs.2 (c.getD (c.length - 1) 0).toNat (by omega) hy
  rw [show (((c.getD (c.length - 1) 0).toNat : Nat) : Int) = c.getD (c.length - 1) 0 from by omega] at this
  exact hd _ hm this
end Go.Proofs.Ytlcipphiflcaiaa.Ai
namespace Go.Proofs.Ytlcipphiflcaiaa.Ai
open Go
set_option linter.unusedVariables false
/-- the place of the first that p takes, or -1 -/
def idxP (p : Int → Bool) : List Int → Nat → Int
  | [], _ => -1
  | x :: xs, k => if p x = true then (k : Int) else idxP p xs (k + 1)
theorem idxP_step (p : Int → Bool) (xs : List Int) (i : Nat) (hi : i < xs.length) : idxP p (xs.drop i) i = if p (xs.getD i 0) = true then (i : Int) else idxP p (xs.drop (i + 1)) (i + 1) := by
  rw [List.drop_eq_getElem_cons hi]
  simp [idxP, hi]
theorem idxP_any (p : Int → Bool) : ∀ (xs : List Int) (k : Nat), (0 ≤ idxP p xs k) ↔ xs.any p = true
  | [], k => by simp [idxP]
  | x :: xs, k => by
    simp only [idxP, List.any_cons]
    cases h : p x with
    | true => simp
    | false => simp [idxP_any p xs (k + 1)]
end Go.Proofs.Ytlcipphiflcaiaa.Ai
namespace Go.Proofs.Ytlcipphiflcaiaa.Ai
open Go
set_option linter.unusedVariables false
/-- the place of a number -/
def ax (q : List Int) (x : Int) : Int := idxP (fun y => decide (x = y)) q 0
theorem idxP_at (p : Int → Bool) : ∀ (xs : List Int) (k : Nat), xs.any p = true → ∃ i : Nat, i < xs.length ∧ idxP p xs k = ((k + i : Nat) : Int) ∧ p (xs.getD i 0) = true
  | [], k, h => by simp at h
  | x :: xs, k, h => by
    by_cases hx : p x = true
    · exact ⟨0, by simp, by simp [idxP, hx], by simpa using hx⟩
    · have : xs.any p = true := by simpa [hx] using h
      obtain ⟨i, h1, h2, h3⟩ := idxP_at p xs (k + 1) this
      refine ⟨i + 1, by simpa using h1, ?_, by simpa using h3⟩
      rw [idxP, if_neg hx, h2]
      congr 1; omega
theorem ax_at {q : List Int} {x : Int} (h : x ∈ q) : ∃ i : Nat, i < q.length ∧ ax q x = (i : Int) ∧ q.getD i 0 = x := by
  obtain ⟨i, h1, h2, h3⟩ := idxP_at (fun y => decide (x = y)) q 0 (by simpa using h)
  refine ⟨i, h1, by rw [ax, h2]; congr 1; omega, ?_⟩
  have := of_decide_eq_true h3
  exact this.symm
def swp (p : List Int) (a b : Nat) : List Int := (p.set a (p.getD b 0)).set b (p.getD a 0)
theorem swp_len (p : List Int) (a b : Nat) : (swp p a b).length = p.length := by simp [swp]
theorem swp_at (p : List Int) (a b k : Nat) (ha : a < p.length) (hb : b < p.length) (hk : k < p.length) : (swp p a b).getD k 0 = if k = b then p.getD a 0 else if k = a then p.getD b 0 else p.getD k 0 := by
  unfold swp
  rw [List.getD_eq_getElem?_getD, List.getElem?_set]
  by_cases h1 : b = k
  · subst h1
    rw [if_pos rfl, if_pos (by simpa using hb), if_pos rfl]; rfl
  · rw [if_neg h1, if_neg (fun e => h1 e.symm), List.getElem?_set]
    by_cases h2 : a = k
    · subst h2
      rw [if_pos rfl, if_pos ha, if_pos rfl]; rfl
    · rw [if_neg h2, if_neg (fun e => h2 e.symm), ← List.getD_eq_getElem?_getD]
theorem mem_getD {q : List Int} {k : Nat} (h : k < q.length) : q.getD k 0 ∈ q := by simp [h]
theorem swp_prm {p : List Int} (h : Prm p) {a b : Nat} (ha : a < p.length) (hb : b < p.length) : Prm (swp p a b) := by
  refine ⟨by rw [swp_len]; exact h.1, fun x hx => ?_⟩
  rw [swp_len] at hx
  obtain ⟨i, hi, e⟩ := pos_ex (h.2 x hx)
  have mk : ∀ k, k < p.length → (swp p a b).getD k 0 = x → (x : Int) ∈ swp p a b := fun k hk e => by
    rw [← e]; exact mem_getD (by rw [swp_len]; exact hk)
  by_cases h1 : i = a
  · subst h1; exact mk b hb (by rw [swp_at p _ b b ha hb hb, if_pos rfl]; exact e)
  · by_cases h2 : i = b
    · subst h2
      by_cases h3 : a = i
      · exact absurd h3.symm h1
      · exact mk a ha (by rw [swp_at p a _ a ha hb ha, if_neg h3, if_pos rfl]; exact e)
    · exact mk i hi (by rw [swp_at p a b i ha hb hi, if_neg h2, if_neg h1]; exact e)
structure SrtOk (p : List Int) (x : Nat) (o : List (Int × Int)) (q : List Int) : Prop where
  prm : Prm q
  len : q.length = p.length
  fix : ∀ y, y < x → q.getD y 0 = y
  few : o.length ≤ x
theorem SrtOk.place {p : List Int} {x : Nat} {o : List (Int × Int)} {q : List Int} (h : SrtOk p x o q) (hx : x < p.length) : ∃ i : Nat, x ≤ i ∧ i < p.length ∧ ax q x = (i : Int) ∧ q.getD i 0 = x ∧ (q.getD x 0 = x ↔ i = x) := by
  obtain ⟨i, h1, h2, h3⟩ := ax_at (h.prm.2 x (by rw [h.len]; exact hx))
  have hl := h.len
  refine ⟨i, ?_, by omega, h2, h3, fun e => ?_, fun e => by rw [← e]; rw [h3]; rw [e]⟩
  · by_cases hlt : i < x
    · have := h.fix i hlt
      omega
    · omega
  · exact (prm_range h.prm).2 i x h1 (by omega) (by rw [h3, e])
theorem SrtOk.next {p : List Int} {x i : Nat} {o : List (Int × Int)} {q : List Int} (h : SrtOk p x o q) (hx : x < p.length) (h1 : x ≤ i) (h2 : i < p.length) (h3 : q.getD i 0 = x) (hne : i ≠ x) : SrtOk p (x + 1) (o ++ [((x : Int), (i : Int))]) (swp q x i) := by
  have hl := h.len
  refine ⟨swp_prm h.prm (by omega) (by omega), by rw [swp_len]; exact hl, fun y hy => ?_, by have := h.few; simp; omega⟩
  rw [swp_at q x i y (by omega) (by omega) (by omega), if_neg (by omega)]
  by_cases hc : y = x
  · rw [if_pos hc, h3, hc]
  · rw [if_neg hc]; exact h.fix y (by omega)
def swOk (n : Nat) (s : Int × Int) : Prop := 0 ≤ s.1 ∧ s.1 < s.2 ∧ s.2 < n
instance (n : Nat) (s : Int × Int) : Decidable (swOk n s) := inferInstanceAs (Decidable (_ ∧ _))
def plcOk (p : List Int) (ss : List (Int × Int)) : Prop := Prm p ∧ ∀ s ∈ ss, swOk p.length s
instance (p : List Int) (ss : List (Int × Int)) : Decidable (plcOk p ss) := inferInstanceAs (Decidable (_ ∧ _))
end Go.Proofs.Ytlcipphiflcaiaa.Ai
namespace Go.Proofs.Ytlcipphiflcaiaa.Ai
open Go
set_option linter.unusedVariables false
/-- the least of its class -/
def Mn (R : Nat → Nat → Prop) (x : Nat) : Prop := ∀ y, R x y → x ≤ y
open Classical in
noncomputable def cls (R : Nat → Nat → Prop) (n : Nat) : Nat := (List.range n).countP fun x => decide (Mn R x)
theorem least_of {P : Nat → Prop} : ∀ n, P n → ∃ m, P m ∧ ∀ k, P k → m ≤ k := by
  intro n
  induction n using Nat.strongRecOn with
  | ind n ih =>
    intro h
    by_cases q : ∃ k, k < n ∧ P k
    · obtain ⟨k, k1, k2⟩ := q
      exact ih k k1 k2
    · exact ⟨n, h, fun k hk => Nat.le_of_not_lt fun g => q ⟨k, g, hk⟩⟩
/-- one pair more joins at most two classes -/
theorem cls_join {R R' : Nat → Nat → Prop} {n a b : Nat} (h0 : ∀ x, R x x) (h1 : ∀ {x y}, R x y → R y x) (h2 : ∀ {x y z}, R x y → R y z → R x z)
    (hJ : ∀ {u v}, R' u v → R u v ∨ (R u a ∧ R b v) ∨ (R u b ∧ R a v)) : cls R n ≤ cls R' n + 1 := by
  obtain ⟨ma, a1, a2⟩ := least_of (P := fun x => R a x) a (h0 a)
  obtain ⟨mb, b1, b2⟩ := least_of (P := fun x => R b x) b (h0 b)
  have key : ∀ x, Mn R x → x ≠ max ma mb → Mn R' x := by
    intro x hx hne y hy
    rcases hJ hy with g | ⟨g1, g2⟩ | ⟨g1, g2⟩
    · exact hx y g
    · have e : x = ma := Nat.le_antisymm (hx ma (h2 g1 a1)) (a2 x (h1 g1))
      have := b2 y g2
      omega
    · have e : x = mb := Nat.le_antisymm (hx mb (h2 g1 b1)) (b2 x (h1 g1))
      have := a2 y g2
      omega
  unfold cls
  have : ∀ l : List Nat, l.Nodup → l.countP (fun x => @decide (Mn R x) (Classical.propDecidable _)) ≤ l.countP (fun x => @decide (Mn R' x) (Classical.propDecidable _)) + (if max ma mb ∈ l then 1 else 0) := by
    intro l
    induction l with
    | nil => intro _; simp
    | cons x l ih =>
      intro hn
      have hn' := List.nodup_cons.1 hn
      have ih := ih hn'.2
      rw [List.countP_cons, List.countP_cons]
      by_cases e : x = max ma mb
      · have hnot : max ma mb ∉ l := by rw [← e]; exact hn'.1
        rw [if_neg hnot] at ih
        rw [if_pos (show max ma mb ∈ x :: l by rw [← e]; simp)]
        split <;> split <;> omega
      · have hiff : (max ma mb ∈ x :: l) = (max ma mb ∈ l) := by
          rw [List.mem_cons]; exact propext ⟨fun h => h.resolve_left (fun q => e q.symm), .inr⟩
        simp only [hiff]
        by_cases hx : Mn R x
        · have hy := key x hx e
          have d1 : @decide (Mn R x) (Classical.propDecidable _) = true := by simpa using hx
          have d2 : @decide (Mn R' x) (Classical.propDecidable _) = true := by simpa using hy
          rw [if_pos d1, if_pos d2]; omega
        · have d1 : ¬ @decide (Mn R x) (Classical.propDecidable _) = true := by simpa using hx
          rw [if_neg d1]
          split <;> omega
  have h := this (List.range n) List.nodup_range
  split at h <;> omega
/-- more classes -/
theorem cls_more {R R' : Nat → Nat → Prop} {n m : Nat} (hm : m < n) (h : ∀ x, Mn R x → Mn R' x) (h1 : Mn R' m) (h2 : ¬ Mn R m) : cls R n + 1 ≤ cls R' n := by
  unfold cls
  have : ∀ l : List Nat, l.countP (fun x => @decide (Mn R x) (Classical.propDecidable _)) + (if m ∈ l then 1 else 0) ≤ l.countP (fun x => @decide (Mn R' x) (Classical.propDecidable _)) := by
    intro l
    induction l with
    | nil => simp
    | cons x l ih =>
      rw [List.countP_cons, List.countP_cons]
      by_cases e : x = m
      · subst e
        have d1 : ¬ @decide (Mn R x) (Classical.propDecidable _) = true := by simpa using h2
        have d2 : @decide (Mn R' x) (Classical.propDecidable _) = true := by simpa using h1
        rw [if_neg d1, if_pos d2, if_pos (by simp)]
        split at ih <;> omega
      · have hiff : (m ∈ x :: l) = (m ∈ l) := by
          rw [List.mem_cons]; exact propext ⟨fun h => h.resolve_left (fun q => e q.symm), .inr⟩
        simp only [hiff]
        by_cases hx : Mn R x
        · have hy := h x hx
          have d1 : @decide (Mn R x) (Classical.propDecidable _) = true := by simpa using hx
          have d2 : @decide (Mn R' x) (Classical.propDecidable _) = true := by simpa using hy
          rw [if_pos d1, if_pos d2]; omega
        · have d1 : ¬ @decide (Mn R x) (Classical.propDecidable _) = true := by simpa using hx
          rw [if_neg d1]
          omega
  have h := this (List.range n)
  rw [if_pos (List.mem_range.2 hm)] at h
  exact h
end Go.Proofs.Ytlcipphiflcaiaa.Ai
namespace Go.Proofs.Ytlcipphiflcaiaa.Ai
open Go
set_option linter.unusedVariables false
def enA (es : List (Int × Int)) (e : Int) : Nat := (es.getD e.toNat (0, 0)).1.toNat
def enB (es : List (Int × Int)) (e : Int) : Nat := (es.getD e.toNat (0, 0)).2.toNat
/-- joined by some edges -/
inductive Jn (es : List (Int × Int)) (T : List Int) : Nat → Nat → Prop
  | refl (x : Nat) : Jn es T x x
  | edge (e : Int) (h : e ∈ T) : Jn es T (enA es e) (enB es e)
  | symm {x y : Nat} (h : Jn es T x y) : Jn es T y x
  | trans {x y z : Nat} (h1 : Jn es T x y) (h2 : Jn es T y z) : Jn es T x z
theorem Jn.mono {es : List (Int × Int)} {T U : List Int} (hs : ∀ e ∈ T, e ∈ U) {x y : Nat} (h : Jn es T x y) : Jn es U x y := by
  induction h with
  | refl x => exact .refl x
  | edge e h => exact .edge e (hs e h)
  | symm _ ih => exact .symm ih
  | trans _ _ i1 i2 => exact .trans i1 i2
theorem Jn.add {es : List (Int × Int)} {T U : List Int} {e : Int} (hs : ∀ x ∈ U, x ∈ T ∨ x = e) {u v : Nat} (h : Jn es U u v) :
    Jn es T u v ∨ (Jn es T u (enA es e) ∧ Jn es T (enB es e) v) ∨ (Jn es T u (enB es e) ∧ Jn es T (enA es e) v) := by
  induction h with
  | refl x => exact .inl (.refl x)
  | edge x h =>
    rcases hs x h with q | q
    · exact .inl (.edge x q)
    · subst q; exact .inr (.inl ⟨.refl _, .refl _⟩)
  | symm _ ih =>
    rcases ih with q | ⟨q1, q2⟩ | ⟨q1, q2⟩
    · exact .inl q.symm
    · exact .inr (.inr ⟨q2.symm, q1.symm⟩)
    · exact .inr (.inl ⟨q2.symm, q1.symm⟩)
  | trans _ _ i1 i2 =>
    rcases i1 with q | ⟨q1, q2⟩ | ⟨q1, q2⟩ <;> rcases i2 with p | ⟨p1, p2⟩ | ⟨p1, p2⟩
    · exact .inl (q.trans p)
    · exact .inr (.inl ⟨q.trans p1, p2⟩)
    · exact .inr (.inr ⟨q.trans p1, p2⟩)
    · exact .inr (.inl ⟨q1, q2.trans p⟩)
    · exact .inr (.inl ⟨q1, p2⟩)
    · exact .inl (q1.trans p2)
    · exact .inr (.inr ⟨q1, q2.trans p⟩)
    · exact .inl (q1.trans p2)
    · exact .inr (.inr ⟨q1, p2⟩)
/-- an edge between what is joined joins nothing more -/
theorem Jn.same {es : List (Int × Int)} {T U : List Int} {e : Int} (hs : ∀ x ∈ U, x ∈ T ∨ x = e) (hj : Jn es T (enA es e) (enB es e)) {u v : Nat} (h : Jn es U u v) : Jn es T u v := by
  rcases Jn.add hs h with q | ⟨q1, q2⟩ | ⟨q1, q2⟩
  · exact q
  · exact q1.trans (hj.trans q2)
  · exact q1.trans (hj.symm.trans q2)
theorem Jn.nil {es : List (Int × Int)} {x y : Nat} (h : Jn es [] x y) : x = y := by
  induction h with
  | refl => rfl
  | edge e h => simp at h
  | symm _ ih => exact ih.symm
  | trans _ _ i1 i2 => exact i1.trans i2
/-- the ends are nodes -/
def EndsIn (es : List (Int × Int)) (T : List Int) (n : Nat) : Prop := ∀ e ∈ T, enA es e < n ∧ enB es e < n
theorem Jn.in_ {es : List (Int × Int)} {T : List Int} {n : Nat} (hT : EndsIn es T n) {x y : Nat} (h : Jn es T x y) : x < n ↔ y < n := by
  induction h with
  | refl => exact Iff.rfl
  | edge e h => exact ⟨fun _ => (hT e h).2, fun _ => (hT e h).1⟩
  | symm _ ih => exact ih.symm
  | trans _ _ i1 i2 => exact i1.trans i2
theorem cls_nil (es : List (Int × Int)) (n : Nat) : cls (Jn es []) n = n := by
  have : ∀ x, Mn (Jn es []) x := fun x y h => Nat.le_of_eq h.nil
  unfold cls
  rw [List.countP_eq_length.2 (fun x _ => by simpa using this x), List.length_range]
theorem cls_add {es : List (Int × Int)} {T U : List Int} {e : Int} (hs : ∀ x ∈ U, x ∈ T ∨ x = e) (n : Nat) : cls (Jn es T) n ≤ cls (Jn es U) n + 1 :=
  cls_join (a := enA es e) (b := enB es e) (fun x => .refl x) (fun h => h.symm) (fun h k => h.trans k) (fun h => Jn.add hs h)
theorem cls_eq {R R' : Nat → Nat → Prop} {n : Nat} (h : ∀ x y, R x y ↔ R' x y) : cls R n = cls R' n := by
  have : R = R' := by funext x y; exact propext (h x y)
  rw [this]
theorem cls_le (es : List (Int × Int)) (n : Nat) : ∀ T : List Int, n ≤ cls (Jn es T) n + T.length
  | [] => by rw [cls_nil]; simp
  | e :: T => by
    have h1 := cls_le es n T
    have h2 := cls_add (es := es) (T := T) (U := e :: T) (e := e) (fun x hx => (List.mem_cons.1 hx).symm) n
    simp only [List.length_cons]; omega
/-- one edge joins two classes -/
theorem cls_two {es : List (Int × Int)} {T U : List Int} {e : Int} {n : Nat} (hs : ∀ x ∈ T, x ∈ U) (he : e ∈ U) (ha : enA es e < n) (hb : enB es e < n) (hn : ¬ Jn es T (enA es e) (enB es e)) : cls (Jn es U) n + 1 ≤ cls (Jn es T) n := by
  obtain ⟨ma, a1, a2⟩ := least_of (P := fun x => Jn es T (enA es e) x) _ (.refl _)
  obtain ⟨mb, b1, b2⟩ := least_of (P := fun x => Jn es T (enB es e) x) _ (.refl _)
  have la := a2 _ (.refl _)
  have lb := b2 _ (.refl _)
  have hne : ma ≠ mb := fun q => hn (by subst q; exact a1.trans b1.symm)
  have hU : Jn es U ma mb := (a1.mono hs).symm.trans ((Jn.edge e he).trans (b1.mono hs))
  by_cases g : ma < mb
  · exact cls_more (m := mb) (by omega) (fun x hx y hy => hx y (hy.mono hs)) (fun y hy => b2 y (b1.trans hy)) (fun q => by have := q ma hU.symm; omega)
  · exact cls_more (m := ma) (by omega) (fun x hx y hy => hx y (hy.mono hs)) (fun y hy => a2 y (a1.trans hy)) (fun q => by have := q mb hU; omega)
/-- all is joined -/
def Conn (es : List (Int × Int)) (T : List Int) (n : Nat) : Prop := ∀ x y, x < n → y < n → Jn es T x y
theorem conn_cls {es : List (Int × Int)} {T : List Int} {n : Nat} (h : Conn es T n) : cls (Jn es T) n ≤ 1 := by
  unfold cls
  have key : ∀ k, k ≤ n → (List.range k).countP (fun x => @decide (Mn (Jn es T) x) (Classical.propDecidable _)) ≤ 1 := by
    intro k
    induction k with
    | zero => intro _; simp
    | succ k ih =>
      intro hk
      rw [List.range_succ, List.countP_append]
      by_cases g : k = 0
      · subst g; simp [List.countP_cons]; split <;> omega
      · have hm : ¬ Mn (Jn es T) k := fun q => by have := q 0 (h k 0 (by omega) (by omega)); omega
        have hi := ih (by omega)
        have hz : List.countP (fun x => @decide (Mn (Jn es T) x) (Classical.propDecidable _)) [k] = 0 := by
          rw [List.countP_eq_zero]
          intro x hx
          rw [List.mem_singleton] at hx
          subst hx
          simpa using hm
        omega
  exact key n (Nat.le_refl _)
theorem cls_conn {es : List (Int × Int)} {T : List Int} {n : Nat} (h : cls (Jn es T) n ≤ 1) : Conn es T n := by
  intro x y hx hy
  refine Classical.byContradiction fun hn => ?_
  obtain ⟨mx, a1, a2⟩ := least_of (P := fun z => Jn es T x z) _ (.refl _)
  obtain ⟨my, b1, b2⟩ := least_of (P := fun z => Jn es T y z) _ (.refl _)
  have la := a2 _ (.refl _)
  have lb := b2 _ (.refl _)
  have hne : mx ≠ my := fun q => hn (by subst q; exact a1.trans b1.symm)
  have m1 : Mn (Jn es T) mx := fun z hz => a2 z (a1.trans hz)
  have m2 : Mn (Jn es T) my := fun z hz => b2 z (b1.trans hz)
  -- two least ones
  have : 2 ≤ cls (Jn es T) n := by
    unfold cls
    have key : ∀ l : List Nat, l.Nodup → (if mx ∈ l then 1 else 0) + (if my ∈ l then 1 else 0) ≤ l.countP (fun x => @decide (Mn (Jn es T) x) (Classical.propDecidable _)) := by
      intro l
      induction l with
      | nil => intro _; simp
      | cons z l ih =>
        intro hn'
        have hz := List.nodup_cons.1 hn'
        have ih := ih hz.2
        rw [List.countP_cons]
        by_cases e1 : z = mx
        · subst e1
          have d1 : @decide (Mn (Jn es T) z) (Classical.propDecidable _) = true := by simpa using m1
          rw [if_neg hz.1] at ih
          have d2 : (my ∈ z :: l) = (my ∈ l) := by rw [List.mem_cons]; exact propext ⟨fun q => q.resolve_left (fun q => hne q.symm), .inr⟩
          simp only [d2, d1, if_true, List.mem_cons, true_or]
          omega
        · by_cases e2 : z = my
          · subst e2
            have d1 : @decide (Mn (Jn es T) z) (Classical.propDecidable _) = true := by simpa using m2
            rw [if_neg hz.1] at ih
            have d2 : (mx ∈ z :: l) = (mx ∈ l) := by rw [List.mem_cons]; exact propext ⟨fun q => q.resolve_left (fun q => e1 q.symm), .inr⟩
            simp only [d2, d1, if_true, List.mem_cons, true_or]
            omega
          · have d1 : (mx ∈ z :: l) = (mx ∈ l) := by rw [List.mem_cons]; exact propext ⟨fun q => q.resolve_left (fun q => e1 q.symm), .inr⟩
            have d2 : (my ∈ z :: l) = (my ∈ l) := by rw [List.mem_cons]; exact propext ⟨fun q => q.resolve_left (fun q => e2 q.symm), .inr⟩
            simp only [d1, d2]
            exact Nat.le_trans ih (Nat.le_add_right _ _)
    have := key (List.range n) List.nodup_range
    rw [if_pos (List.mem_range.2 (by omega)), if_pos (List.mem_range.2 (by omega))] at this
    exact this
  omega
/-- all but one edge -/
def wo1 (T : List Int) (e : Int) : List Int := T.filter fun y => decide (y ≠ e)
theorem wo1_mem {T : List Int} {e x : Int} : x ∈ wo1 T e ↔ x ∈ T ∧ x ≠ e := by simp [wo1]
theorem wo1_len {T : List Int} (hn : T.Nodup) {e : Int} (he : e ∈ T) : (wo1 T e).length + 1 = T.length := by
  induction T with
  | nil => simp at he
  | cons x T ih =>
    have hx := List.nodup_cons.1 hn
    by_cases g : x = e
    · subst g
      have : wo1 (x :: T) x = T := by
        unfold wo1
        rw [List.filter_cons]
        simp only [ne_eq, not_true_eq_false, decide_false, Bool.false_eq_true, if_false]
        rw [List.filter_eq_self]
        intro y hy
        simp only [decide_eq_true_eq]
        exact fun q => hx.1 (q ▸ hy)
      rw [this]; rfl
    · have : wo1 (x :: T) e = x :: wo1 T e := by unfold wo1; rw [List.filter_cons]; simp [g]
      rw [this]
      have := ih hx.2 ((List.mem_cons.1 he).resolve_left (fun q => g q.symm))
      simp only [List.length_cons]; omega
/-- a tree -/
structure Tree (es : List (Int × Int)) (T : List Int) (n : Nat) : Prop where
  nd : T.Nodup
  len : T.length + 1 = n
  conn : Conn es T n
  ends : EndsIn es T n
theorem Tree.cover {es : List (Int × Int)} {T : List Int} {n : Nat} (h : Tree es T n) {e : Int} : ∀ x ∈ T, x ∈ wo1 T e ∨ x = e := fun x hx => by
  by_cases g : x = e
  · exact .inr g
  · exact .inl (wo1_mem.2 ⟨hx, g⟩)
/-- each edge of a tree is a bridge -/
theorem Tree.bridge {es : List (Int × Int)} {T : List Int} {n : Nat} (h : Tree es T n) {e : Int} (he : e ∈ T) : ¬ Jn es (wo1 T e) (enA es e) (enB es e) := by
  intro hj
  have c : Conn es (wo1 T e) n := fun x y hx hy => Jn.same h.cover hj (h.conn x y hx hy)
  have h1 := conn_cls c
  have h2 := cls_le es n (wo1 T e)
  have h3 := wo1_len h.nd he
  have h4 := h.len
  omega
theorem Tree.split {es : List (Int × Int)} {T : List Int} {n : Nat} (h : Tree es T n) {e : Int} (he : e ∈ T) {x : Nat} (hx : x < n) : Jn es (wo1 T e) x (enA es e) ∨ Jn es (wo1 T e) x (enB es e) := by
  rcases Jn.add h.cover (h.conn x (enA es e) hx (h.ends e he).1) with q | ⟨q, _⟩ | ⟨q, _⟩
  · exact .inl q
  · exact .inl q
  · exact .inr q
/-- an edge is in the cut exactly if just one end is joined to one side -/
theorem Tree.cut {es : List (Int × Int)} {T : List Int} {n : Nat} (h : Tree es T n) {e : Int} (he : e ∈ T) {u v : Nat} (hu : u < n) (hv : v < n) : ¬ Jn es (wo1 T e) u v ↔ ¬ (Jn es (wo1 T e) (enA es e) u ↔ Jn es (wo1 T e) (enA es e) v) := by
  constructor
  · intro hn hiff
    by_cases g : Jn es (wo1 T e) (enA es e) u
    · exact hn (g.symm.trans (hiff.1 g))
    · have g2 : ¬ Jn es (wo1 T e) (enA es e) v := fun q => g (hiff.2 q)
      have a := (h.split he hu).resolve_left fun q => g q.symm
      have b := (h.split he hv).resolve_left fun q => g2 q.symm
      exact hn (a.trans b.symm)
  · intro hn hj
    exact hn ⟨fun q => q.trans hj, fun q => q.trans hj.symm⟩
/-- the circle of an edge -/
def Cir (es : List (Int × Int)) (T : List Int) (f e : Int) : Prop := e ∈ T ∧ ¬ Jn es (wo1 T e) (enA es f) (enB es f)
/-- an exchange -/
theorem Tree.swap {es : List (Int × Int)} {T U : List Int} {n : Nat} (h : Tree es T n) {e f : Int} (hc : Cir es T f e) (hf : f ∉ T) (hfe : enA es f < n ∧ enB es f < n) (hU : U.Perm (wo1 T e ++ [f])) : Tree es U n := by
  have hm : ∀ x, x ∈ U ↔ x ∈ wo1 T e ∨ x = f := fun x => by rw [hU.mem_iff]; simp
  have sub : ∀ x ∈ wo1 T e, x ∈ U := fun x hx => (hm x).2 (.inl hx)
  have hfU : f ∈ U := (hm f).2 (.inr rfl)
  have hab : Jn es U (enA es e) (enB es e) := by
    have hf1 : Jn es U (enA es f) (enB es f) := .edge f hfU
    have hb := h.split hc.1 hfe.1
    have hb2 := h.split hc.1 hfe.2
    rcases hb with q | q <;> rcases hb2 with p | p
    · exact absurd (q.trans p.symm) hc.2
    · exact (q.mono sub).symm.trans (hf1.trans (p.mono sub))
    · exact (p.mono sub).symm.trans (hf1.symm.trans (q.mono sub))
    · exact absurd (q.trans p.symm) hc.2
  have hall : ∀ x, x < n → Jn es U x (enA es e) := fun x hx => by
    rcases h.split hc.1 hx with q | q
    · exact q.mono sub
    · exact (q.mono sub).trans hab.symm
  refine ⟨?_, ?_, fun x y hx hy => (hall x hx).trans (hall y hy).symm, fun x hx => ?_⟩
  · rw [hU.nodup_iff, List.nodup_append]
    refine ⟨h.nd.sublist List.filter_sublist, by simp, fun a ha b hb => ?_⟩
    rw [List.mem_singleton] at hb
    subst hb
    exact fun q => hf (q ▸ (wo1_mem.1 ha).1)
  · rw [hU.length_eq, List.length_append]
    have := wo1_len h.nd hc.1
    have := h.len
    simp only [List.length_cons, List.length_nil]; omega
  · rcases (hm x).1 hx with q | q
    · exact h.ends x (wo1_mem.1 q).1
    · subst q; exact hfe
theorem Tree.noswap {es : List (Int × Int)} {T U : List Int} {n : Nat} (h : Tree es T n) {e f : Int} (he : e ∈ T) (hc : ¬ Cir es T f e) (hU : ∀ x ∈ U, x ∈ wo1 T e ∨ x = f) : ¬ Conn es U n := by
  intro hcn
  have hj : Jn es (wo1 T e) (enA es f) (enB es f) := Classical.byContradiction fun q => hc ⟨he, q⟩
  exact h.bridge he (Jn.same hU hj (hcn _ _ (h.ends e he).1 (h.ends e he).2))
/-- the circle joins both ends -/
theorem Tree.round {es : List (Int × Int)} {T : List Int} {n : Nat} (h : Tree es T n) {f : Int} (hfe : enA es f < n ∧ enB es f < n) {C : List Int} (hC : ∀ e, Cir es T f e → e ∈ C) : Jn es C (enA es f) (enB es f) := by
  have key : ∀ (k : Nat) (S : List Int), (∀ e ∈ S, e ∈ T) → S.Nodup → S.length = k → Jn es S (enA es f) (enB es f) → Jn es C (enA es f) (enB es f) := by
    intro k
    induction k with
    | zero =>
      intro S _ _ hl hj
      rw [List.eq_nil_of_length_eq_zero hl] at hj
      exact hj.mono (fun e he => by simp at he)
    | succ k ih =>
      intro S hS hnd hl hj
      by_cases g : ∀ e ∈ S, Cir es T f e
      · exact hj.mono fun e he => hC e (g e he)
      · obtain ⟨e, he, hce⟩ : ∃ e, e ∈ S ∧ ¬ Cir es T f e := by
          refine Classical.byContradiction fun q => g fun e he => Classical.byContradiction fun q2 => q ⟨e, he, q2⟩
        have hTe := hS e he
        have huv : Jn es (wo1 T e) (enA es f) (enB es f) := Classical.byContradiction fun q => hce ⟨hTe, q⟩
        have sub : ∀ x ∈ wo1 S e, x ∈ wo1 T e := fun x hx => wo1_mem.2 ⟨hS x (wo1_mem.1 hx).1, (wo1_mem.1 hx).2⟩
        have cov : ∀ x ∈ S, x ∈ wo1 S e ∨ x = e := fun x hx => by
          by_cases g : x = e
          · exact .inr g
          · exact .inl (wo1_mem.2 ⟨hx, g⟩)
        refine ih (wo1 S e) (fun x hx => hS x (wo1_mem.1 hx).1) (hnd.sublist List.filter_sublist) (by have := wo1_len hnd he; omega) ?_
        rcases Jn.add cov hj with q | ⟨q1, q2⟩ | ⟨q1, q2⟩
        · exact q
        · exact absurd ((q1.mono sub).symm.trans (huv.trans (q2.mono sub).symm)) (h.bridge hTe)
        · exact absurd ((q2.mono sub).trans (huv.symm.trans (q1.mono sub))) (h.bridge hTe)
  exact key T.length T (fun _ h => h) h.nd rfl (h.conn _ _ hfe.1 hfe.2)
/-- edges that join, one after the other -/
theorem tree_iff {es : List (Int × Int)} {T : List Int} {n : Nat} (hnd : T.Nodup) (hl : T.length + 1 = n) (he : EndsIn es T n) :
    (∀ k, k < T.length → ¬ Jn es (T.take k) (enA es (T.getD k 0)) (enB es (T.getD k 0))) ↔ Conn es T n := by
  have gm : ∀ k, k < T.length → T.take (k + 1) = T.take k ++ [T.getD k 0] := fun k hk => by
    rw [List.take_succ_eq_append_getElem hk]; simp [hk]
  have gin : ∀ k, k < T.length → T.getD k 0 ∈ T := fun k hk => by simp [hk]
  constructor
  · intro h
    have key : ∀ k, k ≤ T.length → cls (Jn es (T.take k)) n + k ≤ n := by
      intro k
      induction k with
      | zero => intro _; rw [List.take_zero, cls_nil]; omega
      | succ k ih =>
        intro hk
        have := ih (by omega)
        have := cls_two (es := es) (T := T.take k) (U := T.take (k + 1)) (e := T.getD k 0) (n := n) (fun x hx => by rw [gm k hk]; simp [hx]) (by rw [gm k hk]; simp) (he _ (gin k hk)).1 (he _ (gin k hk)).2 (h k hk)
        omega
    have := key T.length (Nat.le_refl _)
    rw [List.take_length] at this
    exact cls_conn (by omega)
  · intro hc k hk hj
    have key : ∀ d, k + 1 + d ≤ T.length → n ≤ cls (Jn es (T.take (k + 1 + d))) n + k + d := by
      intro d
      induction d with
      | zero =>
        intro _
        have h1 := cls_le es n (T.take k)
        rw [List.length_take, Nat.min_eq_left (by omega)] at h1
        have : cls (Jn es (T.take (k + 1))) n = cls (Jn es (T.take k)) n := cls_eq fun x y => ⟨fun q => Jn.same (e := T.getD k 0) (fun z hz => by rw [gm k hk] at hz; simpa using hz) hj q, fun q => q.mono fun z hz => by rw [gm k hk]; simp [hz]⟩
        rw [Nat.add_zero, this]; omega
      | succ d ih =>
        intro hd
        have := ih (by omega)
        have h2 := cls_add (es := es) (T := T.take (k + 1 + d)) (U := T.take (k + 1 + (d + 1))) (e := T.getD (k + 1 + d) 0) (fun z hz => by
          rw [show k + 1 + (d + 1) = (k + 1 + d) + 1 from rfl, gm _ (by omega)] at hz; simpa using hz) n
        omega
    have h3 := key (T.length - (k + 1)) (by omega)
    rw [show k + 1 + (T.length - (k + 1)) = T.length from by omega, List.take_length] at h3
    have := conn_cls hc
    omega
end Go.Proofs.Ytlcipphiflcaiaa.Ai
namespace Go.Proofs.Ytlcipphiflcaiaa.Ai
open Go
set_option linter.unusedVariables false
/-- the places of one list, met from a place at the distance d - 1 -/
def bfsIn (d : Int) : List Int → List Int × List Int → List Int × List Int
  | [], st => st
  | j :: r, st => if st.1.getD j.toNat 0 < 0 then bfsIn d r (st.1.set j.toNat d, st.2 ++ [j]) else bfsIn d r st
/-- from the k-th place of the queue on -/
def bfsF (L : List (List Int)) : Nat → List Int × List Int → Nat → List Int
  | 0, st, _ => st.1
  | f + 1, st, k => if k < st.2.length then bfsF L f (bfsIn (st.1.getD (st.2.getD k 0).toNat 0 + 1) (L.getD (st.2.getD k 0).toNat []) st) (k + 1) else st.1
def bfs0 (N i : Nat) : List Int := (List.replicate N (-1)).set i 0
/-- the distances from a place -/
def bfs (L : List (List Int)) (i : Nat) : List Int := bfsF L (L.length + 1) (bfs0 L.length i, [(i : Int)]) 0
/-- lists of places -/
def LOk (N : Nat) (L : List (List Int)) : Prop := ∀ i, ∀ y ∈ L.getD i [], 0 ≤ y ∧ y < N
/-- what holds all along -/
structure BI (N : Nat) (st : List Int × List Int) : Prop where
  len : st.1.length = N
  q : ∀ x ∈ st.2, (0 ≤ x ∧ x < N) ∧ 0 ≤ st.1.getD x.toNat 0
  lo : ∀ v, v < N → -1 ≤ st.1.getD v 0 ∧ st.1.getD v 0 < st.2.length
  cnt : st.2.length + st.1.countP (· < 0) = N
theorem countP_set_neg (xs : List Int) (j : Nat) (d : Int) (hj : j < xs.length) (h : xs.getD j 0 < 0) (hd : 0 ≤ d) : (xs.set j d).countP (· < 0) + 1 = xs.countP (· < 0) := by
  induction xs generalizing j with
  | nil => simp at hj
  | cons x xs ih =>
    cases j with
    | zero =>
      have hx : x < 0 := by simpa using h
      simp only [List.set_cons_zero, List.countP_cons]
      simp only [decide_eq_true_eq]
      rw [if_neg (by omega), if_pos hx]
    | succ j =>
      have := ih j (by simpa using hj) (by simpa using h)
      simp only [List.set_cons_succ, List.countP_cons]
      omega
theorem BI.len_le {N : Nat} {st : List Int × List Int} (h : BI N st) : st.2.length ≤ N := by have := h.cnt; omega
theorem getD_setB (xs : List Int) (j v : Nat) (d : Int) (hv : v < xs.length) : (xs.set j d).getD v 0 = if j = v then d else xs.getD v 0 := by
  rw [List.getD_eq_getElem?_getD, List.getD_eq_getElem?_getD, List.getElem?_set]
  by_cases h : j = v
  · subst h; rw [if_pos rfl, if_pos rfl, if_pos hv]; rfl
  · rw [if_neg h, if_neg h]
theorem BI.put {N : Nat} {st : List Int × List Int} (h : BI N st) {j d : Int} (hj : 0 ≤ j ∧ j < N) (hn : st.1.getD j.toNat 0 < 0) (hd : 0 ≤ d ∧ d ≤ st.2.length) : BI N (st.1.set j.toNat d, st.2 ++ [j]) := by
  have hl := h.len
  refine ⟨by simp [hl], ?_, ?_, ?_⟩
  · intro x hx
    simp only [List.mem_append, List.mem_cons, List.not_mem_nil, or_false] at hx
    rcases hx with hx | rfl
    · obtain ⟨h1, h2⟩ := h.q x hx
      refine ⟨h1, ?_⟩
      show 0 ≤ (st.1.set j.toNat d).getD x.toNat 0
      rw [getD_setB _ _ _ _ (by omega)]
      split <;> omega
    · refine ⟨hj, ?_⟩
      show 0 ≤ (st.1.set x.toNat d).getD x.toNat 0
      rw [getD_setB _ _ _ _ (by omega), if_pos rfl]; omega
  · intro v hv
    have := h.lo v hv
    show -1 ≤ (st.1.set j.toNat d).getD v 0 ∧ (st.1.set j.toNat d).getD v 0 < ((st.2 ++ [j]).length : Nat)
    rw [getD_setB _ _ _ _ (by omega)]
    simp only [List.length_append, List.length_cons, List.length_nil]
    split <;> omega
  · have := countP_set_neg st.1 j.toNat d (by omega) hn hd.1
    have := h.cnt
    show (st.2 ++ [j]).length + (st.1.set j.toNat d).countP (· < 0) = N
    simp only [List.length_append, List.length_cons, List.length_nil]
    omega
theorem bfs0_BI (N i : Nat) (hi : i < N) : BI N (bfs0 N i, [(i : Int)]) := by
  have hat : ∀ v, v < N → (bfs0 N i).getD v 0 = if i = v then 0 else -1 := by
    intro v hv
    unfold bfs0
    rw [getD_setB _ _ _ _ (by simpa using hv)]
    split
    · rfl
    · rw [List.getD_eq_getElem?_getD, List.getElem?_replicate, if_pos hv]; rfl
  refine ⟨by simp [bfs0], ?_, ?_, ?_⟩
  · intro x hx
    simp only [List.mem_cons, List.not_mem_nil, or_false] at hx
    subst hx
    refine ⟨by omega, ?_⟩
    show 0 ≤ (bfs0 N i).getD (i : Int).toNat 0
    rw [Int.toNat_natCast, hat i hi, if_pos rfl]; omega
  · intro v hv
    show -1 ≤ (bfs0 N i).getD v 0 ∧ (bfs0 N i).getD v 0 < _
    rw [hat v hv]
    simp only [List.length_cons, List.length_nil]
    split <;> omega
  · show [(i : Int)].length + (bfs0 N i).countP (· < 0) = N
    have := countP_set_neg (List.replicate N (-1)) i 0 (by simpa using hi) (by rw [List.getD_eq_getElem?_getD, List.getElem?_replicate, if_pos hi]; decide) (by omega)
    have h2 : (List.replicate N (-1 : Int)).countP (· < 0) = N := by rw [List.countP_replicate]; simp
    unfold bfs0
    simp only [List.length_cons, List.length_nil]
    omega
theorem BI.inn {N : Nat} {d : Int} : ∀ (l : List Int) {st : List Int × List Int}, BI N st → (∀ y ∈ l, 0 ≤ y ∧ y < N) → (0 ≤ d ∧ d ≤ st.2.length) → BI N (bfsIn d l st)
  | [], st, h, _, _ => h
  | j :: r, st, h, hl, hd => by
    simp only [bfsIn]
    split
    · rename_i hn
      refine BI.inn r (h.put (hl j (by simp)) hn hd) (fun y hy => hl y (by simp [hy])) ?_
      simp only [List.length_append, List.length_cons, List.length_nil]
      omega
    · exact BI.inn r h (fun y hy => hl y (by simp [hy])) hd
theorem bfsF_done (L : List (List Int)) (f : Nat) (st : List Int × List Int) (k : Nat) (h : st.2.length ≤ k) : bfsF L f st k = st.1 := by
  cases f with
  | zero => rfl
  | succ f => simp only [bfsF]; rw [if_neg (by omega)]
theorem bfsF_step (L : List (List Int)) (f : Nat) (st : List Int × List Int) (k : Nat) (h : k < st.2.length) : bfsF L (f + 1) st k = bfsF L f (bfsIn (st.1.getD (st.2.getD k 0).toNat 0 + 1) (L.getD (st.2.getD k 0).toNat []) st) (k + 1) := by
  simp only [bfsF]; rw [if_pos h]
/-- the inner loop keeps the beginning of the queue and what is known -/
theorem bfsIn_pre (d : Int) : ∀ (l : List Int) (st : List Int × List Int), st.2 <+: (bfsIn d l st).2
  | [], st => List.prefix_refl _
  | j :: r, st => by
    simp only [bfsIn]
    split
    · exact (List.prefix_append st.2 [j]).trans (bfsIn_pre d r (st.1.set j.toNat d, st.2 ++ [j]))
    · exact bfsIn_pre d r st
/-- all along the outer loop -/
theorem bfs_BI (L : List (List Int)) (hL : LOk L.length L) : ∀ (f : Nat) (st : List Int × List Int) (k : Nat), BI L.length st → ∃ q, BI L.length (bfsF L f st k, q)
  | 0, st, k, h => ⟨st.2, h⟩
  | f + 1, st, k, h => by
    simp only [bfsF]
    split
    · rename_i hk
      have hm : st.2.getD k 0 ∈ st.2 := by simp [hk]
      obtain ⟨h1, h2⟩ := h.q _ hm
      have h3 := h.lo (st.2.getD k 0).toNat (by omega)
      exact bfs_BI L hL f _ _ (BI.inn _ h (hL _) (by omega))
    · exact ⟨st.2, h⟩
theorem bfs_rng (L : List (List Int)) (hL : LOk L.length L) (i : Nat) (hi : i < L.length) : (bfs L i).length = L.length ∧ ∀ v, v < L.length → -1 ≤ (bfs L i).getD v 0 ∧ (bfs L i).getD v 0 < L.length := by
  obtain ⟨q, h⟩ := bfs_BI L hL (L.length + 1) _ 0 (bfs0_BI L.length i hi)
  have := h.len_le
  refine ⟨h.len, fun v hv => ?_⟩
  have := h.lo v hv
  exact ⟨this.1, by have h2 : (bfs L i).getD v 0 < (q.length : Int) := this.2; have h3 : q.length ≤ L.length := h.len_le; omega⟩
end Go.Proofs.Ytlcipphiflcaiaa.Ai
namespace Go.Proofs.Ytlcipphiflcaiaa.Ai
open Go
/-- a number put into an ascending list -/
def put : List Int → Int → List Int
  | [], x => [x]
  | y :: ys, x => if y < x then y :: put ys x else if y = x then y :: ys else x :: y :: ys
theorem putAt_eq0 (l : List Int) (x : Int) : ∀ k, k ≤ l.length → (∀ j, j < k → l.getD j 0 < x) → (k < l.length → x ≤ l.getD k 0) → put l x = if k < l.length ∧ l.getD k 0 = x then l else l.take k ++ x :: l.drop k := by
  induction l with
  | nil => intro k hk _ _; simp at hk; subst hk; simp [put]
  | cons y ys ih =>
    intro k hk h1 h2
    cases k with
    | zero =>
      have := h2 (by simp)
      simp only [List.getD_cons_zero] at this
      simp only [put]
      rw [if_neg (by omega)]
      by_cases e : y = x
      · rw [if_pos e, if_pos ⟨by simp, by simpa using e⟩]
      · rw [if_neg e, if_neg (by rintro ⟨_, h⟩; exact e (by simpa using h))]; simp
    | succ k =>
      have := h1 0 (by omega)
      simp only [List.getD_cons_zero] at this
      simp only [put]
      rw [if_pos this, ih k (by simpa using hk) (fun j hj => by have := h1 (j + 1) (by omega); simpa using this) (fun hkk => by have := h2 (by simp; omega); simpa using this)]
      by_cases c : k < ys.length ∧ ys.getD k 0 = x
      · rw [if_pos c, if_pos (by simpa using c)]
      · rw [if_neg c, if_neg (by simpa using c)]; simp
theorem put_perm (l : List Int) (x : Int) (h : x ∉ l) : (put l x).Perm (x :: l) := by
  induction l with
  | nil => exact List.Perm.refl _
  | cons y ys ih =>
    simp only [List.mem_cons, not_or] at h
    simp only [put]
    split
    · exact ((ih h.2).cons y).trans (List.Perm.swap x y ys)
    · rw [if_neg (fun e => h.1 e.symm)]
theorem put_mem (l : List Int) (x y : Int) : y ∈ put l x ↔ y = x ∨ y ∈ l := by
  induction l with
  | nil => simp [put]
  | cons z zs ih =>
    simp only [put]
    split
    · simp only [List.mem_cons, ih]
      constructor
      · rintro (h | h | h)
        · exact .inr (.inl h)
        · exact .inl h
        · exact .inr (.inr h)
      · rintro (h | h | h)
        · exact .inr (.inl h)
        · exact .inl h
        · exact .inr (.inr h)
    · split
      · rename_i h1 h2
        subst h2
        simp
      · simp
theorem put_sorted (l : List Int) (x : Int) (h : l.Pairwise (· < ·)) : (put l x).Pairwise (· < ·) := by
  induction l with
  | nil => simp [put]
  | cons y ys ih =>
    simp only [List.pairwise_cons] at h
    simp only [put]
    split
    · rename_i h1
      rw [List.pairwise_cons]
      refine ⟨fun z hz => ?_, ih h.2⟩
      rcases (put_mem ys x z).1 hz with e | e
      · rw [e]; exact h1
      · exact h.1 z e
    · split
      · rw [List.pairwise_cons]; exact h
      · rename_i h1 h2
        rw [List.pairwise_cons]
        refine ⟨fun z hz => ?_, by rw [List.pairwise_cons]; exact h⟩
        rcases List.mem_cons.1 hz with e | e
        · rw [e]; omega
        · have := h.1 z e; omega
/-- numbers put, one after the other -/
def puts (xs : List Int) : List Int := xs.foldl put []
theorem puts_step (xs : List Int) (x : Int) : puts (xs ++ [x]) = put (puts xs) x := by simp [puts]
theorem puts_perm : ∀ (n : Nat) (xs : List Int), xs.length = n → xs.Nodup → (puts xs).Perm xs ∧ (puts xs).Pairwise (· < ·) := by
  intro n
  induction n with
  | zero => intro xs h _; have : xs = [] := List.eq_nil_of_length_eq_zero h; subst this; exact ⟨List.Perm.refl _, List.Pairwise.nil⟩
  | succ n ih =>
    intro xs h hn
    rcases List.eq_nil_or_concat xs with e | ⟨ys, x, e⟩
    · subst e; simp at h
    · subst e
      rw [List.concat_eq_append] at h hn ⊢
      have hn' := List.nodup_append.1 hn
      obtain ⟨i1, i2⟩ := ih ys (by simpa using h) hn'.1
      have hx : x ∉ ys := fun hm => hn'.2.2 x hm x (by simp) rfl
      have hx2 : x ∉ puts ys := fun hm => hx (i1.mem_iff.1 hm)
      rw [puts_step]
      refine ⟨?_, put_sorted _ _ i2⟩
      exact (put_perm _ _ hx2).trans ((i1.cons x).trans (List.perm_append_singleton x ys).symm)
end Go.Proofs.Ytlcipphiflcaiaa.Ai
namespace Go.Proofs.Ytlcipphiflcaiaa.Ai
open Go
set_option linter.unusedVariables false
/-- the neighbors of one place: those not seen yet are added -/
def ptIn : List Int → List Bool × List Int → List Bool × List Int
  | [], st => st
  | j :: r, st => if st.1.getD j.toNat false = true then ptIn r st else ptIn r (st.1.set j.toNat true, st.2 ++ [j])
def ptF (L : List (List Int)) : Nat → List Bool × List Int → Nat → List Bool × List Int
  | 0, st, _ => st
  | f + 1, st, k => if k < st.2.length then ptF L f (ptIn (L.getD (st.2.getD k 0).toNat []) st) (k + 1) else st
structure PI (N C : Nat) (st : List Bool × List Int) : Prop where
  len : st.1.length = N
  q : ∀ x ∈ st.2, (0 ≤ x ∧ x < N) ∧ st.1.getD x.toNat false = true
  nd : st.2.Nodup
  cnt : st.2.length + st.1.countP (fun b => !b) = C
  le : C ≤ N
theorem getD_setBool (xs : List Bool) (j v : Nat) (d : Bool) (hv : v < xs.length) : (xs.set j d).getD v false = if j = v then d else xs.getD v false := by
  rw [List.getD_eq_getElem?_getD, List.getD_eq_getElem?_getD, List.getElem?_set]
  by_cases h : j = v
  · subst h; rw [if_pos rfl, if_pos rfl, if_pos hv]; rfl
  · rw [if_neg h, if_neg h]
theorem countP_set_true : ∀ (xs : List Bool) (j : Nat), j < xs.length → xs.getD j false = false → (xs.set j true).countP (fun b => !b) + 1 = xs.countP (fun b => !b)
  | [], j, h, _ => by simp at h
  | x :: xs, 0, _, h => by
    have hx : x = false := by simpa using h
    subst hx
    simp [List.countP_cons]
  | x :: xs, j + 1, hj, h => by
    have := countP_set_true xs j (by simpa using hj) (by simpa using h)
    simp only [List.set_cons_succ, List.countP_cons]
    omega
theorem PI.len_le {N C : Nat} {st : List Bool × List Int} (h : PI N C st) : st.2.length ≤ N := by have := h.cnt; have := h.le; omega
theorem PI.put {N C : Nat} {st : List Bool × List Int} (h : PI N C st) {j : Int} (hj : 0 ≤ j ∧ j < N) (hn : ¬ st.1.getD j.toNat false = true) : PI N C (st.1.set j.toNat true, st.2 ++ [j]) := by
  have hl := h.len
  have hf : st.1.getD j.toNat false = false := by simpa using hn
  refine ⟨by simp [hl], ?_, ?_, ?_, h.le⟩
  · intro x hx
    simp only [List.mem_append, List.mem_cons, List.not_mem_nil, or_false] at hx
    rcases hx with hx | rfl
    · obtain ⟨h1, h2⟩ := h.q x hx
      refine ⟨h1, ?_⟩
      show (st.1.set j.toNat true).getD x.toNat false = true
      rw [getD_setBool _ _ _ _ (by omega)]
      split
      · rfl
      · exact h2
    · refine ⟨hj, ?_⟩
      show (st.1.set x.toNat true).getD x.toNat false = true
      rw [getD_setBool _ _ _ _ (by omega), if_pos rfl]
  · rw [List.nodup_append]
    refine ⟨h.nd, by simp, ?_⟩
    intro a ha b hb hab
    simp only [List.mem_cons, List.not_mem_nil, or_false] at hb
    subst hab; subst hb
    exact hn (h.q a ha).2
  · have := countP_set_true st.1 j.toNat (by omega) hf
    have := h.cnt
    show (st.2 ++ [j]).length + (st.1.set j.toNat true).countP (fun b => !b) = C
    simp only [List.length_append, List.length_cons, List.length_nil]
    omega
theorem PI.first {N : Nat} {s : List Bool} (hs : s.length = N) {k : Nat} (hk : k < N) (hn : ¬ s.getD k false = true) : PI N (s.countP fun b => !b) (s.set k true, [(k : Int)]) := by
  have hf : s.getD k false = false := by simpa using hn
  refine ⟨by simp [hs], ?_, by simp, ?_, ?_⟩
  · intro x hx
    simp only [List.mem_cons, List.not_mem_nil, or_false] at hx
    subst hx
    refine ⟨by omega, ?_⟩
    show (s.set k true).getD (k : Int).toNat false = true
    rw [Int.toNat_natCast, getD_setBool _ _ _ _ (by omega), if_pos rfl]
  · have := countP_set_true s k (by omega) hf
    show [(k : Int)].length + (s.set k true).countP (fun b => !b) = _
    simp only [List.length_cons, List.length_nil]
    omega
  · rw [← hs]; exact List.countP_le_length
theorem PI.inn {N C : Nat} : ∀ (l : List Int) {st : List Bool × List Int}, PI N C st → (∀ y ∈ l, 0 ≤ y ∧ y < N) → PI N C (ptIn l st)
  | [], st, h, _ => h
  | j :: r, st, h, hl => by
    simp only [ptIn]
    split
    · exact PI.inn r h (fun y hy => hl y (by simp [hy]))
    · rename_i hn
      exact PI.inn r (h.put (hl j (by simp)) hn) (fun y hy => hl y (by simp [hy]))
theorem ptIn_pre : ∀ (l : List Int) (st : List Bool × List Int), st.2 <+: (ptIn l st).2
  | [], st => List.prefix_refl _
  | j :: r, st => by
    simp only [ptIn]
    split
    · exact ptIn_pre r st
    · exact (List.prefix_append st.2 [j]).trans (ptIn_pre r (st.1.set j.toNat true, st.2 ++ [j]))
end Go.Proofs.Ytlcipphiflcaiaa.Ai
namespace Go.Proofs.Ytlcipphiflcaiaa.Ai
open Go
theorem cs3 : Try.prog.cellsOf 3 = 1 := by kernel_rfl
theorem by3 : Try.prog.bytesOf 3 = 8 := by kernel_rfl
theorem ag3 : isAggA Try.prog 3 = some false := by kernel_rfl
theorem ze3 : zeroA Try.prog 3 = some (.int .i64 0) := by kernel_rfl
theorem zk3 : zeroOk Try.prog 3 = true := by kernel_rfl
theorem ag4 : isAggA Try.prog 4 = some false := by kernel_rfl
theorem ag5 : isAggA Try.prog 5 = some false := by kernel_rfl
theorem ag9 : isAggA Try.prog 9 = some false := by kernel_rfl
theorem cs22 : Try.prog.cellsOf 22 = 1 := by kernel_rfl
theorem ag22 : isAggA Try.prog 22 = some false := by kernel_rfl
theorem cs24 : Try.prog.cellsOf 24 = 2 := by kernel_rfl
theorem ag24 : isAggA Try.prog 24 = some true := by kernel_rfl
theorem cs25 : Try.prog.cellsOf 25 = 1 := by kernel_rfl
theorem by25 : Try.prog.bytesOf 25 = 24 := by kernel_rfl
theorem ag25 : isAggA Try.prog 25 = some false := by kernel_rfl
theorem ze25 : zeroA Try.prog 25 = some (.slice none 0 0) := by kernel_rfl
theorem zk25 : zeroOk Try.prog 25 = true := by kernel_rfl
theorem cs27 : Try.prog.cellsOf 27 = 1 := by kernel_rfl
theorem ag27 : isAggA Try.prog 27 = some false := by kernel_rfl
theorem cs29 : Try.prog.cellsOf 29 = 2 := by kernel_rfl
theorem ag29 : isAggA Try.prog 29 = some true := by kernel_rfl
theorem cs32 : Try.prog.cellsOf 32 = 2 := by kernel_rfl
theorem ag32 : isAggA Try.prog 32 = some true := by kernel_rfl
theorem ag33 : isAggA Try.prog 33 = some false := by kernel_rfl
theorem ag47 : isAggA Try.prog 47 = some false := by kernel_rfl
theorem ag54 : isAggA Try.prog 54 = some false := by kernel_rfl
theorem ag64 : isAggA Try.prog 64 = some false := by kernel_rfl
theorem cs65 : Try.prog.cellsOf 65 = 2 := by kernel_rfl
theorem by65 : Try.prog.bytesOf 65 = 16 := by kernel_rfl
theorem ag65 : isAggA Try.prog 65 = some true := by kernel_rfl
theorem ze65 : zeroA Try.prog 65 = some (.agg #[(.int .i64 0), (.int .i64 0)]) := by kernel_rfl
theorem zk65 : zeroOk Try.prog 65 = true := by kernel_rfl
theorem ag70 : isAggA Try.prog 70 = some false := by kernel_rfl
theorem ag71 : isAggA Try.prog 71 = some false := by kernel_rfl
theorem ag73 : isAggA Try.prog 73 = some false := by kernel_rfl
theorem ag76 : isAggA Try.prog 76 = some false := by kernel_rfl
theorem ag77 : isAggA Try.prog 77 = some false := by kernel_rfl
theorem ag83 : isAggA Try.prog 83 = some false := by kernel_rfl
theorem ag91 : isAggA Try.prog 91 = some false := by kernel_rfl
theorem ag104 : isAggA Try.prog 104 = some false := by kernel_rfl
theorem ag106 : isAggA Try.prog 106 = some false := by kernel_rfl
theorem own1_22 {H0 H : AH} {v : Value} {ps : List (Int × Int)} (h : MineP 65 H0 H v ps) (hp : H0 <+: H) (hb : ps.length ≤ 1099511627775) (a b : Int) : ∃ v' H', appendA Try.prog 22 22 v (.slice (some ⟨H.length, 0, none⟩) 1 1) (H ++ [.cells [.int .i64 a, .int .i64 b] 65 false]) = some (v', H') ∧ MineP 65 H0 H' v' (ps ++ [(a, b)]) ∧ H0 <+: H' ∧ Kept v H H' ∧ H.length ≤ rowO v' ∧ isTup v' = false := MineP.app1 Try.underlying22 cs65 (by rw [by65]; decide) zk65 h hp hb a b
theorem mks22 {n : Int} (h0 : 0 ≤ n) (h1 : n ≤ 1099511627776) (H : AH) : makeSliceA Try.prog 22 (.int .i64 n) (.int .i64 n) H = some (.slice (some ⟨H.length, 0, none⟩) n.toNat n.toNat, H ++ [.cells (ints (flat (List.replicate n.toNat (0, 0)))) 65 false]) := mk_prs Try.underlying22 cs65 (by rw [by65]; decide) ze65 h0 h1 H
theorem mks25 {n : Int} (h0 : 0 ≤ n) (h1 : n ≤ 1099511627776) (H : AH) : makeSliceA Try.prog 25 (.int .i64 n) (.int .i64 n) H = some (.slice (some ⟨H.length, 0, none⟩) n.toNat n.toNat, H ++ [.cells (ints (List.replicate n.toNat 0)) 3 false]) := mk_ints Try.underlying25 cs3 (by rw [by3]; decide) ze3 h0 h1 H
theorem own1_25 {H0 H : AH} {v : Value} {ys : List Int} (h : Own 3 H0 H v ys) (hp : H0 <+: H) (hb : ys.length ≤ 1099511627775) (x : Int) : ∃ v' H', appendA Try.prog 25 25 v (.slice (some ⟨H.length, 0, none⟩) 1 1) (H ++ [.cells [.int .i64 x] 3 false]) = some (v', H') ∧ Own 3 H0 H' v' (ys ++ [x]) ∧ H0 <+: H' ∧ Kept v H H' ∧ H.length ≤ rowO v' ∧ isTup v' = false := Own.app1 Try.underlying25 cs3 (by rw [by3]; decide) zk3 h hp hb x
theorem ixa65 (p : Addr) (k : IntKind) {i : Int} (h0 : 0 ≤ i) (h1 : i < 2) : indexAddrA Try.prog 65 (.pointer (some p)) (.int k i) = some (.pointer (some ⟨p.block, p.off + i.toNat, none⟩)) := ix_arr Try.underlying65 cs3 p k h0 h1
theorem own1_70 {H0 H : AH} {v : Value} {ys : List Int} (h : Own 3 H0 H v ys) (hp : H0 <+: H) (hb : ys.length ≤ 1099511627775) (x : Int) : ∃ v' H', appendA Try.prog 70 70 v (.slice (some ⟨H.length, 0, none⟩) 1 1) (H ++ [.cells [.int .i64 x] 3 false]) = some (v', H') ∧ Own 3 H0 H' v' (ys ++ [x]) ∧ H0 <+: H' ∧ Kept v H H' ∧ H.length ≤ rowO v' ∧ isTup v' = false := Own.app1 Try.underlying70 cs3 (by rw [by3]; decide) zk3 h hp hb x
theorem ST : (∀ p H, loadA Try.prog 3 (.pointer (some p)) H = cellA H p.block p.off) ∧
    (∀ p H, loadA Try.prog 4 (.pointer (some p)) H = cellA H p.block p.off) ∧
    (∀ a b, binA Try.prog .eql 4 (.bool a) (.bool b) = some (.bool (decide (a = b)))) ∧
    (∀ a b, binA Try.prog .neq 4 (.bool a) (.bool b) = some (.bool (decide (a ≠ b)))) ∧
    (∀ p H, loadA Try.prog 5 (.pointer (some p)) H = cellA H p.block p.off) ∧
    (∀ p H, loadA Try.prog 9 (.pointer (some p)) H = cellA H p.block p.off) ∧
    (∀ p H, loadA Try.prog 22 (.pointer (some p)) H = cellA H p.block p.off) ∧
    (∀ H, buildSliceA Try.prog 22 0 [] H = some (.slice (some ⟨H.length, 0, none⟩) 0 0, H ++ [.cells [] 65 false])) ∧
    (∀ H a b, buildSliceA Try.prog 22 1 [(0, .agg (List.toArray [a, b]))] H = some (.slice (some ⟨H.length, 0, none⟩) 1 1, H ++ [.cells [a, b] 65 false])) ∧
    (∀ (p : Addr) (n c : Nat) (k : IntKind) {i : Int}, 0 ≤ i → i < (n : Int) → indexAddrA Try.prog 22 (.slice (some p) n c) (.int k i) = some (.pointer (some ⟨p.block, p.off + 2 * i.toNat, none⟩))) ∧
    (∀ a n c m d, binA Try.prog .eql 22 (.slice a n c) (.slice none m d) = some (.bool (a.isNone))) ∧
    (∀ a n c m d, binA Try.prog .neq 22 (.slice a n c) (.slice none m d) = some (.bool (!a.isNone))) ∧
    (∀ x H, lenS Try.prog 22 x H = lenA Try.prog 22 x) ∧
    (∀ p n c, lenA Try.prog 22 (.slice p n c) = some (.int .i64 n)) ∧
    (∀ (p : Addr), fieldAddrA Try.prog 24 (.pointer (some p)) 0 = some (.pointer (some ⟨p.block, p.off, none⟩))) ∧
    (∀ (p : Addr), fieldAddrA Try.prog 24 (.pointer (some p)) 1 = some (.pointer (some ⟨p.block, p.off + 1, none⟩))) ∧
    (∀ p H, loadA Try.prog 25 (.pointer (some p)) H = cellA H p.block p.off) ∧
    (∀ (p : Addr) (n c : Nat) (k : IntKind) {i : Int}, 0 ≤ i → i < (n : Int) → indexAddrA Try.prog 25 (.slice (some p) n c) (.int k i) = some (.pointer (some ⟨p.block, p.off + i.toNat, none⟩))) ∧
    (∀ H, buildSliceA Try.prog 25 0 [] H = some (.slice (some ⟨H.length, 0, none⟩) 0 0, H ++ [.cells [] 3 false])) ∧
    (∀ H k0 x0, buildSliceA Try.prog 25 1 [(0, (.int k0 x0))] H = some (.slice (some ⟨H.length, 0, none⟩) 1 1, H ++ [.cells [(.int k0 x0)] 3 false])) ∧
    (∀ H k0 x0 k1 x1, buildSliceA Try.prog 25 2 [(0, (.int k0 x0)), (1, (.int k1 x1))] H = some (.slice (some ⟨H.length, 0, none⟩) 2 2, H ++ [.cells [(.int k0 x0), (.int k1 x1)] 3 false])) ∧
    (∀ H k0 x0 k1 x1 k2 x2, buildSliceA Try.prog 25 3 [(0, (.int k0 x0)), (1, (.int k1 x1)), (2, (.int k2 x2))] H = some (.slice (some ⟨H.length, 0, none⟩) 3 3, H ++ [.cells [(.int k0 x0), (.int k1 x1), (.int k2 x2)] 3 false])) ∧
    (∀ a n c m d, binA Try.prog .eql 25 (.slice a n c) (.slice none m d) = some (.bool (a.isNone))) ∧
    (∀ a n c m d, binA Try.prog .neq 25 (.slice a n c) (.slice none m d) = some (.bool (!a.isNone))) ∧
    (∀ x H, lenS Try.prog 25 x H = lenA Try.prog 25 x) ∧
    (∀ p n c, lenA Try.prog 25 (.slice p n c) = some (.int .i64 n)) ∧
    (∀ p H, loadA Try.prog 27 (.pointer (some p)) H = cellA H p.block p.off) ∧
    (∀ (p : Addr) (n c : Nat) (k : IntKind) {i : Int}, 0 ≤ i → i < (n : Int) → indexAddrA Try.prog 27 (.slice (some p) n c) (.int k i) = some (.pointer (some ⟨p.block, p.off + i.toNat, none⟩))) ∧
    (∀ H, buildSliceA Try.prog 27 0 [] H = some (.slice (some ⟨H.length, 0, none⟩) 0 0, H ++ [.cells [] 25 false])) ∧
    (∀ H p0 n0 c0, buildSliceA Try.prog 27 1 [(0, (.slice p0 n0 c0))] H = some (.slice (some ⟨H.length, 0, none⟩) 1 1, H ++ [.cells [(.slice p0 n0 c0)] 25 false])) ∧
    (∀ H p0 n0 c0 p1 n1 c1, buildSliceA Try.prog 27 2 [(0, (.slice p0 n0 c0)), (1, (.slice p1 n1 c1))] H = some (.slice (some ⟨H.length, 0, none⟩) 2 2, H ++ [.cells [(.slice p0 n0 c0), (.slice p1 n1 c1)] 25 false])) ∧
    (∀ H p0 n0 c0 p1 n1 c1 p2 n2 c2, buildSliceA Try.prog 27 3 [(0, (.slice p0 n0 c0)), (1, (.slice p1 n1 c1)), (2, (.slice p2 n2 c2))] H = some (.slice (some ⟨H.length, 0, none⟩) 3 3, H ++ [.cells [(.slice p0 n0 c0), (.slice p1 n1 c1), (.slice p2 n2 c2)] 25 false])) ∧
    (∀ a n c m d, binA Try.prog .eql 27 (.slice a n c) (.slice none m d) = some (.bool (a.isNone))) ∧
    (∀ a n c m d, binA Try.prog .neq 27 (.slice a n c) (.slice none m d) = some (.bool (!a.isNone))) ∧
    (∀ x H, lenS Try.prog 27 x H = lenA Try.prog 27 x) ∧
    (∀ p n c, lenA Try.prog 27 (.slice p n c) = some (.int .i64 n)) ∧
    (∀ (p : Addr), fieldAddrA Try.prog 29 (.pointer (some p)) 0 = some (.pointer (some ⟨p.block, p.off, none⟩))) ∧
    (∀ (p : Addr), fieldAddrA Try.prog 29 (.pointer (some p)) 1 = some (.pointer (some ⟨p.block, p.off + 1, none⟩))) ∧
    (∀ (p : Addr), fieldAddrA Try.prog 32 (.pointer (some p)) 0 = some (.pointer (some ⟨p.block, p.off, none⟩))) ∧
    (∀ (p : Addr), fieldAddrA Try.prog 32 (.pointer (some p)) 1 = some (.pointer (some ⟨p.block, p.off + 1, none⟩))) ∧
    (∀ p H, loadA Try.prog 33 (.pointer (some p)) H = cellA H p.block p.off) ∧
    (∀ p H, loadA Try.prog 47 (.pointer (some p)) H = cellA H p.block p.off) ∧
    (∀ p H, loadA Try.prog 54 (.pointer (some p)) H = cellA H p.block p.off) ∧
    (∀ p H, loadA Try.prog 64 (.pointer (some p)) H = cellA H p.block p.off) ∧
    (∀ (p : Addr) (k : IntKind), indexAddrA Try.prog 65 (.pointer (some p)) (.int k 0) = some (.pointer (some ⟨p.block, p.off, none⟩))) ∧
    (∀ (p : Addr) (k : IntKind), indexAddrA Try.prog 65 (.pointer (some p)) (.int k 1) = some (.pointer (some ⟨p.block, p.off + 1, none⟩))) ∧
    (∀ p H, loadA Try.prog 70 (.pointer (some p)) H = cellA H p.block p.off) ∧
    (∀ (p : Addr) (n c : Nat) (k : IntKind) {i : Int}, 0 ≤ i → i < (n : Int) → indexAddrA Try.prog 70 (.slice (some p) n c) (.int k i) = some (.pointer (some ⟨p.block, p.off + i.toNat, none⟩))) ∧
    (∀ H, buildSliceA Try.prog 70 0 [] H = some (.slice (some ⟨H.length, 0, none⟩) 0 0, H ++ [.cells [] 3 false])) ∧
    (∀ H k0 x0, buildSliceA Try.prog 70 1 [(0, (.int k0 x0))] H = some (.slice (some ⟨H.length, 0, none⟩) 1 1, H ++ [.cells [(.int k0 x0)] 3 false])) ∧
    (∀ H k0 x0 k1 x1, buildSliceA Try.prog 70 2 [(0, (.int k0 x0)), (1, (.int k1 x1))] H = some (.slice (some ⟨H.length, 0, none⟩) 2 2, H ++ [.cells [(.int k0 x0), (.int k1 x1)] 3 false])) ∧
    (∀ H k0 x0 k1 x1 k2 x2, buildSliceA Try.prog 70 3 [(0, (.int k0 x0)), (1, (.int k1 x1)), (2, (.int k2 x2))] H = some (.slice (some ⟨H.length, 0, none⟩) 3 3, H ++ [.cells [(.int k0 x0), (.int k1 x1), (.int k2 x2)] 3 false])) ∧
    (∀ a n c m d, binA Try.prog .eql 70 (.slice a n c) (.slice none m d) = some (.bool (a.isNone))) ∧
    (∀ a n c m d, binA Try.prog .neq 70 (.slice a n c) (.slice none m d) = some (.bool (!a.isNone))) ∧
    (∀ x H, lenS Try.prog 70 x H = lenA Try.prog 70 x) ∧
    (∀ p n c, lenA Try.prog 70 (.slice p n c) = some (.int .i64 n)) ∧
    (∀ p H, loadA Try.prog 71 (.pointer (some p)) H = cellA H p.block p.off) ∧
    (∀ p H, loadA Try.prog 73 (.pointer (some p)) H = cellA H p.block p.off) ∧
    (∀ p H, loadA Try.prog 76 (.pointer (some p)) H = cellA H p.block p.off) ∧
    (∀ p H, loadA Try.prog 77 (.pointer (some p)) H = cellA H p.block p.off) ∧
    (∀ p H, loadA Try.prog 83 (.pointer (some p)) H = cellA H p.block p.off) ∧
    (∀ p H, loadA Try.prog 91 (.pointer (some p)) H = cellA H p.block p.off) ∧
    (∀ p H, loadA Try.prog 104 (.pointer (some p)) H = cellA H p.block p.off) ∧
    (∀ p H, loadA Try.prog 106 (.pointer (some p)) H = cellA H p.block p.off) ∧
    (∀ k n, convA Try.prog 3 5 (.int k n) = some (.int .u8 (IntKind.u8.wrap n))) ∧
    (∀ k n, convA Try.prog 3 76 (.int k n) = some (.int .u64 (IntKind.u64.wrap n))) ∧
    (∀ k n, convA Try.prog 3 77 (.int k n) = some (.int .u64 (IntKind.u64.wrap n))) ∧
    (∀ k n, convA Try.prog 3 104 (.int k n) = some (.int .u32 (IntKind.u32.wrap n))) ∧
    (∀ k n, convA Try.prog 3 106 (.int k n) = some (.int .u64 (IntKind.u64.wrap n))) ∧
    (∀ k n, convA Try.prog 5 3 (.int k n) = some (.int .i64 (IntKind.i64.wrap n))) ∧
    (∀ k n, convA Try.prog 5 76 (.int k n) = some (.int .u64 (IntKind.u64.wrap n))) ∧
    (∀ k n, convA Try.prog 5 77 (.int k n) = some (.int .u64 (IntKind.u64.wrap n))) ∧
    (∀ k n, convA Try.prog 5 104 (.int k n) = some (.int .u32 (IntKind.u32.wrap n))) ∧
    (∀ k n, convA Try.prog 5 106 (.int k n) = some (.int .u64 (IntKind.u64.wrap n))) ∧
    (∀ k n, convA Try.prog 76 3 (.int k n) = some (.int .i64 (IntKind.i64.wrap n))) ∧
    (∀ k n, convA Try.prog 76 5 (.int k n) = some (.int .u8 (IntKind.u8.wrap n))) ∧
    (∀ k n, convA Try.prog 76 77 (.int k n) = some (.int .u64 (IntKind.u64.wrap n))) ∧
    (∀ k n, convA Try.prog 76 104 (.int k n) = some (.int .u32 (IntKind.u32.wrap n))) ∧
    (∀ k n, convA Try.prog 76 106 (.int k n) = some (.int .u64 (IntKind.u64.wrap n))) ∧
    (∀ k n, convA Try.prog 77 3 (.int k n) = some (.int .i64 (IntKind.i64.wrap n))) ∧
    (∀ k n, convA Try.prog 77 5 (.int k n) = some (.int .u8 (IntKind.u8.wrap n))) ∧
    (∀ k n, convA Try.prog 77 76 (.int k n) = some (.int .u64 (IntKind.u64.wrap n))) ∧
    (∀ k n, convA Try.prog 77 104 (.int k n) = some (.int .u32 (IntKind.u32.wrap n))) ∧
    (∀ k n, convA Try.prog 77 106 (.int k n) = some (.int .u64 (IntKind.u64.wrap n))) ∧
    (∀ k n, convA Try.prog 104 3 (.int k n) = some (.int .i64 (IntKind.i64.wrap n))) ∧
    (∀ k n, convA Try.prog 104 5 (.int k n) = some (.int .u8 (IntKind.u8.wrap n))) ∧
    (∀ k n, convA Try.prog 104 76 (.int k n) = some (.int .u64 (IntKind.u64.wrap n))) ∧
    (∀ k n, convA Try.prog 104 77 (.int k n) = some (.int .u64 (IntKind.u64.wrap n))) ∧
    (∀ k n, convA Try.prog 104 106 (.int k n) = some (.int .u64 (IntKind.u64.wrap n))) ∧
    (∀ k n, convA Try.prog 106 3 (.int k n) = some (.int .i64 (IntKind.i64.wrap n))) ∧
    (∀ k n, convA Try.prog 106 5 (.int k n) = some (.int .u8 (IntKind.u8.wrap n))) ∧
    (∀ k n, convA Try.prog 106 76 (.int k n) = some (.int .u64 (IntKind.u64.wrap n))) ∧
    (∀ k n, convA Try.prog 106 77 (.int k n) = some (.int .u64 (IntKind.u64.wrap n))) ∧
    (∀ k n, convA Try.prog 106 104 (.int k n) = some (.int .u32 (IntKind.u32.wrap n))) :=
  ⟨ld_one ag3,
   ld_one ag4,
   eq_bool_eql Try.underlying4,
   eq_bool_neq Try.underlying4,
   ld_one ag5,
   ld_one ag9,
   ld_one ag22,
   bsP0 Try.underlying22 cs65 ze65 ⟨by kernel_rfl, by kernel_rfl⟩,
   bsP1 Try.underlying22 cs65 ze65,
   ix_two Try.underlying22 cs65,
   eq_nil_eql Try.underlying22,
   eq_nil_neq Try.underlying22,
   lenS_sl (by decide),
   ln_sl Try.underlying22,
   fun p => by kernel_rfl,
   fun p => by kernel_rfl,
   ld_one ag25,
   ix_one Try.underlying25 cs3,
   bs0 Try.underlying25 cs3 ze3 ⟨by kernel_rfl, by kernel_rfl⟩,
   fun H _ _ => bs1 Try.underlying25 cs3 ze3 ⟨by kernel_rfl, by kernel_rfl⟩ H rfl,
   fun H _ _ _ _ => bs2 Try.underlying25 cs3 ze3 ⟨by kernel_rfl, by kernel_rfl⟩ H rfl rfl,
   fun H _ _ _ _ _ _ => bs3 Try.underlying25 cs3 ze3 ⟨by kernel_rfl, by kernel_rfl⟩ H rfl rfl rfl,
   eq_nil_eql Try.underlying25,
   eq_nil_neq Try.underlying25,
   lenS_sl (by decide),
   ln_sl Try.underlying25,
   ld_one ag27,
   ix_one Try.underlying27 cs25,
   bs0 Try.underlying27 cs25 ze25 ⟨by kernel_rfl, by kernel_rfl⟩,
   fun H _ _ _ => bs1 Try.underlying27 cs25 ze25 ⟨by kernel_rfl, by kernel_rfl⟩ H rfl,
   fun H _ _ _ _ _ _ => bs2 Try.underlying27 cs25 ze25 ⟨by kernel_rfl, by kernel_rfl⟩ H rfl rfl,
   fun H _ _ _ _ _ _ _ _ _ => bs3 Try.underlying27 cs25 ze25 ⟨by kernel_rfl, by kernel_rfl⟩ H rfl rfl rfl,
   eq_nil_eql Try.underlying27,
   eq_nil_neq Try.underlying27,
   lenS_sl (by decide),
   ln_sl Try.underlying27,
   fun p => by kernel_rfl,
   fun p => by kernel_rfl,
   fun p => by kernel_rfl,
   fun p => by kernel_rfl,
   ld_one ag33,
   ld_one ag47,
   ld_one ag54,
   ld_one ag64,
   fun p k => ix_arr Try.underlying65 cs3 p k (by decide) (by decide),
   fun p k => ix_arr Try.underlying65 cs3 p k (by decide) (by decide),
   ld_one ag70,
   ix_one Try.underlying70 cs3,
   bs0 Try.underlying70 cs3 ze3 ⟨by kernel_rfl, by kernel_rfl⟩,
   fun H _ _ => bs1 Try.underlying70 cs3 ze3 ⟨by kernel_rfl, by kernel_rfl⟩ H rfl,
   fun H _ _ _ _ => bs2 Try.underlying70 cs3 ze3 ⟨by kernel_rfl, by kernel_rfl⟩ H rfl rfl,
   fun H _ _ _ _ _ _ => bs3 Try.underlying70 cs3 ze3 ⟨by kernel_rfl, by kernel_rfl⟩ H rfl rfl rfl,
   eq_nil_eql Try.underlying70,
   eq_nil_neq Try.underlying70,
   lenS_sl (by decide),
   ln_sl Try.underlying70,
   ld_one ag71,
   ld_one ag73,
   ld_one ag76,
   ld_one ag77,
   ld_one ag83,
   ld_one ag91,
   ld_one ag104,
   ld_one ag106,
   fun _ _ => by simp only [convA, Try.underlying3, Try.underlying5],
   fun _ _ => by simp only [convA, Try.underlying3, Try.underlying76],
   fun _ _ => by simp only [convA, Try.underlying3, Try.underlying77],
   fun _ _ => by simp only [convA, Try.underlying3, Try.underlying104],
   fun _ _ => by simp only [convA, Try.underlying3, Try.underlying106],
   fun _ _ => by simp only [convA, Try.underlying5, Try.underlying3],
   fun _ _ => by simp only [convA, Try.underlying5, Try.underlying76],
   fun _ _ => by simp only [convA, Try.underlying5, Try.underlying77],
   fun _ _ => by simp only [convA, Try.underlying5, Try.underlying104],
   fun _ _ => by simp only [convA, Try.underlying5, Try.underlying106],
   fun _ _ => by simp only [convA, Try.underlying76, Try.underlying3],
   fun _ _ => by simp only [convA, Try.underlying76, Try.underlying5],
   fun _ _ => by simp only [convA, Try.underlying76, Try.underlying77],
   fun _ _ => by simp only [convA, Try.underlying76, Try.underlying104],
   fun _ _ => by simp only [convA, Try.underlying76, Try.underlying106],
   fun _ _ => by simp only [convA, Try.underlying77, Try.underlying3],
   fun _ _ => by simp only [convA, Try.underlying77, Try.underlying5],
   fun _ _ => by simp only [convA, Try.underlying77, Try.underlying76],
   fun _ _ => by simp only [convA, Try.underlying77, Try.underlying104],
   fun _ _ => by simp only [convA, Try.underlying77, Try.underlying106],
   fun _ _ => by simp only [convA, Try.underlying104, Try.underlying3],
   fun _ _ => by simp only [convA, Try.underlying104, Try.underlying5],
   fun _ _ => by simp only [convA, Try.underlying104, Try.underlying76],
   fun _ _ => by simp only [convA, Try.underlying104, Try.underlying77],
   fun _ _ => by simp only [convA, Try.underlying104, Try.underlying106],
   fun _ _ => by simp only [convA, Try.underlying106, Try.underlying3],
   fun _ _ => by simp only [convA, Try.underlying106, Try.underlying5],
   fun _ _ => by simp only [convA, Try.underlying106, Try.underlying76],
   fun _ _ => by simp only [convA, Try.underlying106, Try.underlying77],
   fun _ _ => by simp only [convA, Try.underlying106, Try.underlying104]⟩
end Go.Proofs.Ytlcipphiflcaiaa.Ai
namespace Go.Proofs.Ytlcipphiflcaiaa.Ai
open Go Go.RowKit
set_option linter.unusedVariables false
set_option linter.unusedSimpArgs false
theorem alloc_a2 (H : AH) : allocA Try.prog 65 H = some (.pointer (some ⟨H.length, 0, none⟩), H ++ [.cells [.int .i64 0, .int .i64 0] 65 false]) := by kernel_rfl
theorem build_a2 (a b : Int) : buildA Try.prog 65 [(0, .int .i64 a), (1, .int .i64 b)] = some (.agg (List.toArray [.int .i64 a, .int .i64 b])) := by kernel_rfl
theorem store_a2 (H : AH) (vs : List Value) (hv : vs.length = 2) (a b : Value) : storeA Try.prog 65 (.pointer (some ⟨H.length, 0, none⟩)) (.agg (List.toArray [a, b])) (H ++ [.cells vs 65 false]) = some (H ++ [.cells [a, b] 65 false]) :=
  st_new rfl (by rw [cs65]; rfl) (by rw [cs65]; decide) (by rw [cs65]; exact hv)
theorem end_cell (P : Program) (a : Nat) (t : TypeId) (R : Value → AH → Prop) (s : Sl) (H : AH) (v : Value) (h : loadA P t (s a) H = some v) (ht : isTup v = false) (hr : R v H) : endA P [.cell a t] R .ret s H := by
  simp only [endA, resA, h, ht]
  simp [outA]
  exact hr
theorem box_a2 (H : AH) (x y : Value) : boxA Try.prog 65 (.agg (List.toArray [x, y])) H = some (.pointer (some ⟨H.length, 0, none⟩), H ++ [.cells [x, y] 65 false]) := by kernel_rfl
theorem st_a2 {H : AH} {o : Nat} {vs : List Value} {e : TypeId} (ho : H[o]? = some (.cells vs e false)) (hv : vs.length = 2) (a b : Value) : storeA Try.prog 65 (.pointer (some ⟨o, 0, none⟩)) (.agg (List.toArray [a, b])) H = some (H.set o (.cells [a, b] e false)) := by
  simp only [storeA, ho, cs65]
  have hcl : (Value.agg (List.toArray [a, b])).cells.toList = [a, b] := rfl
  rw [hcl, if_pos ⟨rfl, rfl, by decide, by rw [hv]; exact Nat.le_refl 2⟩]
  have : putAt vs 0 [a, b] = [a, b] := by
    unfold putAt
    rw [List.take_zero, List.nil_append, List.drop_of_length_le (by simp; omega), List.append_nil]
  rw [this]
theorem ld_a2 {H : AH} {o : Nat} {a b : Value} {e : TypeId} {ro : Bool} (ho : H[o]? = some (.cells [a, b] e ro)) : loadA Try.prog 65 (.pointer (some ⟨o, 0, none⟩)) H = some (.agg (List.toArray [a, b])) :=
  ld_two ag65 cs65 (by rw [cell_of ho]; rfl) (by rw [cell_of ho]; rfl)
end Go.Proofs.Ytlcipphiflcaiaa.Ai
namespace Go.Proofs.Ytlcipphiflcaiaa.Ai
open Go
def ords16 : List (Nat × List (Nat × Bool)) := []
def cd16 : Cd := (.seq (.reg [⟨⟨some 4, Op.assign (Operand.const (Value.int IntKind.i64 0)), none⟩, []⟩]) (.seq (.reg [⟨⟨some 5, Op.move (Operand.tmp 1), none⟩, []⟩,
  ⟨⟨some 6, Op.move (Operand.tmp 0), none⟩, []⟩,
  ⟨⟨some 7, Op.call { callee := (Callee.builtin Builtin.len), args := #[(Operand.tmp 6)], argTypes := #[22] }, none⟩, []⟩,
  ⟨⟨some 8, Op.binOp BinOp.sub 3 (Operand.tmp 5) (Operand.tmp 7) 3, none⟩, []⟩,
  ⟨⟨some 1, Op.assign (Operand.tmp 8), none⟩, []⟩]) (.seq (.seq (.reg [⟨⟨some 9, Op.move (Operand.tmp 1), none⟩, []⟩,
  ⟨⟨some 10, Op.binOp BinOp.lss 3 (Operand.tmp 9) (Operand.const (Value.int IntKind.i64 0)) 3, none⟩, []⟩]) (.cond (Operand.tmp 10) (.seq (.reg [⟨⟨some 4, Op.assign (Operand.const (Value.int IntKind.i64 (-1))), none⟩, []⟩]) .ret) .skip)) (.seq (.reg [⟨⟨some 11, Op.move (Operand.tmp 1), none⟩, []⟩,
  ⟨⟨some 4, Op.assign (Operand.tmp 11), none⟩, []⟩]) .ret))))
theorem sl16 : slim Try.f16.ntmps ords16 (Try.f16.body.getD .skip) = some cd16 := by kernel_rfl
theorem in16 {args : List Value} {H : AH} {R : Value → AH → Prop} (hl : args.length = 2) (h : ∀ (Q : Exit → Sl → AH → Prop), (∀ e s H, endA Try.prog [ResultVar.tmp 4] R e s H → Q e s H) → wpC Try.prog cd16 Q (enterA args) H) : ACalls Try.prog 16 args H R :=
  ACalls.intro (by kernel_rfl) Try.func16 rfl (by kernel_rfl) sl16 hl (of_decide_eq_true (by kernel_rfl)) (by kernel_rfl) h
def ords44 : List (Nat × List (Nat × Bool)) := []
def cd44 : Cd := (.seq (.reg [⟨⟨some 1, Op.box 65 (Operand.tmp 0), none⟩, []⟩,
  ⟨⟨some 2, Op.alloc 65, none⟩, []⟩]) (.seq (.reg [⟨⟨some 3, Op.alloc 65, none⟩, []⟩]) (.seq (.seq (.reg [⟨⟨some 4, Op.assign (Operand.const (Value.int IntKind.i64 0)), none⟩, []⟩]) (.block 0 (.loop (.seq (.seq (.reg [⟨⟨some 5, Op.move (Operand.tmp 4), none⟩, []⟩,
  ⟨⟨some 6, Op.binOp BinOp.lss 3 (Operand.tmp 5) (Operand.const (Value.int IntKind.i64 2)) 3, none⟩, []⟩]) (.cond (Operand.tmp 6) .skip (.exit 0))) (.seq (.block 1 (.reg [⟨⟨some 9, Op.move (Operand.tmp 4), none⟩, []⟩,
  ⟨⟨some 10, Op.move (Operand.tmp 4), none⟩, []⟩,
  ⟨⟨some 11, Op.indexAddr 65 (Operand.tmp 1) (Operand.tmp 10), none⟩, []⟩,
  ⟨⟨some 12, Op.load 3 (Operand.tmp 11), none⟩, []⟩,
  ⟨⟨some 13, Op.indexAddr 65 (Operand.tmp 3) (Operand.tmp 9), none⟩, []⟩,
  ⟨⟨none, Op.store 3 (Operand.tmp 13) (Operand.tmp 12), none⟩, []⟩])) (.reg [⟨⟨some 7, Op.move (Operand.tmp 4), none⟩, []⟩,
  ⟨⟨some 8, Op.binOp BinOp.add 3 (Operand.tmp 7) (Operand.const (Value.int IntKind.i64 1)) 3, none⟩, []⟩,
  ⟨⟨some 4, Op.assign (Operand.tmp 8), none⟩, []⟩])))))) (.seq (.reg [⟨⟨some 14, Op.load 65 (Operand.tmp 3), none⟩, []⟩,
  ⟨⟨none, Op.store 65 (Operand.tmp 2) (Operand.tmp 14), none⟩, []⟩]) .ret))))
theorem sl44 : slim Try.f44.ntmps ords44 (Try.f44.body.getD .skip) = some cd44 := by kernel_rfl
set_option maxRecDepth 20000 in
theorem in44 {args : List Value} {H : AH} {R : Value → AH → Prop} (hl : args.length = 1) (h : ∀ (Q : Exit → Sl → AH → Prop), (∀ e s H, endA Try.prog [ResultVar.cell 2 65] R e s H → Q e s H) → wpC Try.prog cd44 Q (enterA args) H) : ACalls Try.prog 44 args H R :=
  ACalls.intro (by kernel_rfl) Try.func44 rfl (by kernel_rfl) sl44 hl (of_decide_eq_true (by kernel_rfl)) (by kernel_rfl) h
def ords22 : List (Nat × List (Nat × Bool)) := []
def cd22 : Cd := (.seq (.reg [⟨⟨some 2, Op.assign (Operand.const (Value.slice none 0 0)), none⟩, []⟩]) (.seq (.reg [⟨⟨some 5, Op.move (Operand.tmp 0), none⟩, []⟩,
  ⟨⟨some 6, Op.call { callee := (Callee.builtin Builtin.len), args := #[(Operand.tmp 5)], argTypes := #[22] }, none⟩, []⟩,
  ⟨⟨some 7, Op.makeSlice 22 (Operand.tmp 6) (Operand.tmp 6), none⟩, []⟩,
  ⟨⟨some 3, Op.assign (Operand.tmp 7), none⟩, []⟩]) (.seq (.seq (.reg [⟨⟨some 4, Op.assign (Operand.const (Value.int IntKind.i64 0)), none⟩, []⟩]) (.block 0 (.loop (.seq (.seq (.reg [⟨⟨some 8, Op.move (Operand.tmp 4), none⟩, []⟩,
  ⟨⟨some 9, Op.move (Operand.tmp 0), none⟩, []⟩,
  ⟨⟨some 10, Op.call { callee := (Callee.builtin Builtin.len), args := #[(Operand.tmp 9)], argTypes := #[22] }, none⟩, []⟩,
  ⟨⟨some 11, Op.binOp BinOp.lss 3 (Operand.tmp 8) (Operand.tmp 10) 3, none⟩, []⟩]) (.cond (Operand.tmp 11) .skip (.exit 0))) (.seq (.block 1 (.reg [⟨⟨some 14, Op.move (Operand.tmp 3), none⟩, []⟩,
  ⟨⟨some 15, Op.move (Operand.tmp 4), none⟩, []⟩,
  ⟨⟨some 16, Op.move (Operand.tmp 0), none⟩, []⟩,
  ⟨⟨some 17, Op.move (Operand.tmp 4), none⟩, []⟩,
  ⟨⟨some 18, Op.indexAddr 22 (Operand.tmp 16) (Operand.tmp 17), none⟩, []⟩,
  ⟨⟨some 19, Op.load 65 (Operand.tmp 18), none⟩, []⟩,
  ⟨⟨some 20, Op.call { callee := (Callee.value (Operand.func 44)), args := #[(Operand.tmp 19)], argTypes := #[65] }, none⟩, []⟩,
  ⟨⟨some 21, Op.indexAddr 22 (Operand.tmp 14) (Operand.tmp 15), none⟩, []⟩,
  ⟨⟨none, Op.store 65 (Operand.tmp 21) (Operand.tmp 20), none⟩, []⟩])) (.reg [⟨⟨some 12, Op.move (Operand.tmp 4), none⟩, []⟩,
  ⟨⟨some 13, Op.binOp BinOp.add 3 (Operand.tmp 12) (Operand.const (Value.int IntKind.i64 1)) 3, none⟩, []⟩,
  ⟨⟨some 4, Op.assign (Operand.tmp 13), none⟩, []⟩])))))) (.seq (.reg [⟨⟨some 22, Op.move (Operand.tmp 3), none⟩, []⟩,
  ⟨⟨some 2, Op.assign (Operand.tmp 22), none⟩, []⟩]) .ret))))
theorem sl22 : slim Try.f22.ntmps ords22 (Try.f22.body.getD .skip) = some cd22 := by kernel_rfl
theorem in22 {args : List Value} {H : AH} {R : Value → AH → Prop} (hl : args.length = 1) (h : ∀ (Q : Exit → Sl → AH → Prop), (∀ e s H, endA Try.prog [ResultVar.tmp 2] R e s H → Q e s H) → wpC Try.prog cd22 Q (enterA args) H) : ACalls Try.prog 22 args H R :=
  ACalls.intro (by kernel_rfl) Try.func22 rfl (by kernel_rfl) sl22 hl (of_decide_eq_true (by kernel_rfl)) (by kernel_rfl) h
def ords59 : List (Nat × List (Nat × Bool)) := [(4, [(0, false), (1, false), (2, false), (3, false), (4, false), (5, false), (6, false)])]
def cd59 : Cd := (.seq (.reg [⟨⟨some 2, Op.box 65 (Operand.tmp 0), none⟩, []⟩,
  ⟨⟨some 3, Op.box 65 (Operand.tmp 1), none⟩, []⟩,
  ⟨⟨some 4, Op.assign (Operand.const (Value.bool false)), none⟩, []⟩]) (.seq (.seq (.reg [⟨⟨some 5, Op.assign (Operand.const (Value.int IntKind.i64 0)), none⟩, []⟩]) (.block 0 (.loop (.seq (.seq (.reg [⟨⟨some 6, Op.move (Operand.tmp 5), none⟩, []⟩,
  ⟨⟨some 7, Op.binOp BinOp.lss 3 (Operand.tmp 6) (Operand.const (Value.int IntKind.i64 2)) 3, none⟩, []⟩]) (.cond (Operand.tmp 7) .skip (.exit 0))) (.seq (.block 1 (.seq (.reg [⟨⟨some 10, Op.move (Operand.tmp 5), none⟩, []⟩,
  ⟨⟨some 11, Op.indexAddr 65 (Operand.tmp 2) (Operand.tmp 10), none⟩, []⟩,
  ⟨⟨some 12, Op.load 3 (Operand.tmp 11), none⟩, []⟩,
  ⟨⟨some 13, Op.move (Operand.tmp 5), none⟩, []⟩,
  ⟨⟨some 14, Op.indexAddr 65 (Operand.tmp 3) (Operand.tmp 13), none⟩, []⟩,
  ⟨⟨some 15, Op.load 3 (Operand.tmp 14), none⟩, []⟩,
  ⟨⟨some 16, Op.binOp BinOp.neq 3 (Operand.tmp 12) (Operand.tmp 15) 3, none⟩, []⟩]) (.cond (Operand.tmp 16) (.seq (.reg [⟨⟨some 4, Op.assign (Operand.const (Value.bool false)), none⟩, []⟩]) .ret) .skip))) (.reg [⟨⟨some 8, Op.move (Operand.tmp 5), none⟩, []⟩,
  ⟨⟨some 9, Op.binOp BinOp.add 3 (Operand.tmp 8) (Operand.const (Value.int IntKind.i64 1)) 3, none⟩, []⟩,
  ⟨⟨some 5, Op.assign (Operand.tmp 9), none⟩, []⟩])))))) (.seq (.reg [⟨⟨some 4, Op.assign (Operand.const (Value.bool true)), none⟩, []⟩]) .ret)))
theorem sl59 : slim Try.f59.ntmps ords59 (Try.f59.body.getD .skip) = some cd59 := by kernel_rfl
theorem in59 {args : List Value} {H : AH} {R : Value → AH → Prop} (hl : args.length = 2) (h : ∀ (Q : Exit → Sl → AH → Prop), (∀ e s H, endA Try.prog [ResultVar.tmp 4] R e s H → Q e s H) → wpC Try.prog cd59 Q (enterA args) H) : ACalls Try.prog 59 args H R :=
  ACalls.intro (by kernel_rfl) Try.func59 rfl (by kernel_rfl) sl59 hl (of_decide_eq_true (by kernel_rfl)) (by kernel_rfl) h
def ords32 : List (Nat × List (Nat × Bool)) := [(6, [(0, false), (1, false), (2, false), (3, false), (4, false), (5, false), (6, false), (7, false), (8, true), (9, false)])]
def cd32 : Cd := (.seq (.reg [⟨⟨some 4, Op.assign (Operand.const (Value.bool false)), none⟩, []⟩]) (.seq (.seq (.reg [⟨⟨some 6, Op.move (Operand.tmp 0), none⟩, []⟩,
  ⟨⟨some 7, Op.call { callee := (Callee.builtin Builtin.len), args := #[(Operand.tmp 6)], argTypes := #[22] }, none⟩, []⟩,
  ⟨⟨some 8, Op.move (Operand.tmp 1), none⟩, []⟩,
  ⟨⟨some 9, Op.call { callee := (Callee.builtin Builtin.len), args := #[(Operand.tmp 8)], argTypes := #[22] }, none⟩, []⟩,
  ⟨⟨some 10, Op.binOp BinOp.neq 3 (Operand.tmp 7) (Operand.tmp 9) 3, none⟩, []⟩]) (.cond (Operand.tmp 10) (.seq (.reg [⟨⟨some 4, Op.assign (Operand.const (Value.bool false)), none⟩, []⟩]) .ret) .skip)) (.seq (.seq (.reg [⟨⟨some 5, Op.assign (Operand.const (Value.int IntKind.i64 0)), none⟩, []⟩]) (.block 0 (.loop (.seq (.seq (.reg [⟨⟨some 11, Op.move (Operand.tmp 5), none⟩, []⟩,
  ⟨⟨some 12, Op.move (Operand.tmp 0), none⟩, []⟩,
  ⟨⟨some 13, Op.call { callee := (Callee.builtin Builtin.len), args := #[(Operand.tmp 12)], argTypes := #[22] }, none⟩, []⟩,
  ⟨⟨some 14, Op.binOp BinOp.lss 3 (Operand.tmp 11) (Operand.tmp 13) 3, none⟩, []⟩]) (.cond (Operand.tmp 14) .skip (.exit 0))) (.seq (.block 1 (.seq (.reg [⟨⟨some 17, Op.move (Operand.tmp 0), none⟩, []⟩,
  ⟨⟨some 18, Op.move (Operand.tmp 5), none⟩, []⟩,
  ⟨⟨some 19, Op.indexAddr 22 (Operand.tmp 17) (Operand.tmp 18), none⟩, []⟩,
  ⟨⟨some 20, Op.load 65 (Operand.tmp 19), none⟩, []⟩,
  ⟨⟨some 21, Op.move (Operand.tmp 1), none⟩, []⟩,
  ⟨⟨some 22, Op.move (Operand.tmp 5), none⟩, []⟩,
  ⟨⟨some 23, Op.indexAddr 22 (Operand.tmp 21) (Operand.tmp 22), none⟩, []⟩,
  ⟨⟨some 24, Op.load 65 (Operand.tmp 23), none⟩, []⟩,
  ⟨⟨some 25, Op.call { callee := (Callee.value (Operand.func 59)), args := #[(Operand.tmp 20), (Operand.tmp 24)], argTypes := #[65, 65] }, none⟩, []⟩,
  ⟨⟨some 26, Op.unOp UnOp.not 4 (Operand.tmp 25), none⟩, []⟩]) (.cond (Operand.tmp 26) (.seq (.reg [⟨⟨some 4, Op.assign (Operand.const (Value.bool false)), none⟩, []⟩]) .ret) .skip))) (.reg [⟨⟨some 15, Op.move (Operand.tmp 5), none⟩, []⟩,
  ⟨⟨some 16, Op.binOp BinOp.add 3 (Operand.tmp 15) (Operand.const (Value.int IntKind.i64 1)) 3, none⟩, []⟩,
  ⟨⟨some 5, Op.assign (Operand.tmp 16), none⟩, []⟩])))))) (.seq (.reg [⟨⟨some 4, Op.assign (Operand.const (Value.bool true)), none⟩, []⟩]) .ret))))
theorem sl32 : slim Try.f32.ntmps ords32 (Try.f32.body.getD .skip) = some cd32 := by kernel_rfl
theorem in32 {args : List Value} {H : AH} {R : Value → AH → Prop} (hl : args.length = 2) (h : ∀ (Q : Exit → Sl → AH → Prop), (∀ e s H, endA Try.prog [ResultVar.tmp 4] R e s H → Q e s H) → wpC Try.prog cd32 Q (enterA args) H) : ACalls Try.prog 32 args H R :=
  ACalls.intro (by kernel_rfl) Try.func32 rfl (by kernel_rfl) sl32 hl (of_decide_eq_true (by kernel_rfl)) (by kernel_rfl) h
end Go.Proofs.Ytlcipphiflcaiaa.Ai
namespace Go.Proofs.Ytlcipphiflcaiaa.Ai
open Go Go.RowKit
set_option linter.unusedVariables false
set_option linter.unusedSimpArgs false
theorem szIntA2S_c (v : Value) (ps : List (Int × Int)) (k : Int) (H : AH) (hr : RowP 65 H v ps) (hk : 0 ≤ k ∧ k ≤ 1099511627776) (hl : (ps.length : Int) ≤ 9223372036854775807) :
    ACalls Try.prog 16 [v, .int .i64 k] H fun r H' => r = .int .i64 (if k - ps.length < 0 then -1 else k - ps.length) ∧ H = H' := by
  refine in16 rfl ?_
  intro Q hQ
  simp (maxSteps := 1000000) (disch := omega) only [cd16, hr.len Try.underlying22, wrap64, S, S1, S2, S3, S4, S5, ST, eq_self, reduceIte, reduceCtorEq, Nat.reduceEqDiff, Nat.reduceAdd]
  refine brD.intro (fun g => ?_) (fun g => ?_) <;> simp (maxSteps := 1000000) (disch := omega) only [g, S, S1, S2, S3, S4, S5, ST, eq_self, reduceIte, reduceCtorEq, Nat.reduceEqDiff, Nat.reduceAdd] <;> refine hQ _ _ _ ?_ <;> simp (maxSteps := 1000000) (disch := omega) only [g, S, S1, S2, S3, S4, S5, ST, eq_self, reduceIte, reduceCtorEq, Nat.reduceEqDiff, Nat.reduceAdd]
theorem toIntA2_c (a b : Int) (H : AH) : ACalls Try.prog 44 [.agg (List.toArray [.int .i64 a, .int .i64 b])] H fun r H' => r = .agg (List.toArray [.int .i64 a, .int .i64 b]) ∧ H <+: H' := by
  refine in44 rfl ?_
  intro Q hQ
  simp (maxSteps := 1000000) (disch := omega) only [cd44, box_a2, alloc_a2, S, S1, S2, S3, S4, S5, ST, eq_self, reduceIte, reduceCtorEq, Nat.reduceEqDiff, Nat.reduceAdd]
  generalize hA : H ++ [AObj.cells [.int .i64 a, .int .i64 b] 65 false] = A
  have a0 : A[H.length]? = some (.cells (ints [a, b]) 65 false) := by rw [← hA]; exact at_new ..
  have pA : H <+: A := by rw [← hA]; exact List.prefix_append _ _
  have lA : H.length ≤ A.length := pA.length_le
  generalize hB : A ++ [AObj.cells [.int .i64 0, .int .i64 0] 65 false] = B
  have b0 : B[H.length]? = some (.cells (ints [a, b]) 65 false) := by rw [← hB]; exact at_app a0 _
  have b1 : B[A.length]? = some (.cells [.int .i64 0, .int .i64 0] 65 false) := by rw [← hB]; exact at_new ..
  have pB : H <+: B := by rw [← hB]; exact pre_app pA _
  refine LoopH.by (fun m s H' => ∃ i ys, m + i = 2 ∧ s 1 = .pointer (some ⟨H.length, 0, none⟩) ∧ s 2 = .pointer (some ⟨A.length, 0, none⟩) ∧ s 3 = .pointer (some ⟨B.length, 0, none⟩) ∧ s 4 = .int .i64 ((i : Nat) : Int) ∧ H' = B ++ [.cells (ints ys) 65 false] ∧ ys.length = 2 ∧ ys.take i = [a, b].take i) 2 ?_ ?_
  · exact ⟨0, [0, 0], by simp, rfl, rfl, rfl, rfl, rfl, rfl, rfl⟩
  · rintro m s H' ⟨i, ys, hm, h1, h2, h3, h4, rfl, hl, ht⟩
    have hc0 : (B ++ [AObj.cells (ints ys) 65 false])[H.length]? = some (.cells (ints [a, b]) 65 false) := at_app b0 _
    have hc1 : (B ++ [AObj.cells (ints ys) 65 false])[A.length]? = some (.cells [.int .i64 0, .int .i64 0] 65 false) := at_app b1 _
    have hc := at_new B (.cells (ints ys) 65 false)
    simp (maxSteps := 1000000) (disch := omega) only [h1, h2, h3, h4, S, S1, S2, S3, S4, S5, ST, eq_self, reduceIte, reduceCtorEq, Nat.reduceEqDiff, Nat.reduceAdd]
    refine brD.intro (fun g => ?_) (fun g => ?_)
    · have hi : i < 2 := by omega
      have hi2 : i < [a, b].length := hi
      simp (maxSteps := 1000000) (disch := omega) only [h1, h2, h3, h4, ixa65, Int.toNat_natCast, Nat.zero_add, cell_ints hc0 hi2, st_ints cs3 hc, set_new, wrap64, S, S1, S2, S3, S4, S5, ST, eq_self, reduceIte, reduceCtorEq, Nat.reduceEqDiff, Nat.reduceAdd]
      have e1 : (ys.set i ([a, b].getD i 0)).take (i + 1) = [a, b].take (i + 1) := by
        rw [List.take_add_one, List.take_add_one, List.getElem?_set_self (by omega), List.getElem?_eq_getElem hi2, ← ht]
        congr 1
        · rw [List.take_set, List.set_eq_of_length_le (by simp; omega)]
        · simp [hi]
      refine ⟨m - 1, by omega, i + 1, ys.set i ([a, b].getD i 0), ?_⟩
      (repeat' apply And.intro) <;> first | exact e1 | (simp only [Value.int.injEq, true_and]; omega) | omega | rfl | assumption | (simp; done) | (simp; omega)
    · have hy : ys = [a, b] := by
        have : i = 2 := by omega
        subst this
        rw [List.take_of_length_le (by omega)] at ht
        exact ht
      subst hy
      simp (maxSteps := 1000000) (disch := omega) only [h1, h2, h3, h4, ld_a2 hc, st_a2 hc1 rfl, S, S1, S2, S3, S4, S5, ST, eq_self, reduceIte, reduceCtorEq, Nat.reduceEqDiff, Nat.reduceAdd]
      refine hQ _ _ _ (end_cell _ _ _ _ _ _ (.agg (List.toArray [.int .i64 a, .int .i64 b])) ?_ rfl ⟨rfl, ?_⟩)
      · simp (maxSteps := 1000000) (disch := omega) only [h2, S, S1, S2, S3, S4, S5, ST, eq_self, reduceIte, reduceCtorEq, Nat.reduceEqDiff, Nat.reduceAdd]
        exact ld_a2 (at_set hc1)
      · exact pre_set (pre_app pB _) lA _
set_option maxRecDepth 20000 in
set_option maxHeartbeats 1000000 in
theorem toIntA2S_c (v : Value) (ps : List (Int × Int)) (H : AH) (hr : RowP 65 H v ps) (hlen : ps.length ≤ 1099511627776) : ACalls Try.prog 22 [v] H fun r H' => MineP 65 H H' r ps ∧ H <+: H' := by
  refine in22 rfl ?_
  intro Q hQ
  simp (maxSteps := 1000000) (disch := omega) only [cd22, hr.len Try.underlying22, mks22, Int.toNat_natCast, S, S1, S2, S3, S4, S5, ST, eq_self, reduceIte, reduceCtorEq, Nat.reduceEqDiff, Nat.reduceAdd]
  refine LoopH.by (fun m s H' => ∃ i qs, m + i = ps.length ∧ s 0 = v ∧ s 3 = .slice (some ⟨H.length, 0, none⟩) ps.length ps.length ∧ s 4 = .int .i64 ((i : Nat) : Int) ∧ H <+: H' ∧ H'[H.length]? = some (.cells (ints (flat qs)) 65 false) ∧ qs.length = ps.length ∧ qs.take i = ps.take i) ps.length ?_ ?_
  · exact ⟨0, List.replicate ps.length (0, 0), by simp, rfl, by simp [S, S1, S2, S3, S4, S5, ST, eq_self, reduceIte, reduceCtorEq, Nat.reduceEqDiff, Nat.reduceAdd], by simp [S, S1, S2, S3, S4, S5, ST, eq_self, reduceIte, reduceCtorEq, Nat.reduceEqDiff, Nat.reduceAdd], List.prefix_append _ _, by rw [at_new], by simp, by simp⟩
  · rintro m s H' ⟨i, qs, hm, h0, h3, h4, hp, hc, hl, ht⟩
    have hr' := hr.pre hp
    simp (maxSteps := 1000000) (disch := omega) only [h0, h3, h4, hr'.len Try.underlying22, S, S1, S2, S3, S4, S5, ST, eq_self, reduceIte, reduceCtorEq, Nat.reduceEqDiff, Nat.reduceAdd]
    refine brD.intro (fun g => ?_) (fun g => ?_)
    · have hi : i < ps.length := by omega
      have hi2 : i < qs.length := by omega
      have hg : ps.getD i (0, 0) = ps[i] := by simp [hi]
      have e1 : (qs.set i ((ps.getD i (0, 0)).1, (ps.getD i (0, 0)).2)).take (i + 1) = ps.take (i + 1) := by
        rw [List.take_add_one, List.take_add_one, List.getElem?_set_self hi2, List.getElem?_eq_getElem hi, ← ht]
        congr 1
        · rw [List.take_set, List.set_eq_of_length_le (by simp; omega)]
        · rw [hg]
      simp (maxSteps := 1000000) (disch := omega) only [h0, h3, h4, hr'.ix Try.underlying22 cs65, Int.toNat_natCast, hr'.ld ag65 cs65 hi, S, S1, S2, S3, S4, S5, ST, eq_self, reduceIte, reduceCtorEq, Nat.reduceEqDiff, Nat.reduceAdd]
      refine CallH.by (toIntA2_c (ps.getD i (0, 0)).1 (ps.getD i (0, 0)).2 H') ?_
      rintro _ H2 ⟨rfl, hp2⟩
      have hc2 := pre_at hp2 hc
      simp (maxSteps := 1000000) (disch := omega) only [h0, h3, h4, Int.toNat_natCast, st_prs cs65 hc2 hi2, wrap64, S, S1, S2, S3, S4, S5, ST, eq_self, reduceIte, reduceCtorEq, Nat.reduceEqDiff, Nat.reduceAdd]
      have hpp := pre_set (hp.trans hp2) (Nat.le_refl _) (.cells (ints (flat (qs.set i ((ps.getD i (0, 0)).1, (ps.getD i (0, 0)).2)))) 65 false)
      have hcc := at_set (d := .cells (ints (flat (qs.set i ((ps.getD i (0, 0)).1, (ps.getD i (0, 0)).2)))) 65 false) hc2
      refine ⟨m - 1, by omega, i + 1, qs.set i ((ps.getD i (0, 0)).1, (ps.getD i (0, 0)).2), ?_⟩
      (repeat' first | exact e1 | exact hpp | exact hcc | apply And.intro) <;> first | (simp only [Value.int.injEq, true_and]; omega) | omega | rfl | assumption | (simp; done) | (simp; omega)
    · simp (maxSteps := 1000000) (disch := omega) only [h3, S, S1, S2, S3, S4, S5, ST, eq_self, reduceIte, reduceCtorEq, Nat.reduceEqDiff, Nat.reduceAdd]
      refine hQ _ _ _ ?_
      simp (maxSteps := 1000000) (disch := omega) only [h3, S, S1, S2, S3, S4, S5, ST, eq_self, reduceIte, reduceCtorEq, Nat.reduceEqDiff, Nat.reduceAdd]
      rw [List.take_of_length_le (by omega), List.take_of_length_le (by omega)] at ht
      subst ht
      exact ⟨.inr ⟨H.length, _, rfl, Nat.le_refl _, hc, by rw [List.take_of_length_le (by rw [flat_len]; omega)]⟩, hp⟩
theorem eqIntA2_c (a b c d : Int) (H : AH) : ACalls Try.prog 59 [.agg (List.toArray [.int .i64 a, .int .i64 b]), .agg (List.toArray [.int .i64 c, .int .i64 d])] H fun r H' => r = .bool (decide ((a, b) = (c, d))) ∧ H <+: H' := by
  refine in59 rfl ?_
  intro Q hQ
  simp (maxSteps := 1000000) (disch := omega) only [cd59, box_a2, S, S1, S2, S3, S4, S5, ST, eq_self, reduceIte, reduceCtorEq, Nat.reduceEqDiff, Nat.reduceAdd]
  generalize hA : H ++ [AObj.cells [.int .i64 a, .int .i64 b] 65 false] = A
  have a0 : A[H.length]? = some (.cells (ints [a, b]) 65 false) := by rw [← hA]; exact at_new ..
  have pA : H <+: A := by rw [← hA]; exact List.prefix_append _ _
  generalize hB : A ++ [AObj.cells [.int .i64 c, .int .i64 d] 65 false] = B
  have b0 : B[H.length]? = some (.cells (ints [a, b]) 65 false) := by rw [← hB]; exact at_app a0 _
  have b1 : B[A.length]? = some (.cells (ints [c, d]) 65 false) := by rw [← hB]; exact at_new ..
  have pB : H <+: B := by rw [← hB]; exact pre_app pA _
  refine LoopH.by (fun m s H' => ∃ i, m + i = 2 ∧ s 2 = .pointer (some ⟨H.length, 0, none⟩) ∧ s 3 = .pointer (some ⟨A.length, 0, none⟩) ∧ s 5 = .int .i64 ((i : Nat) : Int) ∧ H' = B ∧ [a, b].take i = [c, d].take i) 2 ?_ ?_
  · exact ⟨0, by simp, rfl, rfl, rfl, rfl, rfl⟩
  · rintro m s H' ⟨i, hm, h2, h3, h5, rfl, ht⟩
    simp (maxSteps := 1000000) (disch := omega) only [h2, h3, h5, S, S1, S2, S3, S4, S5, ST, eq_self, reduceIte, reduceCtorEq, Nat.reduceEqDiff, Nat.reduceAdd]
    refine brD.intro (fun g => ?_) (fun g => ?_)
    · have hi : i < [a, b].length := by show i < 2; omega
      have hi2 : i < [c, d].length := hi
      simp (maxSteps := 1000000) (disch := omega) only [h2, h3, h5, ixa65, Int.toNat_natCast, Nat.zero_add, cell_ints b0 hi, cell_ints b1 hi2, S, S1, S2, S3, S4, S5, ST, eq_self, reduceIte, reduceCtorEq, Nat.reduceEqDiff, Nat.reduceAdd]
      refine brD.intro (fun e => ?_) (fun e => ?_) <;> simp (maxSteps := 1000000) (disch := omega) only [h2, h3, h5, wrap64, S, S1, S2, S3, S4, S5, ST, eq_self, reduceIte, reduceCtorEq, Nat.reduceEqDiff, Nat.reduceAdd]
      · refine hQ _ _ _ ?_
        simp (maxSteps := 1000000) (disch := omega) only [S, S1, S2, S3, S4, S5, ST, eq_self, reduceIte, reduceCtorEq, Nat.reduceEqDiff, Nat.reduceAdd]
        have : (a, b) ≠ (c, d) := by
          intro e'
          injection e' with e1 e2
          subst e1; subst e2
          exact e rfl
        simp [this, pB]
      · have fx : [a, b].take (i + 1) = [c, d].take (i + 1) := by
          rw [List.take_add_one, List.take_add_one, ht, List.getElem?_eq_getElem hi, List.getElem?_eq_getElem hi2]
          have e' := Decidable.not_not.1 e
          have g1 : [a, b].getD i 0 = [a, b][i] := by rw [List.getD_eq_getElem?_getD, List.getElem?_eq_getElem hi]; rfl
          have g2 : [c, d].getD i 0 = [c, d][i] := by rw [List.getD_eq_getElem?_getD, List.getElem?_eq_getElem hi2]; rfl
          rw [g1, g2] at e'
          rw [e']
        refine ⟨m - 1, by omega, i + 1, ?_⟩
        (repeat' first | exact fx | apply And.intro) <;> first | (simp only [Value.int.injEq, true_and]; omega) | omega | rfl | assumption | (simp; done) | (simp; omega)
    · simp (maxSteps := 1000000) (disch := omega) only [S, S1, S2, S3, S4, S5, ST, eq_self, reduceIte, reduceCtorEq, Nat.reduceEqDiff, Nat.reduceAdd]
      refine hQ _ _ _ ?_
      simp (maxSteps := 1000000) (disch := omega) only [S, S1, S2, S3, S4, S5, ST, eq_self, reduceIte, reduceCtorEq, Nat.reduceEqDiff, Nat.reduceAdd]
      have : i = 2 := by omega
      subst this
      simp only [List.take_succ_cons, List.take_zero, List.cons.injEq] at ht
      simp [ht.1, ht.2.1, pB]
set_option maxRecDepth 20000 in
set_option maxHeartbeats 1000000 in
theorem eqIntA2S_c (v w : Value) (ps qs : List (Int × Int)) (H : AH) (hr : RowP 65 H v ps) (hr2 : RowP 65 H w qs) (hlen : ps.length ≤ 1099511627776) : ACalls Try.prog 32 [v, w] H fun r H' => r = .bool (decide (ps = qs)) ∧ H <+: H' := by
  refine in32 rfl ?_
  intro Q hQ
  simp (maxSteps := 1000000) (disch := omega) only [cd32, hr.len Try.underlying22, hr2.len Try.underlying22, S, S1, S2, S3, S4, S5, ST, eq_self, reduceIte, reduceCtorEq, Nat.reduceEqDiff, Nat.reduceAdd]
  refine brD.intro (fun g => ?_) (fun g => ?_) <;> simp (maxSteps := 1000000) (disch := omega) only [hr.len Try.underlying22, S, S1, S2, S3, S4, S5, ST, eq_self, reduceIte, reduceCtorEq, Nat.reduceEqDiff, Nat.reduceAdd]
  · refine hQ _ _ _ ?_
    simp (maxSteps := 1000000) (disch := omega) only [S, S1, S2, S3, S4, S5, ST, eq_self, reduceIte, reduceCtorEq, Nat.reduceEqDiff, Nat.reduceAdd]
    have : ps ≠ qs := fun e => g (by rw [e])
    simp [this, List.prefix_refl]
  · have hl : ps.length = qs.length := by omega
    refine LoopH.by (fun m s H' => ∃ i, m + i = ps.length ∧ s 0 = v ∧ s 1 = w ∧ s 5 = .int .i64 ((i : Nat) : Int) ∧ H <+: H' ∧ ps.take i = qs.take i) ps.length ?_ ?_
    · exact ⟨0, by simp, rfl, rfl, rfl, List.prefix_refl _, by simp⟩
    · rintro m s H' ⟨i, hm, h0, h1, h5, hp, hn⟩
      have hr' := hr.pre hp
      have hr2' := hr2.pre hp
      simp (maxSteps := 1000000) (disch := omega) only [h0, h1, h5, hr'.len Try.underlying22, S, S1, S2, S3, S4, S5, ST, eq_self, reduceIte, reduceCtorEq, Nat.reduceEqDiff, Nat.reduceAdd]
      refine brD.intro (fun g => ?_) (fun g => ?_)
      · have hi : i < ps.length := by omega
        have hi2 : i < qs.length := by omega
        have hg : ps.getD i (0, 0) = ps[i] := by simp [hi]
        have hg2 : qs.getD i (0, 0) = qs[i] := by simp [hi2]
        simp (maxSteps := 1000000) (disch := omega) only [h0, h1, h5, hr'.ix Try.underlying22 cs65, hr2'.ix Try.underlying22 cs65, Int.toNat_natCast, hr'.ld ag65 cs65 hi, hr2'.ld ag65 cs65 hi2, S, S1, S2, S3, S4, S5, ST, eq_self, reduceIte, reduceCtorEq, Nat.reduceEqDiff, Nat.reduceAdd]
        refine CallH.by (eqIntA2_c _ _ _ _ H') ?_
        rintro _ H2 ⟨rfl, hp2⟩
        have hpp := hp.trans hp2
        simp (maxSteps := 1000000) (disch := omega) only [S, S1, S2, S3, S4, S5, ST, eq_self, reduceIte, reduceCtorEq, Nat.reduceEqDiff, Nat.reduceAdd]
        refine brD.intro (fun e => ?_) (fun e => ?_) <;> simp (maxSteps := 1000000) (disch := omega) only [h0, h1, h5, wrap64, S, S1, S2, S3, S4, S5, ST, eq_self, reduceIte, reduceCtorEq, Nat.reduceEqDiff, Nat.reduceAdd]
        · have fx : ps.take (i + 1) = qs.take (i + 1) := by
            rw [List.take_add_one, List.take_add_one, hn, List.getElem?_eq_getElem hi, List.getElem?_eq_getElem hi2]
            rw [hg, hg2] at e
            have e' : ps[i] = qs[i] := e
            rw [e']
          refine ⟨m - 1, by omega, i + 1, ?_⟩
          (repeat' first | exact fx | exact hpp | apply And.intro) <;> first | (simp only [Value.int.injEq, true_and]; omega) | omega | rfl | assumption | (simp; done) | (simp; omega)
        · refine hQ _ _ _ ?_
          simp (maxSteps := 1000000) (disch := omega) only [S, S1, S2, S3, S4, S5, ST, eq_self, reduceIte, reduceCtorEq, Nat.reduceEqDiff, Nat.reduceAdd]
          have : ps ≠ qs := by
            intro e'
            subst e'
            exact e rfl
          simp [this, hpp]
      · simp (maxSteps := 1000000) (disch := omega) only [h0, h1, h5, S, S1, S2, S3, S4, S5, ST, eq_self, reduceIte, reduceCtorEq, Nat.reduceEqDiff, Nat.reduceAdd]
        refine hQ _ _ _ ?_
        simp (maxSteps := 1000000) (disch := omega) only [S, S1, S2, S3, S4, S5, ST, eq_self, reduceIte, reduceCtorEq, Nat.reduceEqDiff, Nat.reduceAdd]
        rw [List.take_of_length_le (by omega), List.take_of_length_le (by omega)] at hn
        simp [hn, hp]
end Go.Proofs.Ytlcipphiflcaiaa.Ai
namespace Go.Proofs.Ytlcipphiflcaiaa.Ai
open Go
def ords7 : List (Nat × List (Nat × Bool)) := []
def cd7 : Cd := (.seq (.reg [⟨⟨some 2, Op.assign (Operand.const (Value.slice none 0 0)), none⟩, []⟩]) (.seq (.reg [⟨⟨some 5, Op.move (Operand.tmp 0), none⟩, []⟩,
  ⟨⟨some 6, Op.call { callee := (Callee.builtin Builtin.len), args := #[(Operand.tmp 5)], argTypes := #[25] }, none⟩, []⟩,
  ⟨⟨some 7, Op.makeSlice 25 (Operand.tmp 6) (Operand.tmp 6), none⟩, []⟩,
  ⟨⟨some 3, Op.assign (Operand.tmp 7), none⟩, []⟩]) (.seq (.seq (.reg [⟨⟨some 4, Op.assign (Operand.const (Value.int IntKind.i64 0)), none⟩, []⟩]) (.block 0 (.loop (.seq (.seq (.reg [⟨⟨some 8, Op.move (Operand.tmp 4), none⟩, []⟩,
  ⟨⟨some 9, Op.move (Operand.tmp 0), none⟩, []⟩,
  ⟨⟨some 10, Op.call { callee := (Callee.builtin Builtin.len), args := #[(Operand.tmp 9)], argTypes := #[25] }, none⟩, []⟩,
  ⟨⟨some 11, Op.binOp BinOp.lss 3 (Operand.tmp 8) (Operand.tmp 10) 3, none⟩, []⟩]) (.cond (Operand.tmp 11) .skip (.exit 0))) (.seq (.block 1 (.reg [⟨⟨some 14, Op.move (Operand.tmp 3), none⟩, []⟩,
  ⟨⟨some 15, Op.move (Operand.tmp 4), none⟩, []⟩,
  ⟨⟨some 16, Op.move (Operand.tmp 0), none⟩, []⟩,
  ⟨⟨some 17, Op.move (Operand.tmp 4), none⟩, []⟩,
  ⟨⟨some 18, Op.indexAddr 25 (Operand.tmp 16) (Operand.tmp 17), none⟩, []⟩,
  ⟨⟨some 19, Op.load 3 (Operand.tmp 18), none⟩, []⟩,
  ⟨⟨some 20, Op.indexAddr 25 (Operand.tmp 14) (Operand.tmp 15), none⟩, []⟩,
  ⟨⟨none, Op.store 3 (Operand.tmp 20) (Operand.tmp 19), none⟩, []⟩])) (.reg [⟨⟨some 12, Op.move (Operand.tmp 4), none⟩, []⟩,
  ⟨⟨some 13, Op.binOp BinOp.add 3 (Operand.tmp 12) (Operand.const (Value.int IntKind.i64 1)) 3, none⟩, []⟩,
  ⟨⟨some 4, Op.assign (Operand.tmp 13), none⟩, []⟩])))))) (.seq (.reg [⟨⟨some 21, Op.move (Operand.tmp 3), none⟩, []⟩,
  ⟨⟨some 2, Op.assign (Operand.tmp 21), none⟩, []⟩]) .ret))))
theorem sl7 : slim Try.f7.ntmps ords7 (Try.f7.body.getD .skip) = some cd7 := by kernel_rfl
theorem in7 {args : List Value} {H : AH} {R : Value → AH → Prop} (hl : args.length = 1) (h : ∀ (Q : Exit → Sl → AH → Prop), (∀ e s H, endA Try.prog [ResultVar.tmp 2] R e s H → Q e s H) → wpC Try.prog cd7 Q (enterA args) H) : ACalls Try.prog 7 args H R :=
  ACalls.intro (by kernel_rfl) Try.func7 rfl (by kernel_rfl) sl7 hl (of_decide_eq_true (by kernel_rfl)) (by kernel_rfl) h
def ords11 : List (Nat × List (Nat × Bool)) := [(6, [(0, false), (1, false), (2, false), (3, false), (4, false), (5, false), (6, false), (7, false), (8, false)])]
def cd11 : Cd := (.seq (.reg [⟨⟨some 4, Op.assign (Operand.const (Value.bool false)), none⟩, []⟩]) (.seq (.seq (.reg [⟨⟨some 6, Op.move (Operand.tmp 0), none⟩, []⟩,
  ⟨⟨some 7, Op.call { callee := (Callee.builtin Builtin.len), args := #[(Operand.tmp 6)], argTypes := #[25] }, none⟩, []⟩,
  ⟨⟨some 8, Op.move (Operand.tmp 1), none⟩, []⟩,
  ⟨⟨some 9, Op.call { callee := (Callee.builtin Builtin.len), args := #[(Operand.tmp 8)], argTypes := #[25] }, none⟩, []⟩,
  ⟨⟨some 10, Op.binOp BinOp.neq 3 (Operand.tmp 7) (Operand.tmp 9) 3, none⟩, []⟩]) (.cond (Operand.tmp 10) (.seq (.reg [⟨⟨some 4, Op.assign (Operand.const (Value.bool false)), none⟩, []⟩]) .ret) .skip)) (.seq (.seq (.reg [⟨⟨some 5, Op.assign (Operand.const (Value.int IntKind.i64 0)), none⟩, []⟩]) (.block 0 (.loop (.seq (.seq (.reg [⟨⟨some 11, Op.move (Operand.tmp 5), none⟩, []⟩,
  ⟨⟨some 12, Op.move (Operand.tmp 0), none⟩, []⟩,
  ⟨⟨some 13, Op.call { callee := (Callee.builtin Builtin.len), args := #[(Operand.tmp 12)], argTypes := #[25] }, none⟩, []⟩,
  ⟨⟨some 14, Op.binOp BinOp.lss 3 (Operand.tmp 11) (Operand.tmp 13) 3, none⟩, []⟩]) (.cond (Operand.tmp 14) .skip (.exit 0))) (.seq (.block 1 (.seq (.reg [⟨⟨some 17, Op.move (Operand.tmp 0), none⟩, []⟩,
  ⟨⟨some 18, Op.move (Operand.tmp 5), none⟩, []⟩,
  ⟨⟨some 19, Op.indexAddr 25 (Operand.tmp 17) (Operand.tmp 18), none⟩, []⟩,
  ⟨⟨some 20, Op.load 3 (Operand.tmp 19), none⟩, []⟩,
  ⟨⟨some 21, Op.move (Operand.tmp 1), none⟩, []⟩,
  ⟨⟨some 22, Op.move (Operand.tmp 5), none⟩, []⟩,
  ⟨⟨some 23, Op.indexAddr 25 (Operand.tmp 21) (Operand.tmp 22), none⟩, []⟩,
  ⟨⟨some 24, Op.load 3 (Operand.tmp 23), none⟩, []⟩,
  ⟨⟨some 25, Op.binOp BinOp.neq 3 (Operand.tmp 20) (Operand.tmp 24) 3, none⟩, []⟩]) (.cond (Operand.tmp 25) (.seq (.reg [⟨⟨some 4, Op.assign (Operand.const (Value.bool false)), none⟩, []⟩]) .ret) .skip))) (.reg [⟨⟨some 15, Op.move (Operand.tmp 5), none⟩, []⟩,
  ⟨⟨some 16, Op.binOp BinOp.add 3 (Operand.tmp 15) (Operand.const (Value.int IntKind.i64 1)) 3, none⟩, []⟩,
  ⟨⟨some 5, Op.assign (Operand.tmp 16), none⟩, []⟩])))))) (.seq (.reg [⟨⟨some 4, Op.assign (Operand.const (Value.bool true)), none⟩, []⟩]) .ret))))
theorem sl11 : slim Try.f11.ntmps ords11 (Try.f11.body.getD .skip) = some cd11 := by kernel_rfl
theorem in11 {args : List Value} {H : AH} {R : Value → AH → Prop} (hl : args.length = 2) (h : ∀ (Q : Exit → Sl → AH → Prop), (∀ e s H, endA Try.prog [ResultVar.tmp 4] R e s H → Q e s H) → wpC Try.prog cd11 Q (enterA args) H) : ACalls Try.prog 11 args H R :=
  ACalls.intro (by kernel_rfl) Try.func11 rfl (by kernel_rfl) sl11 hl (of_decide_eq_true (by kernel_rfl)) (by kernel_rfl) h
end Go.Proofs.Ytlcipphiflcaiaa.Ai
namespace Go.Proofs.Ytlcipphiflcaiaa.Ai
open Go Go.RowKit
set_option linter.unusedVariables false
set_option linter.unusedSimpArgs false
theorem toIntS_c (v : Value) (xs : List Int) (H : AH) (hr : Row 3 H v xs) (hlen : xs.length ≤ 1099511627776) : ACalls Try.prog 7 [v] H fun r H' => Own 3 H H' r xs ∧ H <+: H' := by
  refine in7 rfl ?_
  intro Q hQ
  simp (maxSteps := 1000000) (disch := omega) only [cd7, hr.len Try.underlying25, mks25, S, S1, S2, S3, S4, S5, ST, eq_self, reduceIte, reduceCtorEq, Nat.reduceEqDiff, Nat.reduceAdd]
  refine LoopH.by (fun m s H' => ∃ i, m + i = xs.length ∧ s 0 = v ∧ s 3 = .slice (some ⟨H.length, 0, none⟩) xs.length xs.length ∧ s 4 = .int .i64 ((i : Nat) : Int) ∧ H' = H ++ [.cells (ints (xs.take i ++ List.replicate (xs.length - i) 0)) 3 false]) xs.length ?_ ?_
  · exact ⟨0, by simp, rfl, by simp [S, S1, S2, S3, S4, S5, ST, eq_self, reduceIte, reduceCtorEq, Nat.reduceEqDiff, Nat.reduceAdd], by simp [S, S1, S2, S3, S4, S5, ST, eq_self, reduceIte, reduceCtorEq, Nat.reduceEqDiff, Nat.reduceAdd], by simp⟩
  · rintro m s H' ⟨i, hm, h0, h3, h4, rfl⟩
    generalize hys : xs.take i ++ List.replicate (xs.length - i) 0 = ys
    have hyl : ys.length = xs.length := by rw [← hys]; simp; omega
    have hr' := hr.pre (List.prefix_append H [.cells (ints ys) 3 false])
    have hc := at_new H (.cells (ints ys) 3 false)
    simp (maxSteps := 1000000) (disch := omega) only [h0, h3, h4, hr'.len Try.underlying25, S, S1, S2, S3, S4, S5, ST, eq_self, reduceIte, reduceCtorEq, Nat.reduceEqDiff, Nat.reduceAdd]
    refine brD.intro (fun g => ?_) (fun g => ?_) <;> simp (maxSteps := 1000000) (disch := omega) only [h0, h3, h4, hr'.ix Try.underlying25 cs3, hr'.cell, Int.toNat_natCast, st_ints cs3 hc, set_new, wrap64, S, S1, S2, S3, S4, S5, ST, eq_self, reduceIte, reduceCtorEq, Nat.reduceEqDiff, Nat.reduceAdd]
    · have hi : i < xs.length := by omega
      refine ⟨m - 1, by omega, i + 1, by omega, by simp, ?_⟩
      have : ys.set i (xs.getD i 0) = xs.take (i + 1) ++ List.replicate (xs.length - (i + 1)) 0 := by
        rw [← hys]
        apply List.ext_getElem?
        intro k
        rw [List.getElem?_set]
        by_cases hk : i = k
        · subst hk
          have : i < (xs.take i ++ List.replicate (xs.length - i) (0 : Int)).length := by simp; omega
          rw [if_pos rfl, if_pos this, List.getElem?_append_left (by simp; omega), List.getElem?_take, if_pos (by omega)]
          simp [hi]
        · rw [if_neg hk]
          by_cases hk2 : k < i
          · rw [List.getElem?_append_left (by simp; omega), List.getElem?_append_left (by simp; omega), List.getElem?_take, List.getElem?_take, if_pos hk2, if_pos (by omega)]
          · rw [List.getElem?_append_right (by simp; omega), List.getElem?_append_right (by simp; omega), List.getElem?_replicate, List.getElem?_replicate]
            simp only [List.length_take]
            rw [Nat.min_eq_left (by omega), Nat.min_eq_left (by omega)]
            by_cases hk3 : k < xs.length
            · rw [if_pos (by omega), if_pos (by omega)]
            · rw [if_neg (by omega), if_neg (by omega)]
      rw [this]
    · refine hQ _ _ _ ?_
      simp (maxSteps := 1000000) (disch := omega) only [S, S1, S2, S3, S4, S5, ST, eq_self, reduceIte, reduceCtorEq, Nat.reduceEqDiff, Nat.reduceAdd]
      have : ys = xs := by
        rw [← hys, List.take_of_length_le (by omega), show xs.length - i = 0 from by omega]; simp
      subst this
      exact ⟨.inr ⟨H.length, rfl, Nat.le_refl _, at_new ..⟩, List.prefix_append _ _⟩
theorem eqIntS_c (v w : Value) (xs ys : List Int) (H : AH) (hr : Row 3 H v xs) (hr2 : Row 3 H w ys) (hlen : xs.length ≤ 1099511627776) : ACalls Try.prog 11 [v, w] H fun r H' => r = .bool (decide (xs = ys)) ∧ H = H' := by
  refine in11 rfl ?_
  intro Q hQ
  simp (maxSteps := 1000000) (disch := omega) only [cd11, hr.len Try.underlying25, hr2.len Try.underlying25, S, S1, S2, S3, S4, S5, ST, eq_self, reduceIte, reduceCtorEq, Nat.reduceEqDiff, Nat.reduceAdd]
  refine brD.intro (fun g => ?_) (fun g => ?_) <;> simp (maxSteps := 1000000) (disch := omega) only [hr.len Try.underlying25, S, S1, S2, S3, S4, S5, ST, eq_self, reduceIte, reduceCtorEq, Nat.reduceEqDiff, Nat.reduceAdd]
  · refine hQ _ _ _ ?_
    simp (maxSteps := 1000000) (disch := omega) only [S, S1, S2, S3, S4, S5, ST, eq_self, reduceIte, reduceCtorEq, Nat.reduceEqDiff, Nat.reduceAdd]
    have : xs ≠ ys := fun e => g (by rw [e])
    simp [this]
  · have hl : xs.length = ys.length := by omega
    refine LoopH.by (fun m s H' => ∃ i, m + i = xs.length ∧ s 0 = v ∧ s 1 = w ∧ s 5 = .int .i64 ((i : Nat) : Int) ∧ H = H' ∧ xs.take i = ys.take i) xs.length ?_ ?_
    · exact ⟨0, by simp, rfl, rfl, rfl, rfl, by simp⟩
    · rintro m s H' ⟨i, hm, h0, h1, h5, rfl, hn⟩
      simp (maxSteps := 1000000) (disch := omega) only [h0, h1, h5, hr.len Try.underlying25, S, S1, S2, S3, S4, S5, ST, eq_self, reduceIte, reduceCtorEq, Nat.reduceEqDiff, Nat.reduceAdd]
      refine brD.intro (fun g => ?_) (fun g => ?_) <;> simp (maxSteps := 1000000) (disch := omega) only [h0, h1, h5, hr.ix Try.underlying25 cs3, hr.cell, hr2.ix Try.underlying25 cs3, hr2.cell, Int.toNat_natCast, S, S1, S2, S3, S4, S5, ST, eq_self, reduceIte, reduceCtorEq, Nat.reduceEqDiff, Nat.reduceAdd]
      · have hi : i < xs.length := by omega
        have hg : xs.getD i 0 = xs[i] := by simp [hi]
        have hg2 : ys.getD i 0 = ys[i] := by simp [hl ▸ hi]
        refine brD.intro (fun e => ?_) (fun e => ?_) <;> simp (maxSteps := 1000000) (disch := omega) only [h0, h1, h5, wrap64, S, S1, S2, S3, S4, S5, ST, eq_self, reduceIte, reduceCtorEq, Nat.reduceEqDiff, Nat.reduceAdd]
        · refine hQ _ _ _ ?_
          simp (maxSteps := 1000000) (disch := omega) only [S, S1, S2, S3, S4, S5, ST, eq_self, reduceIte, reduceCtorEq, Nat.reduceEqDiff, Nat.reduceAdd]
          have : xs ≠ ys := by
            intro e'
            subst e'
            exact e rfl
          simp [this]
        · refine ⟨m - 1, by omega, i + 1, by omega, by simp, ?_⟩
          rw [List.take_add_one, List.take_add_one, hn, List.getElem?_eq_getElem hi, List.getElem?_eq_getElem (hl ▸ hi)]
          rw [hg, hg2] at e
          rw [Decidable.not_not.1 e]
      · refine hQ _ _ _ ?_
        simp (maxSteps := 1000000) (disch := omega) only [S, S1, S2, S3, S4, S5, ST, eq_self, reduceIte, reduceCtorEq, Nat.reduceEqDiff, Nat.reduceAdd]
        rw [List.take_of_length_le (by omega), List.take_of_length_le (by omega)] at hn
        simp [hn]
end Go.Proofs.Ytlcipphiflcaiaa.Ai
namespace Go.Proofs.Ytlcipphiflcaiaa.Ai
open Go
def ords13 : List (Nat × List (Nat × Bool)) := []
def cd13 : Cd := (.seq (.reg [⟨⟨some 4, Op.assign (Operand.const (Value.int IntKind.i64 0)), none⟩, []⟩]) (.seq (.seq (.reg [⟨⟨some 5, Op.assign (Operand.const (Value.int IntKind.i64 0)), none⟩, []⟩]) (.block 0 (.loop (.seq (.seq (.reg [⟨⟨some 6, Op.move (Operand.tmp 5), none⟩, []⟩,
  ⟨⟨some 7, Op.move (Operand.tmp 0), none⟩, []⟩,
  ⟨⟨some 8, Op.call { callee := (Callee.builtin Builtin.len), args := #[(Operand.tmp 7)], argTypes := #[25] }, none⟩, []⟩,
  ⟨⟨some 9, Op.binOp BinOp.lss 3 (Operand.tmp 6) (Operand.tmp 8) 3, none⟩, []⟩]) (.cond (Operand.tmp 9) .skip (.exit 0))) (.seq (.block 1 (.seq (.reg [⟨⟨some 12, Op.move (Operand.tmp 0), none⟩, []⟩,
  ⟨⟨some 13, Op.move (Operand.tmp 5), none⟩, []⟩,
  ⟨⟨some 14, Op.move (Operand.tmp 1), none⟩, []⟩,
  ⟨⟨some 15, Op.indexAddr 25 (Operand.tmp 12) (Operand.tmp 13), none⟩, []⟩,
  ⟨⟨none, Op.store 3 (Operand.tmp 15) (Operand.tmp 14), none⟩, []⟩]) (.reg [⟨⟨some 16, Op.move (Operand.tmp 1), none⟩, []⟩,
  ⟨⟨some 17, Op.binOp BinOp.add 3 (Operand.tmp 16) (Operand.const (Value.int IntKind.i64 1)) 3, none⟩, []⟩,
  ⟨⟨some 1, Op.assign (Operand.tmp 17), none⟩, []⟩]))) (.reg [⟨⟨some 10, Op.move (Operand.tmp 5), none⟩, []⟩,
  ⟨⟨some 11, Op.binOp BinOp.add 3 (Operand.tmp 10) (Operand.const (Value.int IntKind.i64 1)) 3, none⟩, []⟩,
  ⟨⟨some 5, Op.assign (Operand.tmp 11), none⟩, []⟩])))))) (.seq (.reg [⟨⟨some 18, Op.move (Operand.tmp 1), none⟩, []⟩,
  ⟨⟨some 4, Op.assign (Operand.tmp 18), none⟩, []⟩]) .ret)))
theorem sl13 : slim Try.f13.ntmps ords13 (Try.f13.body.getD .skip) = some cd13 := by kernel_rfl
theorem in13 {args : List Value} {H : AH} {R : Value → AH → Prop} (hl : args.length = 2) (h : ∀ (Q : Exit → Sl → AH → Prop), (∀ e s H, endA Try.prog [ResultVar.tmp 4] R e s H → Q e s H) → wpC Try.prog cd13 Q (enterA args) H) : ACalls Try.prog 13 args H R :=
  ACalls.intro (by kernel_rfl) Try.func13 rfl (by kernel_rfl) sl13 hl (of_decide_eq_true (by kernel_rfl)) (by kernel_rfl) h
def ords60 : List (Nat × List (Nat × Bool)) := []
def cd60 : Cd := (.seq (.reg [⟨⟨some 4, Op.assign (Operand.const (Value.int IntKind.i64 0)), none⟩, []⟩]) (.seq (.seq (.reg [⟨⟨some 5, Op.assign (Operand.const (Value.int IntKind.i64 0)), none⟩, []⟩]) (.block 0 (.loop (.seq (.seq (.reg [⟨⟨some 6, Op.move (Operand.tmp 5), none⟩, []⟩,
  ⟨⟨some 7, Op.move (Operand.tmp 0), none⟩, []⟩,
  ⟨⟨some 8, Op.call { callee := (Callee.builtin Builtin.len), args := #[(Operand.tmp 7)], argTypes := #[25] }, none⟩, []⟩,
  ⟨⟨some 9, Op.binOp BinOp.lss 3 (Operand.tmp 6) (Operand.tmp 8) 3, none⟩, []⟩]) (.cond (Operand.tmp 9) .skip (.exit 0))) (.seq (.block 1 (.seq (.seq (.reg [⟨⟨some 12, Op.move (Operand.tmp 0), none⟩, []⟩,
  ⟨⟨some 13, Op.move (Operand.tmp 5), none⟩, []⟩,
  ⟨⟨some 14, Op.indexAddr 25 (Operand.tmp 12) (Operand.tmp 13), none⟩, []⟩,
  ⟨⟨some 15, Op.load 3 (Operand.tmp 14), none⟩, []⟩,
  ⟨⟨some 16, Op.move (Operand.tmp 1), none⟩, []⟩,
  ⟨⟨some 17, Op.binOp BinOp.neq 3 (Operand.tmp 15) (Operand.tmp 16) 3, none⟩, []⟩]) (.cond (Operand.tmp 17) (.seq (.reg [⟨⟨some 4, Op.assign (Operand.const (Value.int IntKind.i64 (-1))), none⟩, []⟩]) .ret) .skip)) (.reg [⟨⟨some 18, Op.move (Operand.tmp 1), none⟩, []⟩,
  ⟨⟨some 19, Op.binOp BinOp.add 3 (Operand.tmp 18) (Operand.const (Value.int IntKind.i64 1)) 3, none⟩, []⟩,
  ⟨⟨some 1, Op.assign (Operand.tmp 19), none⟩, []⟩]))) (.reg [⟨⟨some 10, Op.move (Operand.tmp 5), none⟩, []⟩,
  ⟨⟨some 11, Op.binOp BinOp.add 3 (Operand.tmp 10) (Operand.const (Value.int IntKind.i64 1)) 3, none⟩, []⟩,
  ⟨⟨some 5, Op.assign (Operand.tmp 11), none⟩, []⟩])))))) (.seq (.reg [⟨⟨some 20, Op.move (Operand.tmp 1), none⟩, []⟩,
  ⟨⟨some 4, Op.assign (Operand.tmp 20), none⟩, []⟩]) .ret)))
theorem sl60 : slim Try.f60.ntmps ords60 (Try.f60.body.getD .skip) = some cd60 := by kernel_rfl
theorem in60 {args : List Value} {H : AH} {R : Value → AH → Prop} (hl : args.length = 2) (h : ∀ (Q : Exit → Sl → AH → Prop), (∀ e s H, endA Try.prog [ResultVar.tmp 4] R e s H → Q e s H) → wpC Try.prog cd60 Q (enterA args) H) : ACalls Try.prog 60 args H R :=
  ACalls.intro (by kernel_rfl) Try.func60 rfl (by kernel_rfl) sl60 hl (of_decide_eq_true (by kernel_rfl)) (by kernel_rfl) h
end Go.Proofs.Ytlcipphiflcaiaa.Ai
namespace Go.Proofs.Ytlcipphiflcaiaa.Ai
open Go Go.RowKit
set_option linter.unusedVariables false
set_option linter.unusedSimpArgs false
theorem take_set_succ (zs : List Int) (i : Nat) (x : Int) (h : i < zs.length) : (zs.set i x).take (i + 1) = zs.take i ++ [x] := by
  rw [List.take_add_one, List.getElem?_set_self h]
  congr 1
  apply List.ext_getElem?
  intro j
  rw [List.getElem?_take, List.getElem?_take]
  by_cases hj : j < i
  · rw [if_pos hj, if_pos hj, List.getElem?_set_ne (by omega)]
  · rw [if_neg hj, if_neg hj]
set_option maxHeartbeats 1000000 in
theorem markIntS_c (v : Value) (xs : List Int) (k : Int) (H0 H : AH) (hm : Mine 3 H0 H v xs) (hlen : xs.length ≤ 1099511627776) (hk : 0 ≤ k ∧ k ≤ 4611686018427387904) :
    ACalls Try.prog 13 [v, .int .i64 k] H fun r H' => r = .int .i64 (k + xs.length) ∧ Mine 3 H0 H' v (runI k xs.length) ∧ Else v H H' := by
  refine in13 rfl ?_
  intro Q hQ
  simp (maxSteps := 1000000) (disch := omega) only [cd13, S, S1, S2, S3, S4, S5, ST, eq_self, reduceIte, reduceCtorEq, Nat.reduceEqDiff, Nat.reduceAdd]
  rcases hm with ⟨rfl, rfl⟩ | ⟨o, zs, rfl, ho, hc, ht⟩
  · refine LoopH.by (fun m s H' => s 0 = .slice none 0 0 ∧ s 1 = .int .i64 k ∧ s 5 = .int .i64 0 ∧ H = H') 0 ?_ ?_
    · exact ⟨rfl, rfl, rfl, rfl⟩
    · rintro m s H' ⟨h0, h1, h5, rfl⟩
      simp (maxSteps := 1000000) (disch := omega) only [h0, h1, h5, S, S1, S2, S3, S4, S5, ST, eq_self, reduceIte, reduceCtorEq, Nat.reduceEqDiff, Nat.reduceAdd]
      refine brD.intro (fun g => ?_) (fun g => ?_) <;> simp (maxSteps := 1000000) (disch := omega) only [h0, h1, h5, S, S1, S2, S3, S4, S5, ST, eq_self, reduceIte, reduceCtorEq, Nat.reduceEqDiff, Nat.reduceAdd]
      · exact absurd g (by decide)
      · refine hQ _ _ _ ?_
        simp (maxSteps := 1000000) (disch := omega) only [h0, h1, h5, S, S1, S2, S3, S4, S5, ST, eq_self, reduceIte, reduceCtorEq, Nat.reduceEqDiff, Nat.reduceAdd]
        exact ⟨by simp, .inl ⟨rfl, rfl⟩, Else.refl _ _⟩
  · have hzl : xs.length ≤ zs.length := by have := congrArg List.length ht; simp at this; omega
    refine LoopH.by (fun m s H' => ∃ i ys, m + i = xs.length ∧ s 0 = .slice (some ⟨o, 0, none⟩) xs.length xs.length ∧ s 1 = .int .i64 (k + (i : Nat)) ∧ s 5 = .int .i64 ((i : Nat) : Int) ∧ H' = H.set o (.cells (ints ys) 3 false) ∧ ys.length = zs.length ∧ ys.take i = runI k i) xs.length ?_ ?_
    · refine ⟨0, zs, by simp, rfl, by simp [S, S1, S2, S3, S4, S5, ST, eq_self, reduceIte, reduceCtorEq, Nat.reduceEqDiff, Nat.reduceAdd], rfl, ?_, rfl, by simp [runI]⟩
      apply List.ext_getElem?
      intro j
      rw [List.getElem?_set]
      by_cases hj : o = j
      · subst hj; rw [if_pos rfl, if_pos (at_lt hc), hc]
      · rw [if_neg hj]
    · rintro m s H' ⟨i, ys, hm, h0, h1, h5, rfl, hyl, hyt⟩
      have hc' : (H.set o (.cells (ints ys) 3 false))[o]? = some (.cells (ints ys) 3 false) := at_set hc
      simp (maxSteps := 1000000) (disch := omega) only [h0, h1, h5, S, S1, S2, S3, S4, S5, ST, eq_self, reduceIte, reduceCtorEq, Nat.reduceEqDiff, Nat.reduceAdd]
      refine brD.intro (fun g => ?_) (fun g => ?_) <;> simp (maxSteps := 1000000) (disch := omega) only [h0, h1, h5, Int.toNat_natCast, Nat.zero_add, st_ints cs3 hc', wrap64, S, S1, S2, S3, S4, S5, ST, eq_self, reduceIte, reduceCtorEq, Nat.reduceEqDiff, Nat.reduceAdd]
      · have hi : i < ys.length := by omega
        have e1 : (ys.set i (k + i)).take (i + 1) = runI k (i + 1) := by rw [take_set_succ ys i _ hi, hyt]; rfl
        have e2 : (ys.set i (k + i)).length = zs.length := by simp [hyl]
        have e3 : (H.set o (.cells (ints ys) 3 false)).set o (.cells (ints (ys.set i (k + i))) 3 false) = H.set o (.cells (ints (ys.set i (k + i))) 3 false) := List.set_set ..
        refine ⟨m - 1, by omega, i + 1, ys.set i (k + i), ?_⟩
        (repeat' apply And.intro) <;> first | rfl | trivial | assumption | omega | (simp only [Value.int.injEq, true_and]; omega) | (simp; done) | (simp; omega) | exact e1 | exact e2 | exact e3
      · refine hQ _ _ _ ?_
        simp (maxSteps := 1000000) (disch := omega) only [h1, S, S1, S2, S3, S4, S5, ST, eq_self, reduceIte, reduceCtorEq, Nat.reduceEqDiff, Nat.reduceAdd]
        have hi : i = xs.length := by omega
        subst hi
        refine ⟨rfl, .inr ⟨o, ys, by rw [runI_len], ho, hc', by rw [runI_len]; exact hyt⟩, Else.set _ _⟩
theorem heldIntS_c (v : Value) (xs : List Int) (k : Int) (H : AH) (hr : Row 3 H v xs) (hlen : xs.length ≤ 1099511627776) (hk : 0 ≤ k ∧ k ≤ 4611686018427387904) (hx : xs = runI k xs.length) :
    ACalls Try.prog 60 [v, .int .i64 k] H fun r H' => r = .int .i64 (k + xs.length) ∧ H = H' := by
  refine in60 rfl ?_
  intro Q hQ
  simp (maxSteps := 1000000) (disch := omega) only [cd60, S, S1, S2, S3, S4, S5, ST, eq_self, reduceIte, reduceCtorEq, Nat.reduceEqDiff, Nat.reduceAdd]
  refine LoopH.by (fun m s H' => ∃ i, m + i = xs.length ∧ s 0 = v ∧ s 1 = .int .i64 (k + (i : Nat)) ∧ s 5 = .int .i64 ((i : Nat) : Int) ∧ H = H') xs.length ?_ ?_
  · exact ⟨0, by simp, rfl, by simp [S, S1, S2, S3, S4, S5, ST, eq_self, reduceIte, reduceCtorEq, Nat.reduceEqDiff, Nat.reduceAdd], rfl, rfl⟩
  · rintro m s H' ⟨i, hm, h0, h1, h5, rfl⟩
    simp (maxSteps := 1000000) (disch := omega) only [h0, h1, h5, hr.len Try.underlying25, S, S1, S2, S3, S4, S5, ST, eq_self, reduceIte, reduceCtorEq, Nat.reduceEqDiff, Nat.reduceAdd]
    refine brD.intro (fun g => ?_) (fun g => ?_) <;> simp (maxSteps := 1000000) (disch := omega) only [h0, h1, h5, hr.ix Try.underlying25 cs3, hr.cell, Int.toNat_natCast, S, S1, S2, S3, S4, S5, ST, eq_self, reduceIte, reduceCtorEq, Nat.reduceEqDiff, Nat.reduceAdd]
    · have hi : i < xs.length := by omega
      have hg : xs.getD i 0 = k + i := by
        have h2 : (runI k xs.length).getD i 0 = k + i := runI_at k _ i hi
        rw [← hx] at h2; exact h2
      simp (maxSteps := 1000000) (disch := omega) only [hg, S, S1, S2, S3, S4, S5, ST, eq_self, reduceIte, reduceCtorEq, Nat.reduceEqDiff, Nat.reduceAdd]
      simp (maxSteps := 1000000) (disch := omega) only [h0, h1, h5, wrap64, S, S1, S2, S3, S4, S5, ST, eq_self, reduceIte, reduceCtorEq, Nat.reduceEqDiff, Nat.reduceAdd]
      refine ⟨m - 1, by omega, i + 1, ?_⟩
      (repeat' apply And.intro) <;> first | rfl | trivial | assumption | omega | (simp only [Value.int.injEq, true_and]; omega) | (simp; done) | (simp; omega)
    · refine hQ _ _ _ ?_
      simp (maxSteps := 1000000) (disch := omega) only [h1, S, S1, S2, S3, S4, S5, ST, eq_self, reduceIte, reduceCtorEq, Nat.reduceEqDiff, Nat.reduceAdd]
      have : i = xs.length := by omega
      rw [this]
theorem markIntS_B (v : Value) (xs : List Int) (k : Int) (lo hi : Nat) (H : AH) (h : InI lo hi 3 H v xs) (hlen : xs.length ≤ 1099511627776) (hk : 0 ≤ k ∧ k ≤ 4611686018427387904) :
    ACalls Try.prog 13 [v, .int .i64 k] H fun r H' => r = .int .i64 (k + xs.length) ∧ InI lo hi 3 H' v (runI k xs.length) ∧ ElseR lo hi H H' := by
  have hm : Mine 3 (List.replicate lo AObj.dead) H v xs := by
    rcases h with h | ⟨o, zs, h1, h2, h3, h4, h5⟩
    · exact .inl h
    · exact .inr ⟨o, zs, h1, by simpa using h2, h4, h5⟩
  refine (markIntS_c v xs k _ H hm hlen hk).mono ?_
  rintro r H' ⟨h1, h2, h3⟩
  refine ⟨h1, ?_, h3.1, fun o x ho hx => h3.2 o x ?_ hx⟩
  · rcases h with ⟨g1, g2⟩ | ⟨o, zs, g1, g2, g3, g4, g5⟩
    · subst g2; exact .inl ⟨g1, rfl⟩
    · rcases h2 with ⟨f1, f2⟩ | ⟨o', zs', f1, f2, f3, f4⟩
      · rw [g1] at f1; cases f1
      · rw [g1] at f1
        simp only [Value.slice.injEq, Option.some.injEq, Addr.mk.injEq] at f1
        refine .inr ⟨o', zs', ?_, ?_, ?_, f3, f4⟩
        · rw [g1, f1.1.1, runI_len]
        · omega
        · omega
  · rcases h with g | ⟨o', zs, g1, g2, g3, g4, g5⟩
    · exact .inl g.1
    · subst g1
      right
      show o ≠ o'
      omega
end Go.Proofs.Ytlcipphiflcaiaa.Ai
namespace Go.Proofs.Ytlcipphiflcaiaa.Ai
open Go
def ords33 : List (Nat × List (Nat × Bool)) := []
def cd33 : Cd := (.seq (.reg [⟨⟨some 4, Op.assign (Operand.const (Value.int IntKind.i64 0)), none⟩, []⟩]) (.seq (.seq (.reg [⟨⟨some 5, Op.assign (Operand.const (Value.int IntKind.i64 0)), none⟩, []⟩]) (.block 0 (.loop (.seq (.seq (.reg [⟨⟨some 7, Op.move (Operand.tmp 5), none⟩, []⟩,
  ⟨⟨some 8, Op.move (Operand.tmp 0), none⟩, []⟩,
  ⟨⟨some 9, Op.call { callee := (Callee.builtin Builtin.len), args := #[(Operand.tmp 8)], argTypes := #[22] }, none⟩, []⟩,
  ⟨⟨some 10, Op.binOp BinOp.lss 3 (Operand.tmp 7) (Operand.tmp 9) 3, none⟩, []⟩]) (.cond (Operand.tmp 10) .skip (.exit 0))) (.seq (.block 1 (.seq (.reg [⟨⟨some 6, Op.assign (Operand.const (Value.int IntKind.i64 0)), none⟩, []⟩]) (.block 2 (.loop (.seq (.seq (.reg [⟨⟨some 13, Op.move (Operand.tmp 6), none⟩, []⟩,
  ⟨⟨some 14, Op.binOp BinOp.lss 3 (Operand.tmp 13) (Operand.const (Value.int IntKind.i64 2)) 3, none⟩, []⟩]) (.cond (Operand.tmp 14) .skip (.exit 2))) (.seq (.block 3 (.seq (.reg [⟨⟨some 17, Op.move (Operand.tmp 0), none⟩, []⟩,
  ⟨⟨some 18, Op.move (Operand.tmp 5), none⟩, []⟩,
  ⟨⟨some 19, Op.move (Operand.tmp 6), none⟩, []⟩,
  ⟨⟨some 20, Op.move (Operand.tmp 1), none⟩, []⟩,
  ⟨⟨some 21, Op.indexAddr 22 (Operand.tmp 17) (Operand.tmp 18), none⟩, []⟩,
  ⟨⟨some 22, Op.indexAddr 65 (Operand.tmp 21) (Operand.tmp 19), none⟩, []⟩,
  ⟨⟨none, Op.store 3 (Operand.tmp 22) (Operand.tmp 20), none⟩, []⟩]) (.reg [⟨⟨some 23, Op.move (Operand.tmp 1), none⟩, []⟩,
  ⟨⟨some 24, Op.binOp BinOp.add 3 (Operand.tmp 23) (Operand.const (Value.int IntKind.i64 1)) 3, none⟩, []⟩,
  ⟨⟨some 1, Op.assign (Operand.tmp 24), none⟩, []⟩]))) (.reg [⟨⟨some 15, Op.move (Operand.tmp 6), none⟩, []⟩,
  ⟨⟨some 16, Op.binOp BinOp.add 3 (Operand.tmp 15) (Operand.const (Value.int IntKind.i64 1)) 3, none⟩, []⟩,
  ⟨⟨some 6, Op.assign (Operand.tmp 16), none⟩, []⟩]))))))) (.reg [⟨⟨some 11, Op.move (Operand.tmp 5), none⟩, []⟩,
  ⟨⟨some 12, Op.binOp BinOp.add 3 (Operand.tmp 11) (Operand.const (Value.int IntKind.i64 1)) 3, none⟩, []⟩,
  ⟨⟨some 5, Op.assign (Operand.tmp 12), none⟩, []⟩])))))) (.seq (.reg [⟨⟨some 25, Op.move (Operand.tmp 1), none⟩, []⟩,
  ⟨⟨some 4, Op.assign (Operand.tmp 25), none⟩, []⟩]) .ret)))
theorem sl33 : slim Try.f33.ntmps ords33 (Try.f33.body.getD .skip) = some cd33 := by kernel_rfl
theorem in33 {args : List Value} {H : AH} {R : Value → AH → Prop} (hl : args.length = 2) (h : ∀ (Q : Exit → Sl → AH → Prop), (∀ e s H, endA Try.prog [ResultVar.tmp 4] R e s H → Q e s H) → wpC Try.prog cd33 Q (enterA args) H) : ACalls Try.prog 33 args H R :=
  ACalls.intro (by kernel_rfl) Try.func33 rfl (by kernel_rfl) sl33 hl (of_decide_eq_true (by kernel_rfl)) (by kernel_rfl) h
def ords36 : List (Nat × List (Nat × Bool)) := []
def cd36 : Cd := (.seq (.reg [⟨⟨some 4, Op.assign (Operand.const (Value.int IntKind.i64 0)), none⟩, []⟩]) (.seq (.seq (.reg [⟨⟨some 5, Op.assign (Operand.const (Value.int IntKind.i64 0)), none⟩, []⟩]) (.block 0 (.loop (.seq (.seq (.reg [⟨⟨some 7, Op.move (Operand.tmp 5), none⟩, []⟩,
  ⟨⟨some 8, Op.move (Operand.tmp 0), none⟩, []⟩,
  ⟨⟨some 9, Op.call { callee := (Callee.builtin Builtin.len), args := #[(Operand.tmp 8)], argTypes := #[22] }, none⟩, []⟩,
  ⟨⟨some 10, Op.binOp BinOp.lss 3 (Operand.tmp 7) (Operand.tmp 9) 3, none⟩, []⟩]) (.cond (Operand.tmp 10) .skip (.exit 0))) (.seq (.block 1 (.seq (.reg [⟨⟨some 6, Op.assign (Operand.const (Value.int IntKind.i64 0)), none⟩, []⟩]) (.block 2 (.loop (.seq (.seq (.reg [⟨⟨some 13, Op.move (Operand.tmp 6), none⟩, []⟩,
  ⟨⟨some 14, Op.binOp BinOp.lss 3 (Operand.tmp 13) (Operand.const (Value.int IntKind.i64 2)) 3, none⟩, []⟩]) (.cond (Operand.tmp 14) .skip (.exit 2))) (.seq (.block 3 (.seq (.seq (.reg [⟨⟨some 17, Op.move (Operand.tmp 0), none⟩, []⟩,
  ⟨⟨some 18, Op.move (Operand.tmp 5), none⟩, []⟩,
  ⟨⟨some 19, Op.move (Operand.tmp 6), none⟩, []⟩,
  ⟨⟨some 20, Op.indexAddr 22 (Operand.tmp 17) (Operand.tmp 18), none⟩, []⟩,
  ⟨⟨some 21, Op.indexAddr 65 (Operand.tmp 20) (Operand.tmp 19), none⟩, []⟩,
  ⟨⟨some 22, Op.load 3 (Operand.tmp 21), none⟩, []⟩,
  ⟨⟨some 23, Op.move (Operand.tmp 1), none⟩, []⟩,
  ⟨⟨some 24, Op.binOp BinOp.neq 3 (Operand.tmp 22) (Operand.tmp 23) 3, none⟩, []⟩]) (.cond (Operand.tmp 24) (.seq (.reg [⟨⟨some 4, Op.assign (Operand.const (Value.int IntKind.i64 (-1))), none⟩, []⟩]) .ret) .skip)) (.reg [⟨⟨some 25, Op.move (Operand.tmp 1), none⟩, []⟩,
  ⟨⟨some 26, Op.binOp BinOp.add 3 (Operand.tmp 25) (Operand.const (Value.int IntKind.i64 1)) 3, none⟩, []⟩,
  ⟨⟨some 1, Op.assign (Operand.tmp 26), none⟩, []⟩]))) (.reg [⟨⟨some 15, Op.move (Operand.tmp 6), none⟩, []⟩,
  ⟨⟨some 16, Op.binOp BinOp.add 3 (Operand.tmp 15) (Operand.const (Value.int IntKind.i64 1)) 3, none⟩, []⟩,
  ⟨⟨some 6, Op.assign (Operand.tmp 16), none⟩, []⟩]))))))) (.reg [⟨⟨some 11, Op.move (Operand.tmp 5), none⟩, []⟩,
  ⟨⟨some 12, Op.binOp BinOp.add 3 (Operand.tmp 11) (Operand.const (Value.int IntKind.i64 1)) 3, none⟩, []⟩,
  ⟨⟨some 5, Op.assign (Operand.tmp 12), none⟩, []⟩])))))) (.seq (.reg [⟨⟨some 27, Op.move (Operand.tmp 1), none⟩, []⟩,
  ⟨⟨some 4, Op.assign (Operand.tmp 27), none⟩, []⟩]) .ret)))
theorem sl36 : slim Try.f36.ntmps ords36 (Try.f36.body.getD .skip) = some cd36 := by kernel_rfl
theorem in36 {args : List Value} {H : AH} {R : Value → AH → Prop} (hl : args.length = 2) (h : ∀ (Q : Exit → Sl → AH → Prop), (∀ e s H, endA Try.prog [ResultVar.tmp 4] R e s H → Q e s H) → wpC Try.prog cd36 Q (enterA args) H) : ACalls Try.prog 36 args H R :=
  ACalls.intro (by kernel_rfl) Try.func36 rfl (by kernel_rfl) sl36 hl (of_decide_eq_true (by kernel_rfl)) (by kernel_rfl) h
end Go.Proofs.Ytlcipphiflcaiaa.Ai
namespace Go.Proofs.Ytlcipphiflcaiaa.Ai
open Go Go.RowKit
set_option linter.unusedVariables false
set_option linter.unusedSimpArgs false
set_option maxHeartbeats 1000000 in
theorem markIntA2S_B (v : Value) (ps : List (Int × Int)) (k : Int) (lo hi : Nat) (H : AH) (h : InP lo hi 65 H v ps) (hlen : ps.length ≤ 1099511627776) (hk : 0 ≤ k ∧ k ≤ 1099511627776) :
    ACalls Try.prog 33 [v, .int .i64 k] H fun r H' => r = .int .i64 (k + 2 * ps.length) ∧ InP lo hi 65 H' v (runP k ps.length) ∧ ElseR lo hi H H' := by
  refine in33 rfl ?_
  intro Q hQ
  simp (maxSteps := 1000000) (disch := omega) only [cd33, S, S1, S2, S3, S4, S5, ST, eq_self, reduceIte, reduceCtorEq, Nat.reduceEqDiff, Nat.reduceAdd]
  rcases h with ⟨rfl, rfl⟩ | ⟨o, zs, rfl, hlo, hhi, hc, ht⟩
  · refine LoopH.by (fun m s H' => s 0 = .slice none 0 0 ∧ s 1 = .int .i64 k ∧ s 5 = .int .i64 0 ∧ H = H') 0 ?_ ?_
    · exact ⟨rfl, rfl, rfl, rfl⟩
    · rintro m s H' ⟨h0, h1, h5, rfl⟩
      simp (maxSteps := 1000000) (disch := omega) only [h0, h1, h5, S, S1, S2, S3, S4, S5, ST, eq_self, reduceIte, reduceCtorEq, Nat.reduceEqDiff, Nat.reduceAdd]
      refine brD.intro (fun g => ?_) (fun g => ?_) <;> simp (maxSteps := 1000000) (disch := omega) only [h0, h1, h5, S, S1, S2, S3, S4, S5, ST, eq_self, reduceIte, reduceCtorEq, Nat.reduceEqDiff, Nat.reduceAdd]
      · exact absurd g (by decide)
      · refine hQ _ _ _ ?_
        simp (maxSteps := 1000000) (disch := omega) only [h0, h1, h5, S, S1, S2, S3, S4, S5, ST, eq_self, reduceIte, reduceCtorEq, Nat.reduceEqDiff, Nat.reduceAdd]
        exact ⟨by simp, .inl ⟨rfl, rfl⟩, ElseR.refl _ _ _⟩
  · have hzl := take_flat_len ht
    refine LoopH.by (fun m s H' => ∃ i ys, m + i = ps.length ∧ s 0 = .slice (some ⟨o, 0, none⟩) ps.length ps.length ∧ s 1 = .int .i64 (k + 2 * (i : Nat)) ∧ s 5 = .int .i64 ((i : Nat) : Int) ∧ H' = H.set o (.cells (ints ys) 65 false) ∧ ys.length = zs.length ∧ ys.take (2 * i) = runI k (2 * i)) ps.length ?_ ?_
    · refine ⟨0, zs, by simp, rfl, by simp [S, S1, S2, S3, S4, S5, ST, eq_self, reduceIte, reduceCtorEq, Nat.reduceEqDiff, Nat.reduceAdd], rfl, ?_, rfl, by simp [runI]⟩
      apply List.ext_getElem?
      intro j
      rw [List.getElem?_set]
      by_cases hj : o = j
      · subst hj; rw [if_pos rfl, if_pos (at_lt hc), hc]
      · rw [if_neg hj]
    · rintro m s H' ⟨i, ys, hm, h0, h1, h5, rfl, hyl, hyt⟩
      simp (maxSteps := 1000000) (disch := omega) only [h0, h1, h5, S, S1, S2, S3, S4, S5, ST, eq_self, reduceIte, reduceCtorEq, Nat.reduceEqDiff, Nat.reduceAdd]
      refine brD.intro (fun g => ?_) (fun g => ?_)
      · have hi : i < ps.length := by omega
        simp (maxSteps := 1000000) (disch := omega) only [h0, h1, h5, wrap64, S, S1, S2, S3, S4, S5, ST, eq_self, reduceIte, reduceCtorEq, Nat.reduceEqDiff, Nat.reduceAdd]
        refine LoopH.by (fun m' s' H' => ∃ j ys, m' + j = 2 ∧ s' 0 = .slice (some ⟨o, 0, none⟩) ps.length ps.length ∧ s' 1 = .int .i64 (k + 2 * (i : Nat) + (j : Nat)) ∧ s' 5 = .int .i64 ((i : Nat) : Int) ∧ s' 6 = .int .i64 ((j : Nat) : Int) ∧ H' = H.set o (.cells (ints ys) 65 false) ∧ ys.length = zs.length ∧ ys.take (2 * i + j) = runI k (2 * i + j)) 2 ?_ ?_
        · exact ⟨0, ys, by simp, by simp [S, S1, S2, S3, S4, S5, ST, eq_self, reduceIte, reduceCtorEq, Nat.reduceEqDiff, Nat.reduceAdd, h0], by simp [S, S1, S2, S3, S4, S5, ST, eq_self, reduceIte, reduceCtorEq, Nat.reduceEqDiff, Nat.reduceAdd, h1], by simp [S, S1, S2, S3, S4, S5, ST, eq_self, reduceIte, reduceCtorEq, Nat.reduceEqDiff, Nat.reduceAdd, h5], by simp [S, S1, S2, S3, S4, S5, ST, eq_self, reduceIte, reduceCtorEq, Nat.reduceEqDiff, Nat.reduceAdd], rfl, hyl, hyt⟩
        · rintro m' s' H' ⟨j, ys, hm', g0, g1, g5, g6, rfl, hyl, hyt⟩
          have hc' : (H.set o (.cells (ints ys) 65 false))[o]? = some (.cells (ints ys) 65 false) := at_set hc
          simp (maxSteps := 1000000) (disch := omega) only [g0, g1, g5, g6, S, S1, S2, S3, S4, S5, ST, eq_self, reduceIte, reduceCtorEq, Nat.reduceEqDiff, Nat.reduceAdd]
          refine brD.intro (fun q => ?_) (fun q => ?_)
          · have hj : 2 * i + j < ys.length := by omega
            simp (maxSteps := 1000000) (disch := omega) only [g0, g1, g5, g6, ixa65, Int.toNat_natCast, Nat.zero_add, st_ints cs3 hc', wrap64, S, S1, S2, S3, S4, S5, ST, eq_self, reduceIte, reduceCtorEq, Nat.reduceEqDiff, Nat.reduceAdd]
            have e1 : (ys.set (2 * i + j) (k + 2 * i + j)).take (2 * i + (j + 1)) = runI k (2 * i + (j + 1)) := by
              rw [← Nat.add_assoc, take_set_succ ys _ _ hj, hyt, runI]
              congr 2
              omega
            have e2 : (ys.set (2 * i + j) (k + 2 * i + j)).length = zs.length := by simp [hyl]
            have e3 : (H.set o (.cells (ints ys) 65 false)).set o (.cells (ints (ys.set (2 * i + j) (k + 2 * i + j))) 65 false) = H.set o (.cells (ints (ys.set (2 * i + j) (k + 2 * i + j))) 65 false) := List.set_set ..
            refine ⟨m' - 1, by omega, j + 1, ys.set (2 * i + j) (k + 2 * i + j), ?_⟩
            (repeat' first | exact e1 | exact e2 | exact e3 | apply And.intro) <;> first | (simp only [Value.int.injEq, true_and]; omega) | omega | rfl | assumption | (simp; done) | (simp; omega)
          · have hj : j = 2 := by omega
            subst hj
            simp (maxSteps := 1000000) (disch := omega) only [g0, g1, g5, g6, wrap64, S, S1, S2, S3, S4, S5, ST, eq_self, reduceIte, reduceCtorEq, Nat.reduceEqDiff, Nat.reduceAdd]
            have e1 : ys.take (2 * (i + 1)) = runI k (2 * (i + 1)) := hyt
            refine ⟨m - 1, by omega, i + 1, ys, ?_⟩
            (repeat' first | exact e1 | exact hyl | apply And.intro) <;> first | (simp only [Value.int.injEq, true_and]; omega) | omega | rfl | assumption | (simp; done) | (simp; omega)
      · simp (maxSteps := 1000000) (disch := omega) only [h1, S, S1, S2, S3, S4, S5, ST, eq_self, reduceIte, reduceCtorEq, Nat.reduceEqDiff, Nat.reduceAdd]
        refine hQ _ _ _ ?_
        simp (maxSteps := 1000000) (disch := omega) only [h1, S, S1, S2, S3, S4, S5, ST, eq_self, reduceIte, reduceCtorEq, Nat.reduceEqDiff, Nat.reduceAdd]
        have hi : i = ps.length := by omega
        subst hi
        refine ⟨rfl, .inr ⟨o, ys, by rw [runP_len], hlo, hhi, at_set hc, by rw [runP_len, hyt, runP_flat]⟩, by simp, fun o' x ho hx => ?_⟩
        rw [List.getElem?_set_ne (by omega)]; exact hx
set_option maxHeartbeats 1000000 in
theorem heldIntA2S_c (v : Value) (n : Nat) (k : Int) (H : AH) (hr : RowP 65 H v (runP k n)) (hlen : n ≤ 1099511627776) (hk : 0 ≤ k ∧ k ≤ 1099511627776) :
    ACalls Try.prog 36 [v, .int .i64 k] H fun r H' => r = .int .i64 (k + 2 * n) ∧ H = H' := by
  have hl := hr.len Try.underlying22
  rw [runP_len] at hl
  refine in36 rfl ?_
  intro Q hQ
  simp (maxSteps := 1000000) (disch := omega) only [cd36, S, S1, S2, S3, S4, S5, ST, eq_self, reduceIte, reduceCtorEq, Nat.reduceEqDiff, Nat.reduceAdd]
  refine LoopH.by (fun m s H' => ∃ i, m + i = n ∧ s 0 = v ∧ s 1 = .int .i64 (k + 2 * (i : Nat)) ∧ s 5 = .int .i64 ((i : Nat) : Int) ∧ H = H') n ?_ ?_
  · exact ⟨0, by simp, rfl, by simp [S, S1, S2, S3, S4, S5, ST, eq_self, reduceIte, reduceCtorEq, Nat.reduceEqDiff, Nat.reduceAdd], rfl, rfl⟩
  · rintro m s H' ⟨i, hm, h0, h1, h5, rfl⟩
    simp (maxSteps := 1000000) (disch := omega) only [h0, h1, h5, hl, S, S1, S2, S3, S4, S5, ST, eq_self, reduceIte, reduceCtorEq, Nat.reduceEqDiff, Nat.reduceAdd]
    refine brD.intro (fun g => ?_) (fun g => ?_)
    · have hi : i < n := by omega
      have hi2 : i < (runP k n).length := by rw [runP_len]; exact hi
      simp (maxSteps := 1000000) (disch := omega) only [h0, h1, h5, wrap64, S, S1, S2, S3, S4, S5, ST, eq_self, reduceIte, reduceCtorEq, Nat.reduceEqDiff, Nat.reduceAdd]
      refine LoopH.by (fun m' s' H' => ∃ j, m' + j = 2 ∧ s' 0 = v ∧ s' 1 = .int .i64 (k + 2 * (i : Nat) + (j : Nat)) ∧ s' 5 = .int .i64 ((i : Nat) : Int) ∧ s' 6 = .int .i64 ((j : Nat) : Int) ∧ H = H') 2 ?_ ?_
      · exact ⟨0, by simp, by simp [S, S1, S2, S3, S4, S5, ST, eq_self, reduceIte, reduceCtorEq, Nat.reduceEqDiff, Nat.reduceAdd, h0], by simp [S, S1, S2, S3, S4, S5, ST, eq_self, reduceIte, reduceCtorEq, Nat.reduceEqDiff, Nat.reduceAdd, h1], by simp [S, S1, S2, S3, S4, S5, ST, eq_self, reduceIte, reduceCtorEq, Nat.reduceEqDiff, Nat.reduceAdd, h5], by simp [S, S1, S2, S3, S4, S5, ST, eq_self, reduceIte, reduceCtorEq, Nat.reduceEqDiff, Nat.reduceAdd], rfl⟩
      · rintro m' s' H' ⟨j, hm', g0, g1, g5, g6, rfl⟩
        simp (maxSteps := 1000000) (disch := omega) only [g0, g1, g5, g6, S, S1, S2, S3, S4, S5, ST, eq_self, reduceIte, reduceCtorEq, Nat.reduceEqDiff, Nat.reduceAdd]
        refine brD.intro (fun q => ?_) (fun q => ?_)
        · have hcell : cellA H (rowO v) (rowK v + 2 * i + j) = some (.int .i64 (k + 2 * i + j)) := by
            rw [Nat.add_assoc, hr.cell (by rw [runP_len]; omega), runP_flat, runI_at k _ _ (by omega)]
            congr 2
            omega
          simp (maxSteps := 1000000) (disch := omega) only [g0, g1, g5, g6, hr.ix Try.underlying22 cs65, runP_len, ixa65, Int.toNat_natCast, hcell, S, S1, S2, S3, S4, S5, ST, eq_self, reduceIte, reduceCtorEq, Nat.reduceEqDiff, Nat.reduceAdd]
          simp (maxSteps := 1000000) (disch := omega) only [g0, g1, g5, g6, wrap64, S, S1, S2, S3, S4, S5, ST, eq_self, reduceIte, reduceCtorEq, Nat.reduceEqDiff, Nat.reduceAdd]
          refine ⟨m' - 1, by omega, j + 1, ?_⟩
          (repeat' first | apply And.intro) <;> first | (simp only [Value.int.injEq, true_and]; omega) | omega | rfl | assumption | (simp; done) | (simp; omega)
        · have hj : j = 2 := by omega
          subst hj
          simp (maxSteps := 1000000) (disch := omega) only [g0, g1, g5, g6, wrap64, S, S1, S2, S3, S4, S5, ST, eq_self, reduceIte, reduceCtorEq, Nat.reduceEqDiff, Nat.reduceAdd]
          refine ⟨m - 1, by omega, i + 1, ?_⟩
          (repeat' first | apply And.intro) <;> first | (simp only [Value.int.injEq, true_and]; omega) | omega | rfl | assumption | (simp; done) | (simp; omega)
    · simp (maxSteps := 1000000) (disch := omega) only [h1, S, S1, S2, S3, S4, S5, ST, eq_self, reduceIte, reduceCtorEq, Nat.reduceEqDiff, Nat.reduceAdd]
      refine hQ _ _ _ ?_
      simp (maxSteps := 1000000) (disch := omega) only [h1, S, S1, S2, S3, S4, S5, ST, eq_self, reduceIte, reduceCtorEq, Nat.reduceEqDiff, Nat.reduceAdd]
      have : i = n := by omega
      rw [this]
end Go.Proofs.Ytlcipphiflcaiaa.Ai
namespace Go.Proofs.Ytlcipphiflcaiaa.Ai
open Go
def ords4 : List (Nat × List (Nat × Bool)) := []
def cd4 : Cd := (.seq (.reg [⟨⟨some 2, Op.box 24 (Operand.tmp 0), none⟩, []⟩,
  ⟨⟨some 4, Op.assign (Operand.const (Value.int IntKind.i64 0)), none⟩, []⟩]) (.seq (.reg [⟨⟨some 5, Op.fieldAddr 24 (Operand.tmp 2) 1, none⟩, []⟩,
  ⟨⟨some 6, Op.load 22 (Operand.tmp 5), none⟩, []⟩,
  ⟨⟨some 7, Op.move (Operand.tmp 1), none⟩, []⟩,
  ⟨⟨some 8, Op.call { callee := (Callee.value (Operand.func 16)), args := #[(Operand.tmp 6), (Operand.tmp 7)], argTypes := #[22, 3] }, none⟩, []⟩,
  ⟨⟨some 1, Op.assign (Operand.tmp 8), none⟩, []⟩]) (.seq (.seq (.reg [⟨⟨some 9, Op.move (Operand.tmp 1), none⟩, []⟩,
  ⟨⟨some 10, Op.binOp BinOp.lss 3 (Operand.tmp 9) (Operand.const (Value.int IntKind.i64 0)) 3, none⟩, []⟩]) (.cond (Operand.tmp 10) (.seq (.reg [⟨⟨some 4, Op.assign (Operand.const (Value.int IntKind.i64 (-1))), none⟩, []⟩]) .ret) .skip)) (.seq (.reg [⟨⟨some 11, Op.move (Operand.tmp 1), none⟩, []⟩,
  ⟨⟨some 4, Op.assign (Operand.tmp 11), none⟩, []⟩]) .ret))))
theorem sl4 : slim Try.f4.ntmps ords4 (Try.f4.body.getD .skip) = some cd4 := by kernel_rfl
theorem in4 {args : List Value} {H : AH} {R : Value → AH → Prop} (hl : args.length = 2) (h : ∀ (Q : Exit → Sl → AH → Prop), (∀ e s H, endA Try.prog [ResultVar.tmp 4] R e s H → Q e s H) → wpC Try.prog cd4 Q (enterA args) H) : ACalls Try.prog 4 args H R :=
  ACalls.intro (by kernel_rfl) Try.func4 rfl (by kernel_rfl) sl4 hl (of_decide_eq_true (by kernel_rfl)) (by kernel_rfl) h
def ords6 : List (Nat × List (Nat × Bool)) := []
def cd6 : Cd := (.seq (.reg [⟨⟨some 1, Op.box 24 (Operand.tmp 0), none⟩, []⟩,
  ⟨⟨some 2, Op.alloc 32, none⟩, []⟩]) (.seq (.reg [⟨⟨some 3, Op.alloc 32, none⟩, []⟩]) (.seq (.reg [⟨⟨some 4, Op.fieldAddr 24 (Operand.tmp 1) 0, none⟩, []⟩,
  ⟨⟨some 5, Op.load 3 (Operand.tmp 4), none⟩, []⟩,
  ⟨⟨some 6, Op.fieldAddr 32 (Operand.tmp 3) 0, none⟩, []⟩,
  ⟨⟨none, Op.store 3 (Operand.tmp 6) (Operand.tmp 5), none⟩, []⟩]) (.seq (.reg [⟨⟨some 7, Op.fieldAddr 24 (Operand.tmp 1) 1, none⟩, []⟩,
  ⟨⟨some 8, Op.load 22 (Operand.tmp 7), none⟩, []⟩,
  ⟨⟨some 9, Op.call { callee := (Callee.value (Operand.func 22)), args := #[(Operand.tmp 8)], argTypes := #[22] }, none⟩, []⟩,
  ⟨⟨some 10, Op.fieldAddr 32 (Operand.tmp 3) 1, none⟩, []⟩,
  ⟨⟨none, Op.store 22 (Operand.tmp 10) (Operand.tmp 9), none⟩, []⟩]) (.seq (.reg [⟨⟨some 11, Op.load 32 (Operand.tmp 3), none⟩, []⟩,
  ⟨⟨none, Op.store 32 (Operand.tmp 2) (Operand.tmp 11), none⟩, []⟩]) .ret)))))
theorem sl6 : slim Try.f6.ntmps ords6 (Try.f6.body.getD .skip) = some cd6 := by kernel_rfl
set_option maxRecDepth 20000 in
theorem in6 {args : List Value} {H : AH} {R : Value → AH → Prop} (hl : args.length = 1) (h : ∀ (Q : Exit → Sl → AH → Prop), (∀ e s H, endA Try.prog [ResultVar.cell 2 32] R e s H → Q e s H) → wpC Try.prog cd6 Q (enterA args) H) : ACalls Try.prog 6 args H R :=
  ACalls.intro (by kernel_rfl) Try.func6 rfl (by kernel_rfl) sl6 hl (of_decide_eq_true (by kernel_rfl)) (by kernel_rfl) h
def ords10 : List (Nat × List (Nat × Bool)) := []
def cd10 : Cd := (.seq (.reg [⟨⟨some 2, Op.box 32 (Operand.tmp 0), none⟩, []⟩,
  ⟨⟨some 3, Op.box 32 (Operand.tmp 1), none⟩, []⟩,
  ⟨⟨some 4, Op.assign (Operand.const (Value.bool false)), none⟩, []⟩]) (.seq (.seq (.reg [⟨⟨some 5, Op.fieldAddr 32 (Operand.tmp 2) 0, none⟩, []⟩,
  ⟨⟨some 6, Op.load 3 (Operand.tmp 5), none⟩, []⟩,
  ⟨⟨some 7, Op.fieldAddr 32 (Operand.tmp 3) 0, none⟩, []⟩,
  ⟨⟨some 8, Op.load 3 (Operand.tmp 7), none⟩, []⟩,
  ⟨⟨some 9, Op.binOp BinOp.neq 3 (Operand.tmp 6) (Operand.tmp 8) 3, none⟩, []⟩]) (.cond (Operand.tmp 9) (.seq (.reg [⟨⟨some 4, Op.assign (Operand.const (Value.bool false)), none⟩, []⟩]) .ret) .skip)) (.seq (.seq (.reg [⟨⟨some 10, Op.fieldAddr 32 (Operand.tmp 2) 1, none⟩, []⟩,
  ⟨⟨some 11, Op.load 22 (Operand.tmp 10), none⟩, []⟩,
  ⟨⟨some 12, Op.fieldAddr 32 (Operand.tmp 3) 1, none⟩, []⟩,
  ⟨⟨some 13, Op.load 22 (Operand.tmp 12), none⟩, []⟩,
  ⟨⟨some 14, Op.call { callee := (Callee.value (Operand.func 32)), args := #[(Operand.tmp 11), (Operand.tmp 13)], argTypes := #[22, 22] }, none⟩, []⟩,
  ⟨⟨some 15, Op.unOp UnOp.not 4 (Operand.tmp 14), none⟩, []⟩]) (.cond (Operand.tmp 15) (.seq (.reg [⟨⟨some 4, Op.assign (Operand.const (Value.bool false)), none⟩, []⟩]) .ret) .skip)) (.seq (.reg [⟨⟨some 4, Op.assign (Operand.const (Value.bool true)), none⟩, []⟩]) .ret))))
theorem sl10 : slim Try.f10.ntmps ords10 (Try.f10.body.getD .skip) = some cd10 := by kernel_rfl
theorem in10 {args : List Value} {H : AH} {R : Value → AH → Prop} (hl : args.length = 2) (h : ∀ (Q : Exit → Sl → AH → Prop), (∀ e s H, endA Try.prog [ResultVar.tmp 4] R e s H → Q e s H) → wpC Try.prog cd10 Q (enterA args) H) : ACalls Try.prog 10 args H R :=
  ACalls.intro (by kernel_rfl) Try.func10 rfl (by kernel_rfl) sl10 hl (of_decide_eq_true (by kernel_rfl)) (by kernel_rfl) h
def ords12 : List (Nat × List (Nat × Bool)) := []
def cd12 : Cd := (.seq (.reg [⟨⟨some 2, Op.box 32 (Operand.tmp 0), none⟩, []⟩,
  ⟨⟨some 4, Op.assign (Operand.const (Value.int IntKind.i64 0)), none⟩, []⟩]) (.seq (.reg [⟨⟨some 5, Op.fieldAddr 32 (Operand.tmp 2) 1, none⟩, []⟩,
  ⟨⟨some 6, Op.load 22 (Operand.tmp 5), none⟩, []⟩,
  ⟨⟨some 7, Op.move (Operand.tmp 1), none⟩, []⟩,
  ⟨⟨some 8, Op.call { callee := (Callee.value (Operand.func 33)), args := #[(Operand.tmp 6), (Operand.tmp 7)], argTypes := #[22, 3] }, none⟩, []⟩,
  ⟨⟨some 1, Op.assign (Operand.tmp 8), none⟩, []⟩]) (.seq (.reg [⟨⟨some 9, Op.move (Operand.tmp 1), none⟩, []⟩,
  ⟨⟨some 4, Op.assign (Operand.tmp 9), none⟩, []⟩]) .ret)))
theorem sl12 : slim Try.f12.ntmps ords12 (Try.f12.body.getD .skip) = some cd12 := by kernel_rfl
theorem in12 {args : List Value} {H : AH} {R : Value → AH → Prop} (hl : args.length = 2) (h : ∀ (Q : Exit → Sl → AH → Prop), (∀ e s H, endA Try.prog [ResultVar.tmp 4] R e s H → Q e s H) → wpC Try.prog cd12 Q (enterA args) H) : ACalls Try.prog 12 args H R :=
  ACalls.intro (by kernel_rfl) Try.func12 rfl (by kernel_rfl) sl12 hl (of_decide_eq_true (by kernel_rfl)) (by kernel_rfl) h
end Go.Proofs.Ytlcipphiflcaiaa.Ai
namespace Go.Proofs.Ytlcipphiflcaiaa.Ai
open Go Go.RowKit
set_option linter.unusedVariables false
set_option linter.unusedSimpArgs false
theorem st_at {P : Program} {t e : TypeId} (hc : P.cellsOf t = 1) {H : AH} {o i : Nat} {vs : List Value} {y : Value} (ho : H[o]? = some (.cells vs e false)) (hi : i < vs.length) (h1 : isTup y = false) (h2 : y.cells.toList = [y]) :
    storeA P t (.pointer (some ⟨o, i, none⟩)) y H = some (H.set o (.cells (vs.set i y) e false)) := by
  simp only [storeA, ho]
  rw [h2, if_pos ⟨h1, by rw [hc]; rfl, by omega, by simp; omega⟩]
  have : putAt vs i [y] = vs.set i y := by
    unfold putAt
    rw [List.set_eq_take_append_cons_drop, if_pos hi]
    simp
  rw [this]
theorem ld_agg {P : Program} {t e : TypeId} (h : isAggA P t = some true) (hc : P.cellsOf t = 2) {H : AH} {o : Nat} {a b : Value} {ro : Bool} (ho : H[o]? = some (.cells [a, b] e ro)) : loadA P t (.pointer (some ⟨o, 0, none⟩)) H = some (.agg (List.toArray [a, b])) :=
  ld_two h hc (by rw [cell_of ho]; rfl) (by rw [cell_of ho]; rfl)
section
variable {e : TypeId} {G H : AH} {v : Value} {ps : List (Int × Int)}
theorem RowP.boxL (h : RowP e G v ps) (n : Int) : boxA Try.prog 24 (.agg (List.toArray [.int .i64 n, v])) H = some (.pointer (some ⟨H.length, 0, none⟩), H ++ [.cells [.int .i64 n, v] 24 false]) := by
  obtain ⟨q, rfl⟩ := h.shape; kernel_rfl
theorem RowP.boxG (h : RowP e G v ps) (n : Int) : boxA Try.prog 32 (.agg (List.toArray [.int .i64 n, v])) H = some (.pointer (some ⟨H.length, 0, none⟩), H ++ [.cells [.int .i64 n, v] 32 false]) := by
  obtain ⟨q, rfl⟩ := h.shape; kernel_rfl
end
theorem alloc_G (H : AH) : allocA Try.prog 32 H = some (.pointer (some ⟨H.length, 0, none⟩), H ++ [.cells [.int .i64 0, .slice none 0 0] 32 false]) := by kernel_rfl
theorem st_G {e e2 : TypeId} {G H : AH} {v : Value} {ps : List (Int × Int)} (h : RowP e2 G v ps) {o : Nat} {vs : List Value} (ho : H[o]? = some (.cells vs e false)) (hv : vs.length = 2) (n : Int) :
    storeA Try.prog 32 (.pointer (some ⟨o, 0, none⟩)) (.agg (List.toArray [.int .i64 n, v])) H = some (H.set o (.cells [.int .i64 n, v] e false)) := by
  obtain ⟨q, rfl⟩ := h.shape
  simp only [storeA, ho, cs32]
  have hcl : (Value.agg (List.toArray [.int .i64 n, .slice q ps.length ps.length])).cells.toList = [.int .i64 n, .slice q ps.length ps.length] := rfl
  rw [hcl, if_pos ⟨rfl, rfl, by decide, by rw [hv]; exact Nat.le_refl 2⟩]
  have : putAt vs 0 [.int .i64 n, .slice q ps.length ps.length] = [.int .i64 n, .slice q ps.length ps.length] := by
    unfold putAt
    rw [List.take_zero, List.nil_append, List.drop_of_length_le (by simp; omega), List.append_nil]
  rw [this]
theorem MineP.keepL {e : TypeId} {H0 H H' : AH} {v : Value} {ps : List (Int × Int)} (h : MineP e H0 H v ps) (hh : H0.length ≤ rowO v → ∀ y, H[rowO v]? = some y → H'[rowO v]? = some y) : MineP e H0 H' v ps := by
  rcases h with h | ⟨o, zs, h1, h2, h3, h4⟩
  · exact .inl h
  · subst h1; exact .inr ⟨o, zs, rfl, h2, hh h2 _ h3, h4⟩
theorem two_of {α : Type} : ∀ (l : List α), l.length = 2 → ∃ a b, l = [a, b]
  | [a, b], _ => ⟨a, b, rfl⟩
theorem cell_new (H : AH) (vs : List Value) (e : TypeId) (ro : Bool) (i : Nat) : cellA (H ++ [.cells vs e ro]) H.length i = vs[i]? := cell_of (at_new ..) i
theorem szGraph_c (n : Int) (v : Value) (ps : List (Int × Int)) (k : Int) (H : AH) (hr : RowP 65 H v ps) (hk : 0 ≤ k ∧ k ≤ 1099511627776) (hl : (ps.length : Int) ≤ 9223372036854775807) :
    ACalls Try.prog 4 [.agg (List.toArray [.int .i64 n, v]), .int .i64 k] H fun r H' => r = .int .i64 (if k - ps.length < 0 then -1 else k - ps.length) ∧ H <+: H' := by
  refine in4 rfl ?_
  intro Q hQ
  have hp := List.prefix_append H [AObj.cells [.int .i64 n, v] 24 false]
  simp (maxSteps := 1000000) (disch := omega) only [cd4, hr.boxL, cell_new, S, S1, S2, S3, S4, S5, ST, eq_self, reduceIte, reduceCtorEq, Nat.reduceEqDiff, Nat.reduceAdd]
  refine CallH.by (szIntA2S_c v ps k _ (hr.pre hp) hk hl) ?_
  rintro _ _ ⟨rfl, rfl⟩
  simp (maxSteps := 1000000) (disch := omega) only [S, S1, S2, S3, S4, S5, ST, eq_self, reduceIte, reduceCtorEq, Nat.reduceEqDiff, Nat.reduceAdd]
  by_cases g : k - (ps.length : Int) < 0
  · rw [if_pos g]
    refine brD.intro (fun _ => ?_) (fun h => absurd h (by omega)) <;> simp (maxSteps := 1000000) (disch := omega) only [S, S1, S2, S3, S4, S5, ST, eq_self, reduceIte, reduceCtorEq, Nat.reduceEqDiff, Nat.reduceAdd]
    refine hQ _ _ _ ?_
    simp (maxSteps := 1000000) (disch := omega) only [g, S, S1, S2, S3, S4, S5, ST, eq_self, reduceIte, reduceCtorEq, Nat.reduceEqDiff, Nat.reduceAdd]
    exact hp
  · rw [if_neg g]
    refine brD.intro (fun h => absurd h (by omega)) (fun _ => ?_) <;> simp (maxSteps := 1000000) (disch := omega) only [S, S1, S2, S3, S4, S5, ST, eq_self, reduceIte, reduceCtorEq, Nat.reduceEqDiff, Nat.reduceAdd]
    refine hQ _ _ _ ?_
    simp (maxSteps := 1000000) (disch := omega) only [g, S, S1, S2, S3, S4, S5, ST, eq_self, reduceIte, reduceCtorEq, Nat.reduceEqDiff, Nat.reduceAdd]
    exact hp
set_option maxRecDepth 20000 in
set_option maxHeartbeats 1000000 in
theorem toGraph_c (n : Int) (v : Value) (ps : List (Int × Int)) (H : AH) (hr : RowP 65 H v ps) (hlen : ps.length ≤ 1099511627776) :
    ACalls Try.prog 6 [.agg (List.toArray [.int .i64 n, v])] H fun r H' => ∃ g, r = .agg (List.toArray [.int .i64 n, g]) ∧ MineP 65 H H' g ps ∧ H <+: H' := by
  refine in6 rfl ?_
  intro Q hQ
  simp (maxSteps := 1000000) (disch := omega) only [cd6, hr.boxL, alloc_G, S, S1, S2, S3, S4, S5, ST, eq_self, reduceIte, reduceCtorEq, Nat.reduceEqDiff, Nat.reduceAdd]
  generalize hA : H ++ [AObj.cells [.int .i64 n, v] 24 false] = A
  have pA : H <+: A := by rw [← hA]; exact List.prefix_append _ _
  have a0 : A[H.length]? = some (.cells [.int .i64 n, v] 24 false) := by rw [← hA]; exact at_new ..
  generalize hB : A ++ [AObj.cells [.int .i64 0, .slice none 0 0] 32 false] = B
  have pB : A <+: B := by rw [← hB]; exact List.prefix_append _ _
  have b1 : B[A.length]? = some (.cells [.int .i64 0, .slice none 0 0] 32 false) := by rw [← hB]; exact at_new ..
  have c0 : (B ++ [AObj.cells [.int .i64 0, .slice none 0 0] 32 false])[B.length]? = some (.cells [.int .i64 0, .slice none 0 0] 32 false) := at_new ..
  have pC : H <+: B ++ [AObj.cells [.int .i64 0, .slice none 0 0] 32 false] := pre_app (pA.trans pB) _
  have a1 : ∀ x, (B ++ [x])[H.length]? = some (.cells [.int .i64 n, v] 24 false) := fun x => at_app (pre_at pB a0) [x]
  have b2 : ∀ x, (B ++ [x])[A.length]? = some (.cells [.int .i64 0, .slice none 0 0] 32 false) := fun x => at_app b1 [x]
  have c1 : (B ++ [AObj.cells [.int .i64 n, .slice none 0 0] 32 false])[B.length]? = some (.cells [.int .i64 n, .slice none 0 0] 32 false) := at_new ..
  simp (maxSteps := 1000000) (disch := omega) only [cell_of (a1 _), st_at cs3 c0 (i := 0) (y := .int .i64 n) (by show 0 < 2; decide) rfl rfl, set_new, List.set_cons_zero, S, S1, S2, S3, S4, S5, ST, eq_self, reduceIte, reduceCtorEq, Nat.reduceEqDiff, Nat.reduceAdd]
  generalize hC : B ++ [AObj.cells [.int .i64 n, .slice none 0 0] 32 false] = C at *
  have pBC : B <+: C := by rw [← hC]; exact List.prefix_append _ _
  have pHC := (pA.trans pB).trans pBC
  refine CallH.by (toIntA2S_c v ps C (hr.pre pHC) hlen) ?_
  rintro g D ⟨hg, pD⟩
  have c2 := pre_at pD c1
  have hgs := hg.row.shape
  obtain ⟨q, eg⟩ := hgs
  have t1 : isTup g = false := by rw [eg]; rfl
  have t2 : g.cells.toList = [g] := by rw [eg]; rfl
  have d1 : (D.set B.length (.cells [.int .i64 n, g] 32 false))[B.length]? = some (.cells [.int .i64 n, g] 32 false) := at_set c2
  simp (maxSteps := 1000000) (disch := omega) only [st_at cs22 c2 (i := 1) (y := g) (by show 1 < 2; decide) t1 t2, List.set_cons_zero, List.set_cons_succ, ld_agg ag32 cs32 d1, S, S1, S2, S3, S4, S5, ST, eq_self, reduceIte, reduceCtorEq, Nat.reduceEqDiff, Nat.reduceAdd]
  have d2 : (D.set B.length (.cells [.int .i64 n, g] 32 false))[A.length]? = some (.cells [.int .i64 0, .slice none 0 0] 32 false) := by
    rw [List.getElem?_set_ne (by rw [← hB]; simp)]
    exact pre_at (pBC.trans pD) b1
  simp (maxSteps := 1000000) (disch := omega) only [st_G hg.row d2 rfl n, S, S1, S2, S3, S4, S5, ST, eq_self, reduceIte, reduceCtorEq, Nat.reduceEqDiff, Nat.reduceAdd]
  have d3 := at_set (d := .cells [.int .i64 n, g] 32 false) d2
  refine hQ _ _ _ (end_cell _ _ _ _ _ _ (.agg (List.toArray [.int .i64 n, g])) ?_ rfl ⟨g, rfl, ?_, ?_⟩)
  · simp (maxSteps := 1000000) (disch := omega) only [ld_agg ag32 cs32 d3, S, S1, S2, S3, S4, S5, ST, eq_self, reduceIte, reduceCtorEq, Nat.reduceEqDiff, Nat.reduceAdd]
  · refine (hg.keepL ?_).base pHC
    intro hl y hy
    have l1 := pHC.length_le
    have l2 : C.length = B.length + 1 := by rw [← hC]; simp
    have l3 : B.length = A.length + 1 := by rw [← hB]; simp
    rw [List.getElem?_set_ne (by omega), List.getElem?_set_ne (by omega)]
    exact hy
  · exact pre_set (pre_set (pHC.trans pD) (by have := (pA.trans pB).length_le; omega) _) pA.length_le _
theorem eqGraph_c (n m : Int) (v w : Value) (ps qs : List (Int × Int)) (H : AH) (hr : RowP 65 H v ps) (hr2 : RowP 65 H w qs) (hlen : ps.length ≤ 1099511627776) :
    ACalls Try.prog 10 [.agg (List.toArray [.int .i64 n, v]), .agg (List.toArray [.int .i64 m, w])] H fun r H' => r = .bool (decide (n = m ∧ ps = qs)) ∧ H <+: H' := by
  refine in10 rfl ?_
  intro Q hQ
  simp (maxSteps := 1000000) (disch := omega) only [cd10, hr.boxG, hr2.boxG, S, S1, S2, S3, S4, S5, ST, eq_self, reduceIte, reduceCtorEq, Nat.reduceEqDiff, Nat.reduceAdd]
  generalize hA : H ++ [AObj.cells [.int .i64 n, v] 32 false] = A
  have pA : H <+: A := by rw [← hA]; exact List.prefix_append _ _
  have a0 : A[H.length]? = some (.cells [.int .i64 n, v] 32 false) := by rw [← hA]; exact at_new ..
  generalize hB : A ++ [AObj.cells [.int .i64 m, w] 32 false] = B
  have pB : A <+: B := by rw [← hB]; exact List.prefix_append _ _
  have b0 := pre_at pB a0
  have b1 : B[A.length]? = some (.cells [.int .i64 m, w] 32 false) := by rw [← hB]; exact at_new ..
  have pHB := pA.trans pB
  simp (maxSteps := 1000000) (disch := omega) only [cell_of b0, cell_of b1, S, S1, S2, S3, S4, S5, ST, eq_self, reduceIte, reduceCtorEq, Nat.reduceEqDiff, Nat.reduceAdd]
  refine brD.intro (fun g => ?_) (fun g => ?_) <;> simp (maxSteps := 1000000) (disch := omega) only [cell_of b0, cell_of b1, S, S1, S2, S3, S4, S5, ST, eq_self, reduceIte, reduceCtorEq, Nat.reduceEqDiff, Nat.reduceAdd]
  · refine hQ _ _ _ ?_
    simp (maxSteps := 1000000) (disch := omega) only [S, S1, S2, S3, S4, S5, ST, eq_self, reduceIte, reduceCtorEq, Nat.reduceEqDiff, Nat.reduceAdd]
    refine ⟨?_, pHB⟩
    rw [decide_eq_false]
    intro h; exact g h.1
  · have g' := Decidable.not_not.1 g
    refine CallH.by (eqIntA2S_c v w ps qs B (hr.pre pHB) (hr2.pre pHB) hlen) ?_
    rintro _ C ⟨rfl, pC⟩
    have pHC := pHB.trans pC
    simp (maxSteps := 1000000) (disch := omega) only [S, S1, S2, S3, S4, S5, ST, eq_self, reduceIte, reduceCtorEq, Nat.reduceEqDiff, Nat.reduceAdd]
    by_cases e : ps = qs
    · rw [decide_eq_true e]
      simp (maxSteps := 1000000) (disch := omega) only [S, S1, S2, S3, S4, S5, ST, eq_self, reduceIte, reduceCtorEq, Nat.reduceEqDiff, Nat.reduceAdd]
      try (refine brD.intro (fun h => absurd h (by simp)) (fun _ => ?_))
      try simp (maxSteps := 1000000) (disch := omega) only [S, S1, S2, S3, S4, S5, ST, eq_self, reduceIte, reduceCtorEq, Nat.reduceEqDiff, Nat.reduceAdd]
      refine hQ _ _ _ ?_
      simp (maxSteps := 1000000) (disch := omega) only [S, S1, S2, S3, S4, S5, ST, eq_self, reduceIte, reduceCtorEq, Nat.reduceEqDiff, Nat.reduceAdd]
      exact ⟨by rw [decide_eq_true ⟨g', e⟩], pHC⟩
    · rw [decide_eq_false e]
      simp (maxSteps := 1000000) (disch := omega) only [S, S1, S2, S3, S4, S5, ST, eq_self, reduceIte, reduceCtorEq, Nat.reduceEqDiff, Nat.reduceAdd]
      try (refine brD.intro (fun _ => ?_) (fun h => absurd h (by simp)))
      try simp (maxSteps := 1000000) (disch := omega) only [S, S1, S2, S3, S4, S5, ST, eq_self, reduceIte, reduceCtorEq, Nat.reduceEqDiff, Nat.reduceAdd]
      refine hQ _ _ _ ?_
      simp (maxSteps := 1000000) (disch := omega) only [S, S1, S2, S3, S4, S5, ST, eq_self, reduceIte, reduceCtorEq, Nat.reduceEqDiff, Nat.reduceAdd]
      exact ⟨by rw [decide_eq_false (fun h => e h.2)], pHC⟩
theorem markGraph_B (n : Int) (v : Value) (ps : List (Int × Int)) (k : Int) (lo hi : Nat) (H : AH) (h : InP lo hi 65 H v ps) (hlen : ps.length ≤ 1099511627776) (hk : 0 ≤ k ∧ k ≤ 1099511627776) (hb : hi ≤ H.length) :
    ACalls Try.prog 12 [.agg (List.toArray [.int .i64 n, v]), .int .i64 k] H fun r H' => r = .int .i64 (k + 2 * ps.length) ∧ ∃ Hm, InP lo hi 65 Hm v (runP k ps.length) ∧ ElseR lo hi H Hm ∧ Hm <+: H' := by
  refine in12 rfl ?_
  intro Q hQ
  simp (maxSteps := 1000000) (disch := omega) only [cd12, h.row.1.boxG, cell_new, S, S1, S2, S3, S4, S5, ST, eq_self, reduceIte, reduceCtorEq, Nat.reduceEqDiff, Nat.reduceAdd]
  have hp := List.prefix_append H [AObj.cells [.int .i64 n, v] 32 false]
  refine CallH.by (markIntA2S_B v ps k lo hi _ (h.pre hp) hlen hk) ?_
  rintro _ H' ⟨rfl, hin, he⟩
  simp (maxSteps := 1000000) (disch := omega) only [S, S1, S2, S3, S4, S5, ST, eq_self, reduceIte, reduceCtorEq, Nat.reduceEqDiff, Nat.reduceAdd]
  refine hQ _ _ _ ?_
  simp (maxSteps := 1000000) (disch := omega) only [S, S1, S2, S3, S4, S5, ST, eq_self, reduceIte, reduceCtorEq, Nat.reduceEqDiff, Nat.reduceAdd]
  have hH : ∀ o, o < H.length → (H'.take H.length)[o]? = H'[o]? := fun o ho => List.getElem?_take_of_lt ho
  refine ⟨H'.take H.length, ?_, ⟨?_, ?_⟩, List.take_prefix _ _⟩
  · rcases hin with q | ⟨o, zs, h1, h2, h3, h4, h5⟩
    · exact .inl q
    · exact .inr ⟨o, zs, h1, h2, h3, by rw [hH o (by omega)]; exact h4, h5⟩
  · have := he.1
    simp only [List.length_append, List.length_cons, List.length_nil] at this
    rw [List.length_take]; omega
  · intro o x ho hx
    rw [hH o (at_lt hx)]
    exact he.2 o x ho (at_app hx _)
end Go.Proofs.Ytlcipphiflcaiaa.Ai
namespace Go.Proofs.Ytlcipphiflcaiaa.Ai
open Go
def ords37 : List (Nat × List (Nat × Bool)) := []
def cd37 : Cd := (.seq (.reg [⟨⟨some 6, Op.assign (Operand.const (Value.bool false)), none⟩, []⟩]) (.seq (.reg [⟨⟨some 7, Op.move (Operand.tmp 0), none⟩, []⟩,
  ⟨⟨some 8, Op.move (Operand.tmp 1), none⟩, []⟩,
  ⟨⟨some 9, Op.binOp BinOp.geq 3 (Operand.tmp 7) (Operand.tmp 8) 3, none⟩, []⟩,
  ⟨⟨some 10, Op.move (Operand.tmp 9), none⟩, []⟩,
  ⟨⟨some 11, Op.move (Operand.tmp 0), some (10, true)⟩, []⟩,
  ⟨⟨some 12, Op.move (Operand.tmp 2), some (10, true)⟩, []⟩,
  ⟨⟨some 13, Op.binOp BinOp.leq 3 (Operand.tmp 11) (Operand.tmp 12) 3, some (10, true)⟩, []⟩,
  ⟨⟨some 14, Op.pick (Operand.tmp 10) (Operand.tmp 13) (Operand.const (Value.bool false)), none⟩, []⟩,
  ⟨⟨some 6, Op.assign (Operand.tmp 14), none⟩, []⟩]) .ret))
theorem sl37 : slim Try.f37.ntmps ords37 (Try.f37.body.getD .skip) = some cd37 := by kernel_rfl
theorem in37 {args : List Value} {H : AH} {R : Value → AH → Prop} (hl : args.length = 3) (h : ∀ (Q : Exit → Sl → AH → Prop), (∀ e s H, endA Try.prog [ResultVar.tmp 6] R e s H → Q e s H) → wpC Try.prog cd37 Q (enterA args) H) : ACalls Try.prog 37 args H R :=
  ACalls.intro (by kernel_rfl) Try.func37 rfl (by kernel_rfl) sl37 hl (of_decide_eq_true (by kernel_rfl)) (by kernel_rfl) h
def ords48 : List (Nat × List (Nat × Bool)) := []
def cd48 : Cd := (.seq (.reg [⟨⟨some 6, Op.assign (Operand.const (Value.bool false)), none⟩, []⟩]) (.seq (.reg [⟨⟨some 7, Op.move (Operand.tmp 0), none⟩, []⟩,
  ⟨⟨some 8, Op.move (Operand.tmp 1), none⟩, []⟩,
  ⟨⟨some 9, Op.binOp BinOp.geq 3 (Operand.tmp 7) (Operand.tmp 8) 3, none⟩, []⟩,
  ⟨⟨some 10, Op.move (Operand.tmp 9), none⟩, []⟩,
  ⟨⟨some 11, Op.move (Operand.tmp 0), some (10, true)⟩, []⟩,
  ⟨⟨some 12, Op.move (Operand.tmp 2), some (10, true)⟩, []⟩,
  ⟨⟨some 13, Op.binOp BinOp.leq 3 (Operand.tmp 11) (Operand.tmp 12) 3, some (10, true)⟩, []⟩,
  ⟨⟨some 14, Op.pick (Operand.tmp 10) (Operand.tmp 13) (Operand.const (Value.bool false)), none⟩, []⟩,
  ⟨⟨some 6, Op.assign (Operand.tmp 14), none⟩, []⟩]) .ret))
theorem sl48 : slim Try.f48.ntmps ords48 (Try.f48.body.getD .skip) = some cd48 := by kernel_rfl
theorem in48 {args : List Value} {H : AH} {R : Value → AH → Prop} (hl : args.length = 3) (h : ∀ (Q : Exit → Sl → AH → Prop), (∀ e s H, endA Try.prog [ResultVar.tmp 6] R e s H → Q e s H) → wpC Try.prog cd48 Q (enterA args) H) : ACalls Try.prog 48 args H R :=
  ACalls.intro (by kernel_rfl) Try.func48 rfl (by kernel_rfl) sl48 hl (of_decide_eq_true (by kernel_rfl)) (by kernel_rfl) h
end Go.Proofs.Ytlcipphiflcaiaa.Ai
namespace Go.Proofs.Ytlcipphiflcaiaa.Ai
open Go Go.RowKit
set_option linter.unusedVariables false
set_option linter.unusedSimpArgs false
theorem l1In_c (a b c : Int) (H : AH) : ACalls Try.prog 37 [.int .i64 a, .int .i64 b, .int .i64 c] H fun r H' => r = .bool (decide (b ≤ a ∧ a ≤ c)) ∧ H = H' := by
  refine in37 rfl ?_
  intro Q hQ
  simp (maxSteps := 1000000) (disch := omega) only [cd37, S, S1, S2, S3, S4, S5, ST, eq_self, reduceIte, reduceCtorEq, Nat.reduceEqDiff, Nat.reduceAdd]
  refine brD.intro (fun h => ?_) (fun h => ?_) <;> simp (maxSteps := 1000000) (disch := omega) only [h, S, S1, S2, S3, S4, S5, ST, eq_self, reduceIte, reduceCtorEq, Nat.reduceEqDiff, Nat.reduceAdd] <;> refine hQ _ _ _ ?_ <;> simp (maxSteps := 1000000) (disch := omega) only [h, S, S1, S2, S3, S4, S5, ST, eq_self, reduceIte, reduceCtorEq, Nat.reduceEqDiff, Nat.reduceAdd] <;> simp [h]
theorem between_c (a b c : Int) (H : AH) : ACalls Try.prog 48 [.int .i64 a, .int .i64 b, .int .i64 c] H fun r H' => r = .bool (decide (b ≤ a ∧ a ≤ c)) ∧ H = H' := by
  refine in48 rfl ?_
  intro Q hQ
  simp (maxSteps := 1000000) (disch := omega) only [cd48, S, S1, S2, S3, S4, S5, ST, eq_self, reduceIte, reduceCtorEq, Nat.reduceEqDiff, Nat.reduceAdd]
  refine brD.intro (fun h => ?_) (fun h => ?_) <;> simp (maxSteps := 1000000) (disch := omega) only [h, S, S1, S2, S3, S4, S5, ST, eq_self, reduceIte, reduceCtorEq, Nat.reduceEqDiff, Nat.reduceAdd] <;> refine hQ _ _ _ ?_ <;> simp (maxSteps := 1000000) (disch := omega) only [h, S, S1, S2, S3, S4, S5, ST, eq_self, reduceIte, reduceCtorEq, Nat.reduceEqDiff, Nat.reduceAdd] <;> simp [h]
end Go.Proofs.Ytlcipphiflcaiaa.Ai
namespace Go.Proofs.Ytlcipphiflcaiaa.Ai
open Go
def ords89 : List (Nat × List (Nat × Bool)) := []
def cd89 : Cd := (.seq (.reg [⟨⟨some 2, Op.assign (Operand.const (Value.bool false)), none⟩, []⟩]) (.seq (.reg [⟨⟨some 3, Op.move (Operand.tmp 0), none⟩, []⟩,
  ⟨⟨some 4, Op.move (Operand.tmp 0), none⟩, []⟩,
  ⟨⟨some 5, Op.binOp BinOp.neq 3 (Operand.tmp 3) (Operand.tmp 4) 3, none⟩, []⟩,
  ⟨⟨some 2, Op.assign (Operand.tmp 5), none⟩, []⟩]) .ret))
theorem sl89 : slim Try.f89.ntmps ords89 (Try.f89.body.getD .skip) = some cd89 := by kernel_rfl
theorem in89 {args : List Value} {H : AH} {R : Value → AH → Prop} (hl : args.length = 1) (h : ∀ (Q : Exit → Sl → AH → Prop), (∀ e s H, endA Try.prog [ResultVar.tmp 2] R e s H → Q e s H) → wpC Try.prog cd89 Q (enterA args) H) : ACalls Try.prog 89 args H R :=
  ACalls.intro (by kernel_rfl) Try.func89 rfl (by kernel_rfl) sl89 hl (of_decide_eq_true (by kernel_rfl)) (by kernel_rfl) h
def ords88 : List (Nat × List (Nat × Bool)) := []
def cd88 : Cd := (.seq (.reg [⟨⟨some 2, Op.assign (Operand.const (Value.int IntKind.i64 0)), none⟩, []⟩]) (.seq (.seq (.reg [⟨⟨some 3, Op.move (Operand.tmp 0), none⟩, []⟩,
  ⟨⟨some 4, Op.binOp BinOp.geq 106 (Operand.tmp 3) (Operand.const (Value.int IntKind.u64 4294967296)) 106, none⟩, []⟩]) (.cond (Operand.tmp 4) (.seq (.reg [⟨⟨some 5, Op.move (Operand.tmp 0), none⟩, []⟩,
  ⟨⟨some 6, Op.binOp BinOp.shr 106 (Operand.tmp 5) (Operand.const (Value.int IntKind.u64 32)) 76, none⟩, []⟩,
  ⟨⟨some 0, Op.assign (Operand.tmp 6), none⟩, []⟩]) (.reg [⟨⟨some 2, Op.assign (Operand.const (Value.int IntKind.i64 32)), none⟩, []⟩])) .skip)) (.seq (.seq (.reg [⟨⟨some 7, Op.move (Operand.tmp 0), none⟩, []⟩,
  ⟨⟨some 8, Op.binOp BinOp.geq 106 (Operand.tmp 7) (Operand.const (Value.int IntKind.u64 65536)) 106, none⟩, []⟩]) (.cond (Operand.tmp 8) (.seq (.reg [⟨⟨some 9, Op.move (Operand.tmp 0), none⟩, []⟩,
  ⟨⟨some 10, Op.binOp BinOp.shr 106 (Operand.tmp 9) (Operand.const (Value.int IntKind.u64 16)) 76, none⟩, []⟩,
  ⟨⟨some 0, Op.assign (Operand.tmp 10), none⟩, []⟩]) (.reg [⟨⟨some 11, Op.move (Operand.tmp 2), none⟩, []⟩,
  ⟨⟨some 12, Op.binOp BinOp.add 3 (Operand.tmp 11) (Operand.const (Value.int IntKind.i64 16)) 3, none⟩, []⟩,
  ⟨⟨some 2, Op.assign (Operand.tmp 12), none⟩, []⟩])) .skip)) (.seq (.seq (.reg [⟨⟨some 13, Op.move (Operand.tmp 0), none⟩, []⟩,
  ⟨⟨some 14, Op.binOp BinOp.geq 106 (Operand.tmp 13) (Operand.const (Value.int IntKind.u64 256)) 106, none⟩, []⟩]) (.cond (Operand.tmp 14) (.seq (.reg [⟨⟨some 15, Op.move (Operand.tmp 0), none⟩, []⟩,
  ⟨⟨some 16, Op.binOp BinOp.shr 106 (Operand.tmp 15) (Operand.const (Value.int IntKind.u64 8)) 76, none⟩, []⟩,
  ⟨⟨some 0, Op.assign (Operand.tmp 16), none⟩, []⟩]) (.reg [⟨⟨some 17, Op.move (Operand.tmp 2), none⟩, []⟩,
  ⟨⟨some 18, Op.binOp BinOp.add 3 (Operand.tmp 17) (Operand.const (Value.int IntKind.i64 8)) 3, none⟩, []⟩,
  ⟨⟨some 2, Op.assign (Operand.tmp 18), none⟩, []⟩])) .skip)) (.seq (.reg [⟨⟨some 19, Op.move (Operand.tmp 2), none⟩, []⟩,
  ⟨⟨some 20, Op.move (Operand.tmp 0), none⟩, []⟩,
  ⟨⟨some 21, Op.convert 106 5 (Operand.tmp 20), none⟩, []⟩,
  ⟨⟨some 22, Op.index 9 (Operand.const (Value.string { data := #[0, 1, 2, 2, 3, 3, 3, 3, 4, 4, 4, 4, 4, 4, 4, 4, 5, 5, 5, 5, 5, 5, 5, 5, 5, 5, 5, 5, 5, 5, 5, 5, 6, 6, 6, 6, 6, 6, 6, 6, 6, 6, 6, 6, 6, 6, 6, 6, 6, 6, 6, 6, 6, 6, 6, 6, 6, 6, 6, 6, 6, 6, 6, 6, 7, 7, 7, 7, 7, 7, 7, 7, 7, 7, 7, 7, 7, 7, 7, 7, 7, 7, 7, 7, 7, 7, 7, 7, 7, 7, 7, 7, 7, 7, 7, 7, 7, 7, 7, 7, 7, 7, 7, 7, 7, 7, 7, 7, 7, 7, 7, 7, 7, 7, 7, 7, 7, 7, 7, 7, 7, 7, 7, 7, 7, 7, 7, 7, 8, 8, 8, 8, 8, 8, 8, 8, 8, 8, 8, 8, 8, 8, 8, 8, 8, 8, 8, 8, 8, 8, 8, 8, 8, 8, 8, 8, 8, 8, 8, 8, 8, 8, 8, 8, 8, 8, 8, 8, 8, 8, 8, 8, 8, 8, 8, 8, 8, 8, 8, 8, 8, 8, 8, 8, 8, 8, 8, 8, 8, 8, 8, 8, 8, 8, 8, 8, 8, 8, 8, 8, 8, 8, 8, 8, 8, 8, 8, 8, 8, 8, 8, 8, 8, 8, 8, 8, 8, 8, 8, 8, 8, 8, 8, 8, 8, 8, 8, 8, 8, 8, 8, 8, 8, 8, 8, 8, 8, 8, 8, 8, 8, 8, 8, 8, 8, 8, 8, 8, 8, 8, 8, 8, 8, 8, 8, 8] })) (Operand.tmp 21), none⟩, []⟩,
  ⟨⟨some 23, Op.convert 5 3 (Operand.tmp 22), none⟩, []⟩,
  ⟨⟨some 24, Op.binOp BinOp.add 3 (Operand.tmp 19) (Operand.tmp 23) 3, none⟩, []⟩,
  ⟨⟨some 2, Op.assign (Operand.tmp 24), none⟩, []⟩]) .ret)))))
theorem sl88 : slim Try.f88.ntmps ords88 (Try.f88.body.getD .skip) = some cd88 := by kernel_rfl
theorem in88 {args : List Value} {H : AH} {R : Value → AH → Prop} (hl : args.length = 1) (h : ∀ (Q : Exit → Sl → AH → Prop), (∀ e s H, endA Try.prog [ResultVar.tmp 2] R e s H → Q e s H) → wpC Try.prog cd88 Q (enterA args) H) : ACalls Try.prog 88 args H R :=
  ACalls.intro (by kernel_rfl) Try.func88 rfl (by kernel_rfl) sl88 hl (of_decide_eq_true (by kernel_rfl)) (by kernel_rfl) h
def ords69 : List (Nat × List (Nat × Bool)) := []
def cd69 : Cd := (.seq (.reg [⟨⟨some 2, Op.assign (Operand.const (Value.int IntKind.i64 0)), none⟩, []⟩]) (.seq (.cond (Operand.const (Value.bool false)) (.seq (.reg [⟨⟨some 3, Op.move (Operand.tmp 0), none⟩, []⟩,
  ⟨⟨some 4, Op.convert 76 104 (Operand.tmp 3), none⟩, []⟩,
  ⟨⟨some 5, Op.call { callee := (Callee.value (Operand.func 87)), args := #[(Operand.tmp 4)], argTypes := #[104] }, none⟩, []⟩,
  ⟨⟨some 2, Op.assign (Operand.tmp 5), none⟩, []⟩]) .ret) .skip) (.seq (.reg [⟨⟨some 6, Op.move (Operand.tmp 0), none⟩, []⟩,
  ⟨⟨some 7, Op.call { callee := (Callee.value (Operand.func 88)), args := #[(Operand.tmp 6)], argTypes := #[106] }, none⟩, []⟩,
  ⟨⟨some 2, Op.assign (Operand.tmp 7), none⟩, []⟩]) .ret)))
theorem sl69 : slim Try.f69.ntmps ords69 (Try.f69.body.getD .skip) = some cd69 := by kernel_rfl
theorem in69 {args : List Value} {H : AH} {R : Value → AH → Prop} (hl : args.length = 1) (h : ∀ (Q : Exit → Sl → AH → Prop), (∀ e s H, endA Try.prog [ResultVar.tmp 2] R e s H → Q e s H) → wpC Try.prog cd69 Q (enterA args) H) : ACalls Try.prog 69 args H R :=
  ACalls.intro (by kernel_rfl) Try.func69 rfl (by kernel_rfl) sl69 hl (of_decide_eq_true (by kernel_rfl)) (by kernel_rfl) h
end Go.Proofs.Ytlcipphiflcaiaa.Ai
namespace Go.Proofs.Ytlcipphiflcaiaa.Ai
open Go Go.RowKit
set_option linter.unusedVariables false
set_option linter.unusedSimpArgs false
theorem isNaN_c (x : Int) (H : AH) : ACalls Try.prog 89 [.int .i64 x] H fun r H' => r = .bool false ∧ H = H' := by
  refine in89 rfl ?_
  intro Q hQ
  simp (maxSteps := 1000000) (disch := omega) only [cd89, S, S1, S2, S3, S4, S5, ST, eq_self, reduceIte, reduceCtorEq, Nat.reduceEqDiff, Nat.reduceAdd]
  refine hQ _ _ _ ?_
  simp (maxSteps := 1000000) (disch := omega) only [S, S1, S2, S3, S4, S5, ST, eq_self, reduceIte, reduceCtorEq, Nat.reduceEqDiff, Nat.reduceAdd]
theorem wrapU8 {n : Int} (h1 : 0 ≤ n) (h2 : n < 256) : IntKind.u8.wrap n = n := by rw [IntKind.wrap_u8]; omega
end Go.Proofs.Ytlcipphiflcaiaa.Ai
namespace Go.Proofs.Ytlcipphiflcaiaa.Ai
open Go
def ords92 : List (Nat × List (Nat × Bool)) := []
def cd92 : Cd := (.seq (.reg [⟨⟨some 2, Op.box 65 (Operand.tmp 0), none⟩, []⟩,
  ⟨⟨some 3, Op.box 65 (Operand.tmp 1), none⟩, []⟩,
  ⟨⟨some 4, Op.assign (Operand.const (Value.bool false)), none⟩, []⟩]) (.seq (.reg [⟨⟨some 5, Op.indexAddr 65 (Operand.tmp 2) (Operand.const (Value.int IntKind.i64 0)), none⟩, []⟩,
  ⟨⟨some 6, Op.load 3 (Operand.tmp 5), none⟩, []⟩,
  ⟨⟨some 7, Op.indexAddr 65 (Operand.tmp 3) (Operand.const (Value.int IntKind.i64 0)), none⟩, []⟩,
  ⟨⟨some 8, Op.load 3 (Operand.tmp 7), none⟩, []⟩,
  ⟨⟨some 9, Op.binOp BinOp.lss 3 (Operand.tmp 6) (Operand.tmp 8) 3, none⟩, []⟩,
  ⟨⟨some 10, Op.move (Operand.tmp 9), none⟩, []⟩,
  ⟨⟨some 11, Op.indexAddr 65 (Operand.tmp 2) (Operand.const (Value.int IntKind.i64 0)), some (10, false)⟩, []⟩,
  ⟨⟨some 12, Op.load 3 (Operand.tmp 11), some (10, false)⟩, []⟩,
  ⟨⟨some 13, Op.indexAddr 65 (Operand.tmp 3) (Operand.const (Value.int IntKind.i64 0)), some (10, false)⟩, []⟩,
  ⟨⟨some 14, Op.load 3 (Operand.tmp 13), some (10, false)⟩, []⟩,
  ⟨⟨some 15, Op.binOp BinOp.eql 3 (Operand.tmp 12) (Operand.tmp 14) 3, some (10, false)⟩, []⟩,
  ⟨⟨some 16, Op.move (Operand.tmp 15), some (10, false)⟩, []⟩,
  ⟨⟨some 17, Op.indexAddr 65 (Operand.tmp 2) (Operand.const (Value.int IntKind.i64 1)), some (16, true)⟩, []⟩,
  ⟨⟨some 18, Op.load 3 (Operand.tmp 17), some (16, true)⟩, []⟩,
  ⟨⟨some 19, Op.indexAddr 65 (Operand.tmp 3) (Operand.const (Value.int IntKind.i64 1)), some (16, true)⟩, []⟩,
  ⟨⟨some 20, Op.load 3 (Operand.tmp 19), some (16, true)⟩, []⟩,
  ⟨⟨some 21, Op.binOp BinOp.lss 3 (Operand.tmp 18) (Operand.tmp 20) 3, some (16, true)⟩, []⟩,
  ⟨⟨some 22, Op.pick (Operand.tmp 16) (Operand.tmp 21) (Operand.const (Value.bool false)), some (10, false)⟩, []⟩,
  ⟨⟨some 23, Op.pick (Operand.tmp 10) (Operand.const (Value.bool true)) (Operand.tmp 22), none⟩, []⟩,
  ⟨⟨some 4, Op.assign (Operand.tmp 23), none⟩, []⟩]) .ret))
theorem sl92 : slim Try.f92.ntmps ords92 (Try.f92.body.getD .skip) = some cd92 := by kernel_rfl
theorem in92 {args : List Value} {H : AH} {R : Value → AH → Prop} (hl : args.length = 2) (h : ∀ (Q : Exit → Sl → AH → Prop), (∀ e s H, endA Try.prog [ResultVar.tmp 4] R e s H → Q e s H) → wpC Try.prog cd92 Q (enterA args) H) : ACalls Try.prog 92 args H R :=
  ACalls.intro (by kernel_rfl) Try.func92 rfl (by kernel_rfl) sl92 hl (of_decide_eq_true (by kernel_rfl)) (by kernel_rfl) h
def ords70 : List (Nat × List (Nat × Bool)) := []
def cd70 : Cd := (.seq (.reg [⟨⟨some 4, Op.assign (Operand.const (Value.int IntKind.i64 0)), none⟩, []⟩]) (.seq (.reg [⟨⟨some 7, Op.move (Operand.tmp 0), none⟩, []⟩,
  ⟨⟨some 8, Op.call { callee := (Callee.value (Operand.func 89)), args := #[(Operand.tmp 7)], argTypes := #[3] }, none⟩, []⟩,
  ⟨⟨some 5, Op.assign (Operand.tmp 8), none⟩, []⟩]) (.seq (.reg [⟨⟨some 9, Op.move (Operand.tmp 1), none⟩, []⟩,
  ⟨⟨some 10, Op.call { callee := (Callee.value (Operand.func 89)), args := #[(Operand.tmp 9)], argTypes := #[3] }, none⟩, []⟩,
  ⟨⟨some 6, Op.assign (Operand.tmp 10), none⟩, []⟩]) (.seq (.seq (.reg [⟨⟨some 11, Op.move (Operand.tmp 5), none⟩, []⟩]) (.cond (Operand.tmp 11) (.seq (.seq (.reg [⟨⟨some 12, Op.move (Operand.tmp 6), none⟩, []⟩]) (.cond (Operand.tmp 12) (.seq (.reg [⟨⟨some 4, Op.assign (Operand.const (Value.int IntKind.i64 0)), none⟩, []⟩]) .ret) .skip)) (.seq (.reg [⟨⟨some 4, Op.assign (Operand.const (Value.int IntKind.i64 (-1))), none⟩, []⟩]) .ret)) .skip)) (.seq (.seq (.reg [⟨⟨some 13, Op.move (Operand.tmp 6), none⟩, []⟩]) (.cond (Operand.tmp 13) (.seq (.reg [⟨⟨some 4, Op.assign (Operand.const (Value.int IntKind.i64 1)), none⟩, []⟩]) .ret) .skip)) (.seq (.seq (.reg [⟨⟨some 14, Op.move (Operand.tmp 0), none⟩, []⟩,
  ⟨⟨some 15, Op.move (Operand.tmp 1), none⟩, []⟩,
  ⟨⟨some 16, Op.binOp BinOp.lss 3 (Operand.tmp 14) (Operand.tmp 15) 3, none⟩, []⟩]) (.cond (Operand.tmp 16) (.seq (.reg [⟨⟨some 4, Op.assign (Operand.const (Value.int IntKind.i64 (-1))), none⟩, []⟩]) .ret) .skip)) (.seq (.seq (.reg [⟨⟨some 17, Op.move (Operand.tmp 0), none⟩, []⟩,
  ⟨⟨some 18, Op.move (Operand.tmp 1), none⟩, []⟩,
  ⟨⟨some 19, Op.binOp BinOp.gtr 3 (Operand.tmp 17) (Operand.tmp 18) 3, none⟩, []⟩]) (.cond (Operand.tmp 19) (.seq (.reg [⟨⟨some 4, Op.assign (Operand.const (Value.int IntKind.i64 1)), none⟩, []⟩]) .ret) .skip)) (.seq (.reg [⟨⟨some 4, Op.assign (Operand.const (Value.int IntKind.i64 0)), none⟩, []⟩]) .ret))))))))
theorem sl70 : slim Try.f70.ntmps ords70 (Try.f70.body.getD .skip) = some cd70 := by kernel_rfl
theorem in70 {args : List Value} {H : AH} {R : Value → AH → Prop} (hl : args.length = 2) (h : ∀ (Q : Exit → Sl → AH → Prop), (∀ e s H, endA Try.prog [ResultVar.tmp 4] R e s H → Q e s H) → wpC Try.prog cd70 Q (enterA args) H) : ACalls Try.prog 70 args H R :=
  ACalls.intro (by kernel_rfl) Try.func70 rfl (by kernel_rfl) sl70 hl (of_decide_eq_true (by kernel_rfl)) (by kernel_rfl) h
def ords94 : List (Nat × List (Nat × Bool)) := []
def cd94 : Cd := (.seq (.reg [⟨⟨some 2, Op.assign (Operand.const (Value.int IntKind.i64 0)), none⟩, []⟩]) (.seq (.reg [⟨⟨some 3, Op.assign (Operand.const (Value.int IntKind.i64 0)), none⟩, []⟩]) (.seq (.seq (.reg [⟨⟨some 6, Op.move (Operand.tmp 0), none⟩, []⟩,
  ⟨⟨some 7, Op.call { callee := (Callee.builtin Builtin.len), args := #[(Operand.tmp 6)], argTypes := #[25] }, none⟩, []⟩,
  ⟨⟨some 8, Op.move (Operand.const (Value.int IntKind.i64 0)), none⟩, []⟩]) (.block 0 (.loop (.seq (.reg [⟨⟨some 9, Op.binOp BinOp.lss 3 (Operand.tmp 8) (Operand.tmp 7) 3, none⟩, []⟩]) (.seq (.cond (Operand.tmp 9) .skip (.exit 0)) (.seq (.block 1 (.seq (.reg [⟨⟨some 10, Op.indexAddr 25 (Operand.tmp 6) (Operand.tmp 8), none⟩, []⟩,
  ⟨⟨some 11, Op.load 3 (Operand.tmp 10), none⟩, []⟩,
  ⟨⟨some 5, Op.assign (Operand.tmp 11), none⟩, []⟩]) (.seq (.reg [⟨⟨some 12, Op.move (Operand.tmp 5), none⟩, []⟩,
  ⟨⟨some 13, Op.move (Operand.tmp 3), none⟩, []⟩,
  ⟨⟨some 14, Op.binOp BinOp.neq 3 (Operand.tmp 12) (Operand.tmp 13) 3, none⟩, []⟩]) (.cond (Operand.tmp 14) (.seq (.reg [⟨⟨some 15, Op.move (Operand.tmp 5), none⟩, []⟩,
  ⟨⟨some 2, Op.assign (Operand.tmp 15), none⟩, []⟩]) .ret) .skip)))) (.reg [⟨⟨some 16, Op.binOp BinOp.add 3 (Operand.tmp 8) (Operand.const (Value.int IntKind.i64 1)) 3, none⟩, []⟩,
  ⟨⟨some 8, Op.move (Operand.tmp 16), none⟩, []⟩]))))))) (.seq (.reg [⟨⟨some 17, Op.move (Operand.tmp 3), none⟩, []⟩,
  ⟨⟨some 2, Op.assign (Operand.tmp 17), none⟩, []⟩]) .ret))))
theorem sl94 : slim Try.f94.ntmps ords94 (Try.f94.body.getD .skip) = some cd94 := by kernel_rfl
theorem in94 {args : List Value} {H : AH} {R : Value → AH → Prop} (hl : args.length = 1) (h : ∀ (Q : Exit → Sl → AH → Prop), (∀ e s H, endA Try.prog [ResultVar.tmp 2] R e s H → Q e s H) → wpC Try.prog cd94 Q (enterA args) H) : ACalls Try.prog 94 args H R :=
  ACalls.intro (by kernel_rfl) Try.func94 rfl (by kernel_rfl) sl94 hl (of_decide_eq_true (by kernel_rfl)) (by kernel_rfl) h
def ords78 : List (Nat × List (Nat × Bool)) := [(1, [(0, false), (1, false), (2, false), (3, false), (5, false), (6, false), (7, false), (8, false), (4, true), (9, true), (10, false), (11, true), (12, false)])]
def cd78 : Cd := (.seq (.reg [⟨⟨some 2, Op.box 65 (Operand.tmp 0), none⟩, []⟩,
  ⟨⟨some 3, Op.box 65 (Operand.tmp 1), none⟩, []⟩,
  ⟨⟨some 4, Op.assign (Operand.const (Value.int IntKind.i64 0)), none⟩, []⟩]) (.seq (.reg [⟨⟨some 5, Op.indexAddr 65 (Operand.tmp 2) (Operand.const (Value.int IntKind.i64 0)), none⟩, []⟩,
  ⟨⟨some 6, Op.load 3 (Operand.tmp 5), none⟩, []⟩,
  ⟨⟨some 7, Op.indexAddr 65 (Operand.tmp 3) (Operand.const (Value.int IntKind.i64 0)), none⟩, []⟩,
  ⟨⟨some 8, Op.load 3 (Operand.tmp 7), none⟩, []⟩,
  ⟨⟨some 10, Op.indexAddr 65 (Operand.tmp 2) (Operand.const (Value.int IntKind.i64 1)), none⟩, []⟩,
  ⟨⟨some 11, Op.load 3 (Operand.tmp 10), none⟩, []⟩,
  ⟨⟨some 12, Op.indexAddr 65 (Operand.tmp 3) (Operand.const (Value.int IntKind.i64 1)), none⟩, []⟩,
  ⟨⟨some 13, Op.load 3 (Operand.tmp 12), none⟩, []⟩,
  ⟨⟨some 9, Op.call { callee := (Callee.value (Operand.func 70)), args := #[(Operand.tmp 6), (Operand.tmp 8)], argTypes := #[3, 3] }, none⟩, [⟨some 13, Op.load 3 (Operand.tmp 12), none⟩, ⟨some 11, Op.load 3 (Operand.tmp 10), none⟩]⟩,
  ⟨⟨some 14, Op.call { callee := (Callee.value (Operand.func 70)), args := #[(Operand.tmp 11), (Operand.tmp 13)], argTypes := #[3, 3] }, none⟩, []⟩,
  ⟨⟨some 15, Op.buildSlice 25 2 #[(0, (Operand.tmp 9)), (1, (Operand.tmp 14))], none⟩, []⟩,
  ⟨⟨some 16, Op.call { callee := (Callee.value (Operand.func 94)), args := #[(Operand.tmp 15)], argTypes := #[25] }, none⟩, []⟩,
  ⟨⟨some 4, Op.assign (Operand.tmp 16), none⟩, []⟩]) .ret))
theorem sl78 : slim Try.f78.ntmps ords78 (Try.f78.body.getD .skip) = some cd78 := by kernel_rfl
theorem in78 {args : List Value} {H : AH} {R : Value → AH → Prop} (hl : args.length = 2) (h : ∀ (Q : Exit → Sl → AH → Prop), (∀ e s H, endA Try.prog [ResultVar.tmp 4] R e s H → Q e s H) → wpC Try.prog cd78 Q (enterA args) H) : ACalls Try.prog 78 args H R :=
  ACalls.intro (by kernel_rfl) Try.func78 rfl (by kernel_rfl) sl78 hl (of_decide_eq_true (by kernel_rfl)) (by kernel_rfl) h
def ords73 : List (Nat × List (Nat × Bool)) := [(5, [(0, false), (1, false), (2, false), (3, false), (4, true), (5, false), (6, false), (7, false), (8, false), (9, false), (10, false), (11, true), (12, false), (13, false), (14, false), (15, false), (16, false), (17, false), (18, false), (19, false), (20, false), (21, false), (22, false), (23, false), (24, false), (25, false), (26, false), (27, false), (28, false), (29, false), (30, false), (31, true), (32, false), (33, false), (34, false)])]
def cd73 : Cd := (.seq (.reg [⟨⟨some 4, Op.assign (Operand.const (Value.bool false)), none⟩, []⟩]) (.seq (.seq (.reg [⟨⟨some 5, Op.assign (Operand.const (Value.int IntKind.i64 0)), none⟩, []⟩]) (.block 0 (.loop (.seq (.seq (.reg [⟨⟨some 7, Op.move (Operand.tmp 5), none⟩, []⟩,
  ⟨⟨some 8, Op.move (Operand.tmp 0), none⟩, []⟩,
  ⟨⟨some 9, Op.call { callee := (Callee.builtin Builtin.len), args := #[(Operand.tmp 8)], argTypes := #[22] }, none⟩, []⟩,
  ⟨⟨some 10, Op.binOp BinOp.lss 3 (Operand.tmp 7) (Operand.tmp 9) 3, none⟩, []⟩]) (.cond (Operand.tmp 10) .skip (.exit 0))) (.seq (.block 1 (.seq (.reg [⟨⟨some 13, Op.move (Operand.tmp 0), none⟩, []⟩,
  ⟨⟨some 14, Op.move (Operand.tmp 5), none⟩, []⟩,
  ⟨⟨some 15, Op.indexAddr 22 (Operand.tmp 13) (Operand.tmp 14), none⟩, []⟩,
  ⟨⟨some 16, Op.load 65 (Operand.tmp 15), none⟩, []⟩,
  ⟨⟨some 6, Op.alloc 65, none⟩, []⟩,
  ⟨⟨none, Op.store 65 (Operand.tmp 6) (Operand.tmp 16), none⟩, []⟩]) (.seq (.reg [⟨⟨some 17, Op.indexAddr 65 (Operand.tmp 6) (Operand.const (Value.int IntKind.i64 0)), none⟩, []⟩,
  ⟨⟨some 18, Op.load 3 (Operand.tmp 17), none⟩, []⟩,
  ⟨⟨some 19, Op.move (Operand.tmp 1), none⟩, []⟩,
  ⟨⟨some 20, Op.binOp BinOp.sub 3 (Operand.tmp 19) (Operand.const (Value.int IntKind.i64 1)) 3, none⟩, []⟩,
  ⟨⟨some 21, Op.call { callee := (Callee.value (Operand.func 37)), args := #[(Operand.tmp 18), (Operand.const (Value.int IntKind.i64 0)), (Operand.tmp 20)], argTypes := #[3, 3, 3] }, none⟩, []⟩,
  ⟨⟨some 22, Op.unOp UnOp.not 4 (Operand.tmp 21), none⟩, []⟩,
  ⟨⟨some 23, Op.move (Operand.tmp 22), none⟩, []⟩,
  ⟨⟨some 24, Op.indexAddr 65 (Operand.tmp 6) (Operand.const (Value.int IntKind.i64 1)), some (23, false)⟩, []⟩,
  ⟨⟨some 25, Op.load 3 (Operand.tmp 24), some (23, false)⟩, []⟩,
  ⟨⟨some 26, Op.move (Operand.tmp 1), some (23, false)⟩, []⟩,
  ⟨⟨some 27, Op.binOp BinOp.sub 3 (Operand.tmp 26) (Operand.const (Value.int IntKind.i64 1)) 3, some (23, false)⟩, []⟩,
  ⟨⟨some 28, Op.call { callee := (Callee.value (Operand.func 37)), args := #[(Operand.tmp 25), (Operand.const (Value.int IntKind.i64 0)), (Operand.tmp 27)], argTypes := #[3, 3, 3] }, some (23, false)⟩, []⟩,
  ⟨⟨some 29, Op.unOp UnOp.not 4 (Operand.tmp 28), some (23, false)⟩, []⟩,
  ⟨⟨some 30, Op.pick (Operand.tmp 23) (Operand.const (Value.bool true)) (Operand.tmp 29), none⟩, []⟩,
  ⟨⟨some 31, Op.move (Operand.tmp 30), none⟩, []⟩,
  ⟨⟨some 32, Op.indexAddr 65 (Operand.tmp 6) (Operand.const (Value.int IntKind.i64 0)), some (31, false)⟩, []⟩,
  ⟨⟨some 33, Op.load 3 (Operand.tmp 32), some (31, false)⟩, []⟩,
  ⟨⟨some 34, Op.indexAddr 65 (Operand.tmp 6) (Operand.const (Value.int IntKind.i64 1)), some (31, false)⟩, []⟩,
  ⟨⟨some 35, Op.load 3 (Operand.tmp 34), some (31, false)⟩, []⟩,
  ⟨⟨some 36, Op.binOp BinOp.geq 3 (Operand.tmp 33) (Operand.tmp 35) 3, some (31, false)⟩, []⟩,
  ⟨⟨some 37, Op.pick (Operand.tmp 31) (Operand.const (Value.bool true)) (Operand.tmp 36), none⟩, []⟩,
  ⟨⟨some 38, Op.move (Operand.tmp 37), none⟩, []⟩,
  ⟨⟨some 39, Op.move (Operand.tmp 5), some (38, false)⟩, []⟩,
  ⟨⟨some 40, Op.binOp BinOp.gtr 3 (Operand.tmp 39) (Operand.const (Value.int IntKind.i64 0)) 3, some (38, false)⟩, []⟩,
  ⟨⟨some 41, Op.move (Operand.tmp 40), some (38, false)⟩, []⟩,
  ⟨⟨some 42, Op.move (Operand.tmp 0), some (41, true)⟩, []⟩,
  ⟨⟨some 43, Op.move (Operand.tmp 5), some (41, true)⟩, []⟩,
  ⟨⟨some 44, Op.binOp BinOp.sub 3 (Operand.tmp 43) (Operand.const (Value.int IntKind.i64 1)) 3, some (41, true)⟩, []⟩,
  ⟨⟨some 45, Op.indexAddr 22 (Operand.tmp 42) (Operand.tmp 44), some (41, true)⟩, []⟩,
  ⟨⟨some 46, Op.load 65 (Operand.tmp 45), some (41, true)⟩, []⟩,
  ⟨⟨some 47, Op.load 65 (Operand.tmp 6), some (41, true)⟩, []⟩,
  ⟨⟨some 48, Op.call { callee := (Callee.value (Operand.func 92)), args := #[(Operand.tmp 46), (Operand.tmp 47)], argTypes := #[65, 65] }, some (41, true)⟩, []⟩,
  ⟨⟨some 49, Op.unOp UnOp.not 4 (Operand.tmp 48), some (41, true)⟩, []⟩,
  ⟨⟨some 50, Op.pick (Operand.tmp 41) (Operand.tmp 49) (Operand.const (Value.bool false)), some (38, false)⟩, []⟩,
  ⟨⟨some 51, Op.pick (Operand.tmp 38) (Operand.const (Value.bool true)) (Operand.tmp 50), none⟩, []⟩]) (.cond (Operand.tmp 51) (.seq (.reg [⟨⟨some 4, Op.assign (Operand.const (Value.bool false)), none⟩, []⟩]) .ret) .skip)))) (.reg [⟨⟨some 11, Op.move (Operand.tmp 5), none⟩, []⟩,
  ⟨⟨some 12, Op.binOp BinOp.add 3 (Operand.tmp 11) (Operand.const (Value.int IntKind.i64 1)) 3, none⟩, []⟩,
  ⟨⟨some 5, Op.assign (Operand.tmp 12), none⟩, []⟩])))))) (.seq (.reg [⟨⟨some 4, Op.assign (Operand.const (Value.bool true)), none⟩, []⟩]) .ret)))
theorem sl73 : slim Try.f73.ntmps ords73 (Try.f73.body.getD .skip) = some cd73 := by kernel_rfl
theorem in73 {args : List Value} {H : AH} {R : Value → AH → Prop} (hl : args.length = 2) (h : ∀ (Q : Exit → Sl → AH → Prop), (∀ e s H, endA Try.prog [ResultVar.tmp 4] R e s H → Q e s H) → wpC Try.prog cd73 Q (enterA args) H) : ACalls Try.prog 73 args H R :=
  ACalls.intro (by kernel_rfl) Try.func73 rfl (by kernel_rfl) sl73 hl (of_decide_eq_true (by kernel_rfl)) (by kernel_rfl) h
def ords65 : List (Nat × List (Nat × Bool)) := [(4, [(0, false), (1, false), (2, false), (3, false), (4, false), (5, false), (6, false), (7, false), (8, false), (9, false), (10, false), (11, false), (12, false), (13, false), (14, false), (15, false), (16, false), (17, false), (18, false), (19, false), (20, false), (21, false), (22, false), (23, false), (24, false), (25, false), (26, true), (27, false), (28, false), (29, false)])]
def cd65 : Cd := (.seq (.reg [⟨⟨some 4, Op.assign (Operand.const (Value.bool false)), none⟩, []⟩]) (.seq (.seq (.reg [⟨⟨some 7, Op.move (Operand.tmp 0), none⟩, []⟩,
  ⟨⟨some 8, Op.call { callee := (Callee.builtin Builtin.len), args := #[(Operand.tmp 7)], argTypes := #[22] }, none⟩, []⟩,
  ⟨⟨some 9, Op.move (Operand.const (Value.int IntKind.i64 0)), none⟩, []⟩]) (.block 0 (.loop (.seq (.reg [⟨⟨some 10, Op.binOp BinOp.lss 3 (Operand.tmp 9) (Operand.tmp 8) 3, none⟩, []⟩]) (.seq (.cond (Operand.tmp 10) .skip (.exit 0)) (.seq (.block 1 (.seq (.reg [⟨⟨some 11, Op.move (Operand.tmp 9), none⟩, []⟩,
  ⟨⟨some 12, Op.indexAddr 22 (Operand.tmp 7) (Operand.tmp 9), none⟩, []⟩,
  ⟨⟨some 13, Op.load 65 (Operand.tmp 12), none⟩, []⟩,
  ⟨⟨some 6, Op.alloc 65, none⟩, []⟩,
  ⟨⟨some 5, Op.assign (Operand.tmp 11), none⟩, []⟩,
  ⟨⟨none, Op.store 65 (Operand.tmp 6) (Operand.tmp 13), none⟩, []⟩]) (.seq (.reg [⟨⟨some 14, Op.indexAddr 65 (Operand.tmp 6) (Operand.const (Value.int IntKind.i64 0)), none⟩, []⟩,
  ⟨⟨some 15, Op.load 3 (Operand.tmp 14), none⟩, []⟩,
  ⟨⟨some 16, Op.binOp BinOp.lss 3 (Operand.tmp 15) (Operand.const (Value.int IntKind.i64 0)) 3, none⟩, []⟩,
  ⟨⟨some 17, Op.move (Operand.tmp 16), none⟩, []⟩,
  ⟨⟨some 18, Op.indexAddr 65 (Operand.tmp 6) (Operand.const (Value.int IntKind.i64 0)), some (17, false)⟩, []⟩,
  ⟨⟨some 19, Op.load 3 (Operand.tmp 18), some (17, false)⟩, []⟩,
  ⟨⟨some 20, Op.indexAddr 65 (Operand.tmp 6) (Operand.const (Value.int IntKind.i64 1)), some (17, false)⟩, []⟩,
  ⟨⟨some 21, Op.load 3 (Operand.tmp 20), some (17, false)⟩, []⟩,
  ⟨⟨some 22, Op.binOp BinOp.geq 3 (Operand.tmp 19) (Operand.tmp 21) 3, some (17, false)⟩, []⟩,
  ⟨⟨some 23, Op.pick (Operand.tmp 17) (Operand.const (Value.bool true)) (Operand.tmp 22), none⟩, []⟩,
  ⟨⟨some 24, Op.move (Operand.tmp 23), none⟩, []⟩,
  ⟨⟨some 25, Op.indexAddr 65 (Operand.tmp 6) (Operand.const (Value.int IntKind.i64 1)), some (24, false)⟩, []⟩,
  ⟨⟨some 26, Op.load 3 (Operand.tmp 25), some (24, false)⟩, []⟩,
  ⟨⟨some 27, Op.move (Operand.tmp 1), some (24, false)⟩, []⟩,
  ⟨⟨some 28, Op.binOp BinOp.geq 3 (Operand.tmp 26) (Operand.tmp 27) 3, some (24, false)⟩, []⟩,
  ⟨⟨some 29, Op.pick (Operand.tmp 24) (Operand.const (Value.bool true)) (Operand.tmp 28), none⟩, []⟩,
  ⟨⟨some 30, Op.move (Operand.tmp 29), none⟩, []⟩,
  ⟨⟨some 31, Op.move (Operand.tmp 5), some (30, false)⟩, []⟩,
  ⟨⟨some 32, Op.binOp BinOp.gtr 3 (Operand.tmp 31) (Operand.const (Value.int IntKind.i64 0)) 3, some (30, false)⟩, []⟩,
  ⟨⟨some 33, Op.move (Operand.tmp 32), some (30, false)⟩, []⟩,
  ⟨⟨some 34, Op.move (Operand.tmp 0), some (33, true)⟩, []⟩,
  ⟨⟨some 35, Op.move (Operand.tmp 5), some (33, true)⟩, []⟩,
  ⟨⟨some 36, Op.binOp BinOp.sub 3 (Operand.tmp 35) (Operand.const (Value.int IntKind.i64 1)) 3, some (33, true)⟩, []⟩,
  ⟨⟨some 37, Op.indexAddr 22 (Operand.tmp 34) (Operand.tmp 36), some (33, true)⟩, []⟩,
  ⟨⟨some 38, Op.load 65 (Operand.tmp 37), some (33, true)⟩, []⟩,
  ⟨⟨some 39, Op.load 65 (Operand.tmp 6), some (33, true)⟩, []⟩,
  ⟨⟨some 40, Op.call { callee := (Callee.value (Operand.func 78)), args := #[(Operand.tmp 38), (Operand.tmp 39)], argTypes := #[65, 65] }, some (33, true)⟩, []⟩,
  ⟨⟨some 41, Op.binOp BinOp.geq 3 (Operand.tmp 40) (Operand.const (Value.int IntKind.i64 0)) 3, some (33, true)⟩, []⟩,
  ⟨⟨some 42, Op.pick (Operand.tmp 33) (Operand.tmp 41) (Operand.const (Value.bool false)), some (30, false)⟩, []⟩,
  ⟨⟨some 43, Op.pick (Operand.tmp 30) (Operand.const (Value.bool true)) (Operand.tmp 42), none⟩, []⟩]) (.cond (Operand.tmp 43) (.seq (.reg [⟨⟨some 4, Op.assign (Operand.const (Value.bool false)), none⟩, []⟩]) .ret) .skip)))) (.reg [⟨⟨some 44, Op.binOp BinOp.add 3 (Operand.tmp 9) (Operand.const (Value.int IntKind.i64 1)) 3, none⟩, []⟩,
  ⟨⟨some 9, Op.move (Operand.tmp 44), none⟩, []⟩]))))))) (.seq (.reg [⟨⟨some 4, Op.assign (Operand.const (Value.bool true)), none⟩, []⟩]) .ret)))
theorem sl65 : slim Try.f65.ntmps ords65 (Try.f65.body.getD .skip) = some cd65 := by kernel_rfl
theorem in65 {args : List Value} {H : AH} {R : Value → AH → Prop} (hl : args.length = 2) (h : ∀ (Q : Exit → Sl → AH → Prop), (∀ e s H, endA Try.prog [ResultVar.tmp 4] R e s H → Q e s H) → wpC Try.prog cd65 Q (enterA args) H) : ACalls Try.prog 65 args H R :=
  ACalls.intro (by kernel_rfl) Try.func65 rfl (by kernel_rfl) sl65 hl (of_decide_eq_true (by kernel_rfl)) (by kernel_rfl) h
def ords61 : List (Nat × List (Nat × Bool)) := []
def cd61 : Cd := (.seq (.reg [⟨⟨some 1, Op.box 32 (Operand.tmp 0), none⟩, []⟩,
  ⟨⟨some 2, Op.assign (Operand.const (Value.bool false)), none⟩, []⟩]) (.seq (.reg [⟨⟨some 3, Op.fieldAddr 32 (Operand.tmp 1) 0, none⟩, []⟩,
  ⟨⟨some 4, Op.load 3 (Operand.tmp 3), none⟩, []⟩,
  ⟨⟨some 5, Op.call { callee := (Callee.value (Operand.func 37)), args := #[(Operand.tmp 4), (Operand.const (Value.int IntKind.i64 0)), (Operand.const (Value.int IntKind.i64 8))], argTypes := #[3, 3, 3] }, none⟩, []⟩,
  ⟨⟨some 6, Op.move (Operand.tmp 5), none⟩, []⟩,
  ⟨⟨some 7, Op.fieldAddr 32 (Operand.tmp 1) 1, some (6, true)⟩, []⟩,
  ⟨⟨some 8, Op.load 22 (Operand.tmp 7), some (6, true)⟩, []⟩,
  ⟨⟨some 9, Op.fieldAddr 32 (Operand.tmp 1) 0, some (6, true)⟩, []⟩,
  ⟨⟨some 10, Op.load 3 (Operand.tmp 9), some (6, true)⟩, []⟩,
  ⟨⟨some 11, Op.call { callee := (Callee.value (Operand.func 73)), args := #[(Operand.tmp 8), (Operand.tmp 10)], argTypes := #[22, 3] }, some (6, true)⟩, []⟩,
  ⟨⟨some 12, Op.pick (Operand.tmp 6) (Operand.tmp 11) (Operand.const (Value.bool false)), none⟩, []⟩,
  ⟨⟨some 2, Op.assign (Operand.tmp 12), none⟩, []⟩]) .ret))
theorem sl61 : slim Try.f61.ntmps ords61 (Try.f61.body.getD .skip) = some cd61 := by kernel_rfl
theorem in61 {args : List Value} {H : AH} {R : Value → AH → Prop} (hl : args.length = 1) (h : ∀ (Q : Exit → Sl → AH → Prop), (∀ e s H, endA Try.prog [ResultVar.tmp 2] R e s H → Q e s H) → wpC Try.prog cd61 Q (enterA args) H) : ACalls Try.prog 61 args H R :=
  ACalls.intro (by kernel_rfl) Try.func61 rfl (by kernel_rfl) sl61 hl (of_decide_eq_true (by kernel_rfl)) (by kernel_rfl) h
def ords45 : List (Nat × List (Nat × Bool)) := []
def cd45 : Cd := (.seq (.reg [⟨⟨some 1, Op.box 32 (Operand.tmp 0), none⟩, []⟩,
  ⟨⟨some 2, Op.assign (Operand.const (Value.bool false)), none⟩, []⟩]) (.seq (.reg [⟨⟨some 3, Op.fieldAddr 32 (Operand.tmp 1) 0, none⟩, []⟩,
  ⟨⟨some 4, Op.load 3 (Operand.tmp 3), none⟩, []⟩,
  ⟨⟨some 5, Op.call { callee := (Callee.value (Operand.func 48)), args := #[(Operand.tmp 4), (Operand.const (Value.int IntKind.i64 0)), (Operand.const (Value.int IntKind.i64 8))], argTypes := #[3, 3, 3] }, none⟩, []⟩,
  ⟨⟨some 6, Op.move (Operand.tmp 5), none⟩, []⟩,
  ⟨⟨some 7, Op.fieldAddr 32 (Operand.tmp 1) 1, some (6, true)⟩, []⟩,
  ⟨⟨some 8, Op.load 22 (Operand.tmp 7), some (6, true)⟩, []⟩,
  ⟨⟨some 9, Op.fieldAddr 32 (Operand.tmp 1) 0, some (6, true)⟩, []⟩,
  ⟨⟨some 10, Op.load 3 (Operand.tmp 9), some (6, true)⟩, []⟩,
  ⟨⟨some 11, Op.call { callee := (Callee.value (Operand.func 65)), args := #[(Operand.tmp 8), (Operand.tmp 10)], argTypes := #[22, 3] }, some (6, true)⟩, []⟩,
  ⟨⟨some 12, Op.pick (Operand.tmp 6) (Operand.tmp 11) (Operand.const (Value.bool false)), none⟩, []⟩,
  ⟨⟨some 2, Op.assign (Operand.tmp 12), none⟩, []⟩]) .ret))
theorem sl45 : slim Try.f45.ntmps ords45 (Try.f45.body.getD .skip) = some cd45 := by kernel_rfl
theorem in45 {args : List Value} {H : AH} {R : Value → AH → Prop} (hl : args.length = 1) (h : ∀ (Q : Exit → Sl → AH → Prop), (∀ e s H, endA Try.prog [ResultVar.tmp 2] R e s H → Q e s H) → wpC Try.prog cd45 Q (enterA args) H) : ACalls Try.prog 45 args H R :=
  ACalls.intro (by kernel_rfl) Try.func45 rfl (by kernel_rfl) sl45 hl (of_decide_eq_true (by kernel_rfl)) (by kernel_rfl) h
end Go.Proofs.Ytlcipphiflcaiaa.Ai
namespace Go.Proofs.Ytlcipphiflcaiaa.Ai
open Go Go.RowKit
set_option linter.unusedVariables false
set_option linter.unusedSimpArgs false
/-- pairs in order -/
def pairLt (p q : Int × Int) : Prop := p.1 < q.1 ∨ p.1 = q.1 ∧ p.2 < q.2
instance (p q : Int × Int) : Decidable (pairLt p q) := by unfold pairLt; infer_instance
def prOk (n : Int) (ps : List (Int × Int)) (i : Nat) : Prop :=
  0 ≤ (ps.getD i (0, 0)).1 ∧ (ps.getD i (0, 0)).1 < (ps.getD i (0, 0)).2 ∧ (ps.getD i (0, 0)).2 < n ∧ (0 < i → pairLt (ps.getD (i - 1) (0, 0)) (ps.getD i (0, 0)))
instance (n : Int) (ps : List (Int × Int)) (i : Nat) : Decidable (prOk n ps i) := by unfold prOk; infer_instance
def PrU (n : Int) (ps : List (Int × Int)) (k : Nat) : Prop := ∀ i, i < k → prOk n ps i
instance (n : Int) (ps : List (Int × Int)) (k : Nat) : Decidable (PrU n ps k) := by unfold PrU; infer_instance
def Grd (n : Int) (ps : List (Int × Int)) : Prop := (0 ≤ n ∧ n ≤ 8) ∧ PrU n ps ps.length
instance (n : Int) (ps : List (Int × Int)) : Decidable (Grd n ps) := by unfold Grd; infer_instance
theorem PrU.zero (n : Int) (ps : List (Int × Int)) : PrU n ps 0 := fun i h => absurd h (Nat.not_lt_zero i)
theorem PrU.succ {n : Int} {ps : List (Int × Int)} {k : Nat} (h : PrU n ps k) (h2 : prOk n ps k) : PrU n ps (k + 1) := by
  intro i hi
  rcases Nat.lt_succ_iff_lt_or_eq.1 hi with g | g
  · exact h i g
  · rw [g]; exact h2
theorem PrU.no {n : Int} {ps : List (Int × Int)} {k i : Nat} (hi : i < k) (h : ¬ prOk n ps i) : ¬ PrU n ps k := fun g => h (g i hi)
theorem l2Edge_c (p q : Int × Int) (H : AH) : ACalls Try.prog 92 [.agg (List.toArray [.int .i64 p.1, .int .i64 p.2]), .agg (List.toArray [.int .i64 q.1, .int .i64 q.2])] H fun r H' => r = .bool (decide (pairLt p q)) ∧ H <+: H' := by
  refine in92 rfl ?_
  intro Q hQ
  simp (maxSteps := 1000000) (disch := omega) only [cd92, box_a2, S, S1, S2, S3, S4, S5, ST, eq_self, reduceIte, reduceCtorEq, Nat.reduceEqDiff, Nat.reduceAdd]
  generalize hA : H ++ [AObj.cells [.int .i64 p.1, .int .i64 p.2] 65 false] = A
  have pA : H <+: A := by rw [← hA]; exact List.prefix_append _ _
  have a0 : A[H.length]? = some (.cells [.int .i64 p.1, .int .i64 p.2] 65 false) := by rw [← hA]; exact at_new ..
  generalize hB : A ++ [AObj.cells [.int .i64 q.1, .int .i64 q.2] 65 false] = B
  have pB : A <+: B := by rw [← hB]; exact List.prefix_append _ _
  have b0 := pre_at pB a0
  have b1 : B[A.length]? = some (.cells [.int .i64 q.1, .int .i64 q.2] 65 false) := by rw [← hB]; exact at_new ..
  have pHB := pA.trans pB
  simp (maxSteps := 1000000) (disch := omega) only [cell_of b0, cell_of b1, S, S1, S2, S3, S4, S5, ST, eq_self, reduceIte, reduceCtorEq, Nat.reduceEqDiff, Nat.reduceAdd]
  refine brD.intro (fun e1 => ?_) (fun e1 => ?_) <;> simp (maxSteps := 1000000) (disch := omega) only [e1, cell_of b0, cell_of b1, S, S1, S2, S3, S4, S5, ST, eq_self, reduceIte, reduceCtorEq, Nat.reduceEqDiff, Nat.reduceAdd]
  · refine hQ _ _ _ ?_
    simp (maxSteps := 1000000) (disch := omega) only [e1, S, S1, S2, S3, S4, S5, ST, eq_self, reduceIte, reduceCtorEq, Nat.reduceEqDiff, Nat.reduceAdd]
    exact ⟨by rw [decide_eq_true (show pairLt p q from .inl e1)], pHB⟩
  · refine brD.intro (fun e2 => ?_) (fun e2 => ?_) <;> simp (maxSteps := 1000000) (disch := omega) only [e1, e2, cell_of b0, cell_of b1, S, S1, S2, S3, S4, S5, ST, eq_self, reduceIte, reduceCtorEq, Nat.reduceEqDiff, Nat.reduceAdd]
    · refine hQ _ _ _ ?_
      simp (maxSteps := 1000000) (disch := omega) only [e1, e2, S, S1, S2, S3, S4, S5, ST, eq_self, reduceIte, reduceCtorEq, Nat.reduceEqDiff, Nat.reduceAdd]
      have : pairLt p q ↔ p.2 < q.2 := by unfold pairLt; omega
      exact ⟨by simp [this], pHB⟩
    · refine hQ _ _ _ ?_
      simp (maxSteps := 1000000) (disch := omega) only [e1, e2, S, S1, S2, S3, S4, S5, ST, eq_self, reduceIte, reduceCtorEq, Nat.reduceEqDiff, Nat.reduceAdd]
      have : ¬ pairLt p q := by unfold pairLt; omega
      exact ⟨by simp [this], pHB⟩
def cmpI (a b : Int) : Int := if a < b then -1 else if b < a then 1 else 0
def cmpP (p q : Int × Int) : Int := if cmpI p.1 q.1 ≠ 0 then cmpI p.1 q.1 else cmpI p.2 q.2
theorem cmpP_ge (p q : Int × Int) : (0 ≤ cmpP p q) ↔ ¬ pairLt p q := by
  unfold cmpP cmpI pairLt
  repeat' split
  all_goals omega
theorem Compare_c (a b : Int) (H : AH) : ACalls Try.prog 70 [.int .i64 a, .int .i64 b] H fun r H' => r = .int .i64 (cmpI a b) ∧ H = H' := by
  refine in70 rfl ?_
  intro Q hQ
  simp (maxSteps := 1000000) (disch := omega) only [cd70, S, S1, S2, S3, S4, S5, ST, eq_self, reduceIte, reduceCtorEq, Nat.reduceEqDiff, Nat.reduceAdd]
  refine CallH.by (isNaN_c a H) ?_
  rintro _ _ ⟨rfl, rfl⟩
  simp (maxSteps := 1000000) (disch := omega) only [S, S1, S2, S3, S4, S5, ST, eq_self, reduceIte, reduceCtorEq, Nat.reduceEqDiff, Nat.reduceAdd]
  refine CallH.by (isNaN_c b H) ?_
  rintro _ _ ⟨rfl, rfl⟩
  simp (maxSteps := 1000000) (disch := omega) only [S, S1, S2, S3, S4, S5, ST, eq_self, reduceIte, reduceCtorEq, Nat.reduceEqDiff, Nat.reduceAdd]
  refine brD.intro (fun e => ?_) (fun e => ?_) <;> simp (maxSteps := 1000000) (disch := omega) only [e, S, S1, S2, S3, S4, S5, ST, eq_self, reduceIte, reduceCtorEq, Nat.reduceEqDiff, Nat.reduceAdd]
  · refine hQ _ _ _ ?_
    simp (maxSteps := 1000000) (disch := omega) only [cmpI, e, S, S1, S2, S3, S4, S5, ST, eq_self, reduceIte, reduceCtorEq, Nat.reduceEqDiff, Nat.reduceAdd]
  · refine brD.intro (fun e2 => ?_) (fun e2 => ?_) <;> simp (maxSteps := 1000000) (disch := omega) only [e, e2, S, S1, S2, S3, S4, S5, ST, eq_self, reduceIte, reduceCtorEq, Nat.reduceEqDiff, Nat.reduceAdd]
    · refine hQ _ _ _ ?_
      simp (maxSteps := 1000000) (disch := omega) only [cmpI, e, e2, S, S1, S2, S3, S4, S5, ST, eq_self, reduceIte, reduceCtorEq, Nat.reduceEqDiff, Nat.reduceAdd]
    · refine hQ _ _ _ ?_
      simp (maxSteps := 1000000) (disch := omega) only [cmpI, e, e2, S, S1, S2, S3, S4, S5, ST, eq_self, reduceIte, reduceCtorEq, Nat.reduceEqDiff, Nat.reduceAdd]
theorem Or_c (a b : Int) (o : Nat) (H : AH) (ho : H[o]? = some (.cells (ints [a, b]) 3 false)) : ACalls Try.prog 94 [.slice (some ⟨o, 0, none⟩) 2 2] H fun r H' => r = .int .i64 (if a ≠ 0 then a else b) ∧ H = H' := by
  refine in94 rfl ?_
  intro Q hQ
  simp (maxSteps := 1000000) (disch := omega) only [cd94, S, S1, S2, S3, S4, S5, ST, eq_self, reduceIte, reduceCtorEq, Nat.reduceEqDiff, Nat.reduceAdd]
  refine LoopH.by (fun m s H' => ∃ i, m + i = 2 ∧ s 0 = .slice (some ⟨o, 0, none⟩) 2 2 ∧ s 3 = .int .i64 0 ∧ s 6 = .slice (some ⟨o, 0, none⟩) 2 2 ∧ s 7 = .int .i64 2 ∧ s 8 = .int .i64 ((i : Nat) : Int) ∧ H = H' ∧ ∀ j, j < i → [a, b].getD j 0 = 0) 2 ?_ ?_
  · exact ⟨0, rfl, rfl, rfl, rfl, rfl, rfl, rfl, fun j hj => absurd hj (Nat.not_lt_zero j)⟩
  · rintro m s H' ⟨i, hm, h0, h3, h6, h7, h8, rfl, hz⟩
    simp (maxSteps := 1000000) (disch := omega) only [h0, h3, h6, h7, h8, S, S1, S2, S3, S4, S5, ST, eq_self, reduceIte, reduceCtorEq, Nat.reduceEqDiff, Nat.reduceAdd]
    refine brD.intro (fun g => ?_) (fun g => ?_)
    · have hi : i < [a, b].length := by show i < 2; omega
      simp (maxSteps := 1000000) (disch := omega) only [h0, h3, h6, h7, h8, Int.toNat_natCast, Nat.zero_add, cell_ints ho hi, S, S1, S2, S3, S4, S5, ST, eq_self, reduceIte, reduceCtorEq, Nat.reduceEqDiff, Nat.reduceAdd]
      refine brD.intro (fun e => ?_) (fun e => ?_) <;> simp (maxSteps := 1000000) (disch := omega) only [h0, h3, h6, h7, h8, e, wrap64, S, S1, S2, S3, S4, S5, ST, eq_self, reduceIte, reduceCtorEq, Nat.reduceEqDiff, Nat.reduceAdd]
      · refine hQ _ _ _ ?_
        simp (maxSteps := 1000000) (disch := omega) only [S, S1, S2, S3, S4, S5, ST, eq_self, reduceIte, reduceCtorEq, Nat.reduceEqDiff, Nat.reduceAdd]
        have : i = 0 ∨ i = 1 := by omega
        rcases this with rfl | rfl
        · have e' : a ≠ 0 := e
          simp [e']
        · have e1 : a = 0 := hz 0 (by omega)
          simp [e1]
      · have f1 : ∀ j, j < i + 1 → [a, b].getD j 0 = 0 := by
          intro j hj
          rcases Nat.lt_succ_iff_lt_or_eq.1 hj with h | h
          · exact hz j h
          · rw [h]; exact Decidable.not_not.1 e
        refine ⟨m - 1, by omega, i + 1, ?_⟩
        (repeat' apply And.intro) <;> first | exact f1 | (simp only [Value.int.injEq, true_and]; omega) | omega | rfl | assumption | (simp; done) | (simp; omega)
    · simp (maxSteps := 1000000) (disch := omega) only [h3, S, S1, S2, S3, S4, S5, ST, eq_self, reduceIte, reduceCtorEq, Nat.reduceEqDiff, Nat.reduceAdd]
      refine hQ _ _ _ ?_
      simp (maxSteps := 1000000) (disch := omega) only [h3, S, S1, S2, S3, S4, S5, ST, eq_self, reduceIte, reduceCtorEq, Nat.reduceEqDiff, Nat.reduceAdd]
      have e1 : a = 0 := hz 0 (by omega)
      have e2 : b = 0 := hz 1 (by omega)
      simp [e1, e2]
set_option maxRecDepth 20000 in
theorem comparePairs_c (p q : Int × Int) (H : AH) : ACalls Try.prog 78 [.agg (List.toArray [.int .i64 p.1, .int .i64 p.2]), .agg (List.toArray [.int .i64 q.1, .int .i64 q.2])] H fun r H' => r = .int .i64 (cmpP p q) ∧ H <+: H' := by
  refine in78 rfl ?_
  intro Q hQ
  simp (maxSteps := 1000000) (disch := omega) only [cd78, box_a2, S, S1, S2, S3, S4, S5, ST, eq_self, reduceIte, reduceCtorEq, Nat.reduceEqDiff, Nat.reduceAdd]
  generalize hA : H ++ [AObj.cells [.int .i64 p.1, .int .i64 p.2] 65 false] = A
  have pA : H <+: A := by rw [← hA]; exact List.prefix_append _ _
  have a0 : A[H.length]? = some (.cells [.int .i64 p.1, .int .i64 p.2] 65 false) := by rw [← hA]; exact at_new ..
  generalize hB : A ++ [AObj.cells [.int .i64 q.1, .int .i64 q.2] 65 false] = B
  have pB : A <+: B := by rw [← hB]; exact List.prefix_append _ _
  have b0 := pre_at pB a0
  have b1 : B[A.length]? = some (.cells [.int .i64 q.1, .int .i64 q.2] 65 false) := by rw [← hB]; exact at_new ..
  have pHB := pA.trans pB
  simp (maxSteps := 1000000) (disch := omega) only [cell_of b0, cell_of b1, S, S1, S2, S3, S4, S5, ST, eq_self, reduceIte, reduceCtorEq, Nat.reduceEqDiff, Nat.reduceAdd]
  refine CallH.by (Compare_c p.1 q.1 B) ?_
  rintro _ _ ⟨rfl, rfl⟩
  simp (maxSteps := 1000000) (disch := omega) only [cell_of b0, cell_of b1, S, S1, S2, S3, S4, S5, ST, eq_self, reduceIte, reduceCtorEq, Nat.reduceEqDiff, Nat.reduceAdd]
  refine CallH.by (Compare_c p.2 q.2 B) ?_
  rintro _ _ ⟨rfl, rfl⟩
  simp (maxSteps := 1000000) (disch := omega) only [S, S1, S2, S3, S4, S5, ST, eq_self, reduceIte, reduceCtorEq, Nat.reduceEqDiff, Nat.reduceAdd]
  refine CallH.by (Or_c (cmpI p.1 q.1) (cmpI p.2 q.2) B.length _ (at_new ..)) ?_
  rintro _ _ ⟨rfl, rfl⟩
  simp (maxSteps := 1000000) (disch := omega) only [S, S1, S2, S3, S4, S5, ST, eq_self, reduceIte, reduceCtorEq, Nat.reduceEqDiff, Nat.reduceAdd]
  refine hQ _ _ _ ?_
  simp (maxSteps := 1000000) (disch := omega) only [cmpP, S, S1, S2, S3, S4, S5, ST, eq_self, reduceIte, reduceCtorEq, Nat.reduceEqDiff, Nat.reduceAdd]
  exact pre_app pHB _
set_option maxRecDepth 20000 in
set_option maxHeartbeats 4000000 in
theorem l2Pairs_c (v : Value) (n : Int) (ps : List (Int × Int)) (H : AH) (hr : RowP 65 H v ps) (hlen : ps.length ≤ 1099511627776) (hn : 0 ≤ n ∧ n ≤ 8) :
    ACalls Try.prog 73 [v, .int .i64 n] H fun r H' => r = .bool (decide (PrU n ps ps.length)) ∧ H <+: H' := by
  refine in73 rfl ?_
  intro Q hQ
  simp (maxSteps := 1000000) (disch := omega) only [cd73, S, S1, S2, S3, S4, S5, ST, eq_self, reduceIte, reduceCtorEq, Nat.reduceEqDiff, Nat.reduceAdd]
  refine LoopH.by (fun m s H' => ∃ i, m + i = ps.length ∧ s 0 = v ∧ s 1 = .int .i64 n ∧ s 5 = .int .i64 ((i : Nat) : Int) ∧ H <+: H' ∧ PrU n ps i) ps.length ?_ ?_
  · exact ⟨0, by simp, rfl, rfl, rfl, List.prefix_refl _, PrU.zero _ _⟩
  · rintro m s H' ⟨i, hm, h0, h1, h5, hp, hu⟩
    have hr' := hr.pre hp
    simp (maxSteps := 1000000) (disch := omega) only [h0, h1, h5, hr'.len Try.underlying22, S, S1, S2, S3, S4, S5, ST, eq_self, reduceIte, reduceCtorEq, Nat.reduceEqDiff, Nat.reduceAdd]
    refine brD.intro (fun g => ?_) (fun g => ?_)
    · have hi : i < ps.length := by omega
      have hst0 := store_a2 H' [.int .i64 0, .int .i64 0] rfl
      simp (maxSteps := 1000000) (disch := omega) only [h0, h1, h5, hr'.ix Try.underlying22 cs65, Int.toNat_natCast, hr'.ld ag65 cs65 hi, alloc_a2, hst0, cell_new, wrap64, S, S1, S2, S3, S4, S5, ST, eq_self, reduceIte, reduceCtorEq, Nat.reduceEqDiff, Nat.reduceAdd]
      generalize hB : H' ++ [AObj.cells [.int .i64 (ps.getD i (0, 0)).1, .int .i64 (ps.getD i (0, 0)).2] 65 false] = B
      have pB : H' <+: B := by rw [← hB]; exact List.prefix_append _ _
      have b0 : B[H'.length]? = some (.cells [.int .i64 (ps.getD i (0, 0)).1, .int .i64 (ps.getD i (0, 0)).2] 65 false) := by rw [← hB]; exact at_new ..
      have hrB := hr'.pre pB
      refine CallH.by (l1In_c _ _ _ B) ?_
      rintro _ _ ⟨rfl, rfl⟩
      simp (maxSteps := 1000000) (disch := omega) only [cell_of b0, wrap64, S, S1, S2, S3, S4, S5, ST, eq_self, reduceIte, reduceCtorEq, Nat.reduceEqDiff, Nat.reduceAdd]
      have hBp := hp.trans pB
      have e0 : ((i : Int) - 1).toNat = i - 1 := by omega
      have ok2 : prOk n ps i → PrU n ps (i + 1) := fun h => hu.succ h
      have bad : ¬ prOk n ps i → ∀ G, H <+: G → decide (PrU n ps ps.length) = false ∧ H <+: G := fun h G hG => ⟨decide_eq_false (PrU.no hi h), hG⟩
      have hld1 : 0 < i → loadA Try.prog 65 (.pointer (some ⟨rowO v, rowK v + 2 * (i - 1), none⟩)) B = some (.agg (List.toArray [.int .i64 (ps.getD (i - 1) (0, 0)).1, .int .i64 (ps.getD (i - 1) (0, 0)).2])) := fun h => hrB.ld ag65 cs65 (by omega)
      unfold prOk at ok2 bad
      generalize hx : ps.getD i (0, 0) = x at *
      generalize hy : ps.getD (i - 1) (0, 0) = y at *
      refine brD.intro (fun e1 => ?_) (fun e1 => ?_)
      · simp (maxSteps := 1000000) (disch := omega) only [e1, cell_of b0, h0, h1, h5, wrap64, S, S1, S2, S3, S4, S5, ST, eq_self, reduceIte, reduceCtorEq, Nat.reduceEqDiff, Nat.reduceAdd]
        refine CallH.by (l1In_c _ _ _ B) ?_
        rintro _ _ ⟨rfl, rfl⟩
        simp (maxSteps := 1000000) (disch := omega) only [e1, cell_of b0, h0, h1, h5, wrap64, S, S1, S2, S3, S4, S5, ST, eq_self, reduceIte, reduceCtorEq, Nat.reduceEqDiff, Nat.reduceAdd]
        refine brD.intro (fun e2 => ?_) (fun e2 => ?_)
        · simp (maxSteps := 1000000) (disch := omega) only [e1, e2, cell_of b0, h0, h1, h5, wrap64, S, S1, S2, S3, S4, S5, ST, eq_self, reduceIte, reduceCtorEq, Nat.reduceEqDiff, Nat.reduceAdd]
          refine brD.intro (fun e3 => ?_) (fun e3 => ?_) <;> simp (maxSteps := 1000000) (disch := omega) only [e1, e2, e3, cell_of b0, h0, h1, h5, wrap64, S, S1, S2, S3, S4, S5, ST, eq_self, reduceIte, reduceCtorEq, Nat.reduceEqDiff, Nat.reduceAdd]
          · refine hQ _ _ _ ?_
            simp (maxSteps := 1000000) (disch := omega) only [S, S1, S2, S3, S4, S5, ST, eq_self, reduceIte, reduceCtorEq, Nat.reduceEqDiff, Nat.reduceAdd]
            obtain ⟨q1, q2⟩ := bad (by omega) _ hBp
            rw [q1]
            exact ⟨rfl, q2⟩
          · refine brD.intro (fun e4 => ?_) (fun e4 => ?_) <;> simp (maxSteps := 1000000) (disch := omega) only [e1, e2, e3, e4, h0, h1, h5, wrap64, S, S1, S2, S3, S4, S5, ST, eq_self, reduceIte, reduceCtorEq, Nat.reduceEqDiff, Nat.reduceAdd]
            · have hi1 : 0 < i := by omega
              simp (maxSteps := 1000000) (disch := omega) only [e1, e2, e3, e4, e0, h0, h1, h5, hrB.ix Try.underlying22 cs65, hld1 hi1, ld_a2 b0, wrap64, S, S1, S2, S3, S4, S5, ST, eq_self, reduceIte, reduceCtorEq, Nat.reduceEqDiff, Nat.reduceAdd]
              refine CallH.by (l2Edge_c y x B) ?_
              rintro _ C ⟨rfl, pC⟩
              have hCp := hBp.trans pC
              simp (maxSteps := 1000000) (disch := omega) only [e1, e2, e3, e4, S, S1, S2, S3, S4, S5, ST, eq_self, reduceIte, reduceCtorEq, Nat.reduceEqDiff, Nat.reduceAdd]
              refine brD.intro (fun e5 => ?_) (fun e5 => ?_) <;> simp (maxSteps := 1000000) (disch := omega) only [e1, e2, e3, e4, e5, h0, h1, h5, wrap64, S, S1, S2, S3, S4, S5, ST, eq_self, reduceIte, reduceCtorEq, Nat.reduceEqDiff, Nat.reduceAdd]
              · have f1 := ok2 ⟨e1.1, by omega, by omega, fun _ => e5⟩
                refine ⟨m - 1, by omega, i + 1, ?_⟩
                (repeat' first | exact f1 | exact hCp | apply And.intro) <;> first | (simp only [Value.int.injEq, true_and]; omega) | omega | rfl | assumption | (simp; done) | (simp; omega)
              · refine hQ _ _ _ ?_
                simp (maxSteps := 1000000) (disch := omega) only [S, S1, S2, S3, S4, S5, ST, eq_self, reduceIte, reduceCtorEq, Nat.reduceEqDiff, Nat.reduceAdd]
                obtain ⟨q1, q2⟩ := bad (fun h => e5 (h.2.2.2 hi1)) _ hCp
                rw [q1]
                exact ⟨rfl, q2⟩
            · have f1 := ok2 ⟨e1.1, by omega, by omega, fun h => absurd h (by omega)⟩
              refine ⟨m - 1, by omega, i + 1, ?_⟩
              (repeat' first | exact f1 | exact hBp | apply And.intro) <;> first | (simp only [Value.int.injEq, true_and]; omega) | omega | rfl | assumption | (simp; done) | (simp; omega)
        · simp (maxSteps := 1000000) (disch := omega) only [e1, e2, S, S1, S2, S3, S4, S5, ST, eq_self, reduceIte, reduceCtorEq, Nat.reduceEqDiff, Nat.reduceAdd]
          refine hQ _ _ _ ?_
          simp (maxSteps := 1000000) (disch := omega) only [S, S1, S2, S3, S4, S5, ST, eq_self, reduceIte, reduceCtorEq, Nat.reduceEqDiff, Nat.reduceAdd]
          obtain ⟨q1, q2⟩ := bad (by omega) _ hBp
          rw [q1]
          exact ⟨rfl, q2⟩
      · simp (maxSteps := 1000000) (disch := omega) only [e1, S, S1, S2, S3, S4, S5, ST, eq_self, reduceIte, reduceCtorEq, Nat.reduceEqDiff, Nat.reduceAdd]
        refine hQ _ _ _ ?_
        simp (maxSteps := 1000000) (disch := omega) only [S, S1, S2, S3, S4, S5, ST, eq_self, reduceIte, reduceCtorEq, Nat.reduceEqDiff, Nat.reduceAdd]
        obtain ⟨q1, q2⟩ := bad (by omega) _ hBp
        rw [q1]
        exact ⟨rfl, q2⟩
    · simp (maxSteps := 1000000) (disch := omega) only [h0, h1, h5, S, S1, S2, S3, S4, S5, ST, eq_self, reduceIte, reduceCtorEq, Nat.reduceEqDiff, Nat.reduceAdd]
      refine hQ _ _ _ ?_
      simp (maxSteps := 1000000) (disch := omega) only [S, S1, S2, S3, S4, S5, ST, eq_self, reduceIte, reduceCtorEq, Nat.reduceEqDiff, Nat.reduceAdd]
      have : i = ps.length := by omega
      subst this
      simp [hu, hp]
set_option maxRecDepth 20000 in
set_option maxHeartbeats 4000000 in
theorem isPairsN_c (v : Value) (n : Int) (ps : List (Int × Int)) (H : AH) (hr : RowP 65 H v ps) (hlen : ps.length ≤ 1099511627776) :
    ACalls Try.prog 65 [v, .int .i64 n] H fun r H' => r = .bool (decide (PrU n ps ps.length)) ∧ H <+: H' := by
  refine in65 rfl ?_
  intro Q hQ
  simp (maxSteps := 1000000) (disch := omega) only [cd65, hr.len Try.underlying22, S, S1, S2, S3, S4, S5, ST, eq_self, reduceIte, reduceCtorEq, Nat.reduceEqDiff, Nat.reduceAdd]
  refine LoopH.by (fun m s H' => ∃ i, m + i = ps.length ∧ s 0 = v ∧ s 1 = .int .i64 n ∧ s 7 = v ∧ s 8 = .int .i64 (ps.length : Int) ∧ s 9 = .int .i64 ((i : Nat) : Int) ∧ H <+: H' ∧ PrU n ps i) ps.length ?_ ?_
  · exact ⟨0, by simp, rfl, rfl, rfl, rfl, rfl, List.prefix_refl _, PrU.zero _ _⟩
  · rintro m s H' ⟨i, hm, h0, h1, h7, h8, h9, hp, hu⟩
    have hr' := hr.pre hp
    simp (maxSteps := 1000000) (disch := omega) only [h0, h1, h7, h8, h9, S, S1, S2, S3, S4, S5, ST, eq_self, reduceIte, reduceCtorEq, Nat.reduceEqDiff, Nat.reduceAdd]
    refine brD.intro (fun g => ?_) (fun g => ?_)
    · have hi : i < ps.length := by omega
      have hst0 := store_a2 H' [.int .i64 0, .int .i64 0] rfl
      simp (maxSteps := 1000000) (disch := omega) only [h0, h1, h7, h8, h9, hr'.ix Try.underlying22 cs65, Int.toNat_natCast, hr'.ld ag65 cs65 hi, alloc_a2, hst0, cell_new, wrap64, S, S1, S2, S3, S4, S5, ST, eq_self, reduceIte, reduceCtorEq, Nat.reduceEqDiff, Nat.reduceAdd]
      generalize hB : H' ++ [AObj.cells [.int .i64 (ps.getD i (0, 0)).1, .int .i64 (ps.getD i (0, 0)).2] 65 false] = B
      have pB : H' <+: B := by rw [← hB]; exact List.prefix_append _ _
      have b0 : B[H'.length]? = some (.cells [.int .i64 (ps.getD i (0, 0)).1, .int .i64 (ps.getD i (0, 0)).2] 65 false) := by rw [← hB]; exact at_new ..
      have hrB := hr'.pre pB
      have hBp := hp.trans pB
      have e0 : ((i : Int) - 1).toNat = i - 1 := by omega
      have ok2 : prOk n ps i → PrU n ps (i + 1) := fun h => hu.succ h
      have bad : ¬ prOk n ps i → ∀ G, H <+: G → decide (PrU n ps ps.length) = false ∧ H <+: G := fun h G hG => ⟨decide_eq_false (PrU.no hi h), hG⟩
      have hld1 : 0 < i → loadA Try.prog 65 (.pointer (some ⟨rowO v, rowK v + 2 * (i - 1), none⟩)) B = some (.agg (List.toArray [.int .i64 (ps.getD (i - 1) (0, 0)).1, .int .i64 (ps.getD (i - 1) (0, 0)).2])) := fun h => hrB.ld ag65 cs65 (by omega)
      unfold prOk at ok2 bad
      generalize hx : ps.getD i (0, 0) = x at *
      generalize hy : ps.getD (i - 1) (0, 0) = y at *
      refine brD.intro (fun e1 => ?_) (fun e1 => ?_) <;> simp (maxSteps := 1000000) (disch := omega) only [e1, cell_of b0, h0, h1, h7, h8, h9, wrap64, S, S1, S2, S3, S4, S5, ST, eq_self, reduceIte, reduceCtorEq, Nat.reduceEqDiff, Nat.reduceAdd]
      · refine hQ _ _ _ ?_
        simp (maxSteps := 1000000) (disch := omega) only [S, S1, S2, S3, S4, S5, ST, eq_self, reduceIte, reduceCtorEq, Nat.reduceEqDiff, Nat.reduceAdd]
        obtain ⟨q1, q2⟩ := bad (by omega) _ hBp
        rw [q1]
        exact ⟨rfl, q2⟩
      · refine brD.intro (fun e2 => ?_) (fun e2 => ?_) <;> simp (maxSteps := 1000000) (disch := omega) only [e1, e2, cell_of b0, h0, h1, h7, h8, h9, wrap64, S, S1, S2, S3, S4, S5, ST, eq_self, reduceIte, reduceCtorEq, Nat.reduceEqDiff, Nat.reduceAdd]
        · refine hQ _ _ _ ?_
          simp (maxSteps := 1000000) (disch := omega) only [S, S1, S2, S3, S4, S5, ST, eq_self, reduceIte, reduceCtorEq, Nat.reduceEqDiff, Nat.reduceAdd]
          obtain ⟨q1, q2⟩ := bad (by omega) _ hBp
          rw [q1]
          exact ⟨rfl, q2⟩
        · refine brD.intro (fun e3 => ?_) (fun e3 => ?_) <;> simp (maxSteps := 1000000) (disch := omega) only [e1, e2, e3, cell_of b0, h0, h1, h7, h8, h9, wrap64, S, S1, S2, S3, S4, S5, ST, eq_self, reduceIte, reduceCtorEq, Nat.reduceEqDiff, Nat.reduceAdd]
          · refine hQ _ _ _ ?_
            simp (maxSteps := 1000000) (disch := omega) only [S, S1, S2, S3, S4, S5, ST, eq_self, reduceIte, reduceCtorEq, Nat.reduceEqDiff, Nat.reduceAdd]
            obtain ⟨q1, q2⟩ := bad (by omega) _ hBp
            rw [q1]
            exact ⟨rfl, q2⟩
          · refine brD.intro (fun e4 => ?_) (fun e4 => ?_) <;> simp (maxSteps := 1000000) (disch := omega) only [e1, e2, e3, e4, h0, h1, h7, h8, h9, wrap64, S, S1, S2, S3, S4, S5, ST, eq_self, reduceIte, reduceCtorEq, Nat.reduceEqDiff, Nat.reduceAdd]
            · have hi1 : 0 < i := by omega
              simp (maxSteps := 1000000) (disch := omega) only [e1, e2, e3, e4, e0, h0, h1, h7, h8, h9, hrB.ix Try.underlying22 cs65, hld1 hi1, ld_a2 b0, wrap64, S, S1, S2, S3, S4, S5, ST, eq_self, reduceIte, reduceCtorEq, Nat.reduceEqDiff, Nat.reduceAdd]
              refine CallH.by (comparePairs_c y x B) ?_
              rintro _ C ⟨rfl, pC⟩
              have hCp := hBp.trans pC
              simp (maxSteps := 1000000) (disch := omega) only [e1, e2, e3, e4, S, S1, S2, S3, S4, S5, ST, eq_self, reduceIte, reduceCtorEq, Nat.reduceEqDiff, Nat.reduceAdd]
              refine brD.intro (fun e5 => ?_) (fun e5 => ?_) <;> simp (maxSteps := 1000000) (disch := omega) only [e1, e2, e3, e4, e5, h0, h1, h7, h8, h9, wrap64, S, S1, S2, S3, S4, S5, ST, eq_self, reduceIte, reduceCtorEq, Nat.reduceEqDiff, Nat.reduceAdd]
              · refine hQ _ _ _ ?_
                simp (maxSteps := 1000000) (disch := omega) only [S, S1, S2, S3, S4, S5, ST, eq_self, reduceIte, reduceCtorEq, Nat.reduceEqDiff, Nat.reduceAdd]
                obtain ⟨q1, q2⟩ := bad (fun h => (cmpP_ge y x).1 e5 (h.2.2.2 hi1)) _ hCp
                rw [q1]
                exact ⟨rfl, q2⟩
              · have f1 := ok2 ⟨by omega, by omega, by omega, fun _ => Decidable.not_not.1 fun h => e5 ((cmpP_ge y x).2 h)⟩
                refine ⟨m - 1, by omega, i + 1, ?_⟩
                (repeat' first | exact f1 | exact hCp | apply And.intro) <;> first | (simp only [Value.int.injEq, true_and]; omega) | omega | rfl | assumption | (simp; done) | (simp; omega)
            · have f1 := ok2 ⟨by omega, by omega, by omega, fun h => absurd h (by omega)⟩
              refine ⟨m - 1, by omega, i + 1, ?_⟩
              (repeat' first | exact f1 | exact hBp | apply And.intro) <;> first | (simp only [Value.int.injEq, true_and]; omega) | omega | rfl | assumption | (simp; done) | (simp; omega)
    · simp (maxSteps := 1000000) (disch := omega) only [h0, h1, h7, h8, h9, S, S1, S2, S3, S4, S5, ST, eq_self, reduceIte, reduceCtorEq, Nat.reduceEqDiff, Nat.reduceAdd]
      refine hQ _ _ _ ?_
      simp (maxSteps := 1000000) (disch := omega) only [S, S1, S2, S3, S4, S5, ST, eq_self, reduceIte, reduceCtorEq, Nat.reduceEqDiff, Nat.reduceAdd]
      have : i = ps.length := by omega
      subst this
      simp [hu, hp]
theorem isPairs_c (v : Value) (n : Int) (ps : List (Int × Int)) (H : AH) (hr : RowP 65 H v ps) (hlen : ps.length ≤ 1099511627776) (hn : 0 ≤ n ∧ n ≤ 8) :
    ACalls Try.prog 65 [v, .int .i64 n] H fun r H' => r = .bool (decide (PrU n ps ps.length)) ∧ H <+: H' := isPairsN_c v n ps H hr hlen
theorem l2Good_c (n : Int) (v : Value) (ps : List (Int × Int)) (H : AH) (hr : RowP 65 H v ps) (hlen : ps.length ≤ 1099511627776) :
    ACalls Try.prog 61 [.agg (List.toArray [.int .i64 n, v])] H fun r H' => r = .bool (decide (Grd n ps)) ∧ H <+: H' := by
  refine in61 rfl ?_
  intro Q hQ
  simp (maxSteps := 1000000) (disch := omega) only [cd61, hr.boxG, S, S1, S2, S3, S4, S5, ST, eq_self, reduceIte, reduceCtorEq, Nat.reduceEqDiff, Nat.reduceAdd]
  generalize hA : H ++ [AObj.cells [.int .i64 n, v] 32 false] = A
  have pA : H <+: A := by rw [← hA]; exact List.prefix_append _ _
  have cA : A[H.length]? = some (.cells [.int .i64 n, v] 32 false) := by rw [← hA]; exact at_new ..
  have rA := hr.pre pA
  simp (maxSteps := 1000000) (disch := omega) only [cell_of cA, S, S1, S2, S3, S4, S5, ST, eq_self, reduceIte, reduceCtorEq, Nat.reduceEqDiff, Nat.reduceAdd]
  refine CallH.by (l1In_c _ _ _ A) ?_
  rintro _ _ ⟨rfl, rfl⟩
  simp (maxSteps := 1000000) (disch := omega) only [cell_of cA, S, S1, S2, S3, S4, S5, ST, eq_self, reduceIte, reduceCtorEq, Nat.reduceEqDiff, Nat.reduceAdd]
  refine brD.intro (fun e => ?_) (fun e => ?_) <;> simp (maxSteps := 1000000) (disch := omega) only [e, cell_of cA, S, S1, S2, S3, S4, S5, ST, eq_self, reduceIte, reduceCtorEq, Nat.reduceEqDiff, Nat.reduceAdd]
  · refine CallH.by (l2Pairs_c v n ps A rA hlen e) ?_
    rintro _ B ⟨rfl, pB⟩
    simp (maxSteps := 1000000) (disch := omega) only [e, S, S1, S2, S3, S4, S5, ST, eq_self, reduceIte, reduceCtorEq, Nat.reduceEqDiff, Nat.reduceAdd]
    refine hQ _ _ _ ?_
    simp (maxSteps := 1000000) (disch := omega) only [e, S, S1, S2, S3, S4, S5, ST, eq_self, reduceIte, reduceCtorEq, Nat.reduceEqDiff, Nat.reduceAdd]
    exact ⟨by simp [Grd, e], pA.trans pB⟩
  · refine hQ _ _ _ ?_
    simp (maxSteps := 1000000) (disch := omega) only [e, S, S1, S2, S3, S4, S5, ST, eq_self, reduceIte, reduceCtorEq, Nat.reduceEqDiff, Nat.reduceAdd]
    exact ⟨by simp [Grd, e], pA⟩
theorem IsGraph_c (n : Int) (v : Value) (ps : List (Int × Int)) (H : AH) (hr : RowP 65 H v ps) (hlen : ps.length ≤ 1099511627776) :
    ACalls Try.prog 45 [.agg (List.toArray [.int .i64 n, v])] H fun r H' => r = .bool (decide (Grd n ps)) ∧ H <+: H' := by
  refine in45 rfl ?_
  intro Q hQ
  simp (maxSteps := 1000000) (disch := omega) only [cd45, hr.boxG, S, S1, S2, S3, S4, S5, ST, eq_self, reduceIte, reduceCtorEq, Nat.reduceEqDiff, Nat.reduceAdd]
  generalize hA : H ++ [AObj.cells [.int .i64 n, v] 32 false] = A
  have pA : H <+: A := by rw [← hA]; exact List.prefix_append _ _
  have cA : A[H.length]? = some (.cells [.int .i64 n, v] 32 false) := by rw [← hA]; exact at_new ..
  have rA := hr.pre pA
  simp (maxSteps := 1000000) (disch := omega) only [cell_of cA, S, S1, S2, S3, S4, S5, ST, eq_self, reduceIte, reduceCtorEq, Nat.reduceEqDiff, Nat.reduceAdd]
  refine CallH.by (between_c _ _ _ A) ?_
  rintro _ _ ⟨rfl, rfl⟩
  simp (maxSteps := 1000000) (disch := omega) only [cell_of cA, S, S1, S2, S3, S4, S5, ST, eq_self, reduceIte, reduceCtorEq, Nat.reduceEqDiff, Nat.reduceAdd]
  refine brD.intro (fun e => ?_) (fun e => ?_) <;> simp (maxSteps := 1000000) (disch := omega) only [e, cell_of cA, S, S1, S2, S3, S4, S5, ST, eq_self, reduceIte, reduceCtorEq, Nat.reduceEqDiff, Nat.reduceAdd]
  · refine CallH.by (isPairs_c v n ps A rA hlen e) ?_
    rintro _ B ⟨rfl, pB⟩
    simp (maxSteps := 1000000) (disch := omega) only [e, S, S1, S2, S3, S4, S5, ST, eq_self, reduceIte, reduceCtorEq, Nat.reduceEqDiff, Nat.reduceAdd]
    refine hQ _ _ _ ?_
    simp (maxSteps := 1000000) (disch := omega) only [e, S, S1, S2, S3, S4, S5, ST, eq_self, reduceIte, reduceCtorEq, Nat.reduceEqDiff, Nat.reduceAdd]
    exact ⟨by simp [Grd, e], pA.trans pB⟩
  · refine hQ _ _ _ ?_
    simp (maxSteps := 1000000) (disch := omega) only [e, S, S1, S2, S3, S4, S5, ST, eq_self, reduceIte, reduceCtorEq, Nat.reduceEqDiff, Nat.reduceAdd]
    exact ⟨by simp [Grd, e], pA⟩
end Go.Proofs.Ytlcipphiflcaiaa.Ai
namespace Go.Proofs.Ytlcipphiflcaiaa.Ai
open Go
def ords77 : List (Nat × List (Nat × Bool)) := []
def cd77 : Cd := (.seq (.reg [⟨⟨some 3, Op.box 32 (Operand.tmp 0), none⟩, []⟩,
  ⟨⟨some 6, Op.assign (Operand.const (Value.bool false)), none⟩, []⟩]) (.seq (.seq (.reg [⟨⟨some 7, Op.assign (Operand.const (Value.int IntKind.i64 0)), none⟩, []⟩]) (.block 0 (.loop (.seq (.seq (.reg [⟨⟨some 9, Op.move (Operand.tmp 7), none⟩, []⟩,
  ⟨⟨some 10, Op.fieldAddr 32 (Operand.tmp 3) 1, none⟩, []⟩,
  ⟨⟨some 11, Op.load 22 (Operand.tmp 10), none⟩, []⟩,
  ⟨⟨some 12, Op.call { callee := (Callee.builtin Builtin.len), args := #[(Operand.tmp 11)], argTypes := #[22] }, none⟩, []⟩,
  ⟨⟨some 13, Op.binOp BinOp.lss 3 (Operand.tmp 9) (Operand.tmp 12) 3, none⟩, []⟩]) (.cond (Operand.tmp 13) .skip (.exit 0))) (.seq (.block 1 (.seq (.reg [⟨⟨some 16, Op.fieldAddr 32 (Operand.tmp 3) 1, none⟩, []⟩,
  ⟨⟨some 17, Op.load 22 (Operand.tmp 16), none⟩, []⟩,
  ⟨⟨some 18, Op.move (Operand.tmp 7), none⟩, []⟩,
  ⟨⟨some 19, Op.indexAddr 22 (Operand.tmp 17) (Operand.tmp 18), none⟩, []⟩,
  ⟨⟨some 20, Op.load 65 (Operand.tmp 19), none⟩, []⟩,
  ⟨⟨some 8, Op.alloc 65, none⟩, []⟩,
  ⟨⟨none, Op.store 65 (Operand.tmp 8) (Operand.tmp 20), none⟩, []⟩]) (.seq (.reg [⟨⟨some 21, Op.indexAddr 65 (Operand.tmp 8) (Operand.const (Value.int IntKind.i64 0)), none⟩, []⟩,
  ⟨⟨some 22, Op.load 3 (Operand.tmp 21), none⟩, []⟩,
  ⟨⟨some 23, Op.move (Operand.tmp 1), none⟩, []⟩,
  ⟨⟨some 24, Op.binOp BinOp.eql 3 (Operand.tmp 22) (Operand.tmp 23) 3, none⟩, []⟩,
  ⟨⟨some 25, Op.move (Operand.tmp 24), none⟩, []⟩,
  ⟨⟨some 26, Op.indexAddr 65 (Operand.tmp 8) (Operand.const (Value.int IntKind.i64 1)), some (25, true)⟩, []⟩,
  ⟨⟨some 27, Op.load 3 (Operand.tmp 26), some (25, true)⟩, []⟩,
  ⟨⟨some 28, Op.move (Operand.tmp 2), some (25, true)⟩, []⟩,
  ⟨⟨some 29, Op.binOp BinOp.eql 3 (Operand.tmp 27) (Operand.tmp 28) 3, some (25, true)⟩, []⟩,
  ⟨⟨some 30, Op.pick (Operand.tmp 25) (Operand.tmp 29) (Operand.const (Value.bool false)), none⟩, []⟩,
  ⟨⟨some 31, Op.move (Operand.tmp 30), none⟩, []⟩,
  ⟨⟨some 32, Op.indexAddr 65 (Operand.tmp 8) (Operand.const (Value.int IntKind.i64 0)), some (31, false)⟩, []⟩,
  ⟨⟨some 33, Op.load 3 (Operand.tmp 32), some (31, false)⟩, []⟩,
  ⟨⟨some 34, Op.move (Operand.tmp 2), some (31, false)⟩, []⟩,
  ⟨⟨some 35, Op.binOp BinOp.eql 3 (Operand.tmp 33) (Operand.tmp 34) 3, some (31, false)⟩, []⟩,
  ⟨⟨some 36, Op.move (Operand.tmp 35), some (31, false)⟩, []⟩,
  ⟨⟨some 37, Op.indexAddr 65 (Operand.tmp 8) (Operand.const (Value.int IntKind.i64 1)), some (36, true)⟩, []⟩,
  ⟨⟨some 38, Op.load 3 (Operand.tmp 37), some (36, true)⟩, []⟩,
  ⟨⟨some 39, Op.move (Operand.tmp 1), some (36, true)⟩, []⟩,
  ⟨⟨some 40, Op.binOp BinOp.eql 3 (Operand.tmp 38) (Operand.tmp 39) 3, some (36, true)⟩, []⟩,
  ⟨⟨some 41, Op.pick (Operand.tmp 36) (Operand.tmp 40) (Operand.const (Value.bool false)), some (31, false)⟩, []⟩,
  ⟨⟨some 42, Op.pick (Operand.tmp 31) (Operand.const (Value.bool true)) (Operand.tmp 41), none⟩, []⟩]) (.cond (Operand.tmp 42) (.seq (.reg [⟨⟨some 6, Op.assign (Operand.const (Value.bool true)), none⟩, []⟩]) .ret) .skip)))) (.reg [⟨⟨some 14, Op.move (Operand.tmp 7), none⟩, []⟩,
  ⟨⟨some 15, Op.binOp BinOp.add 3 (Operand.tmp 14) (Operand.const (Value.int IntKind.i64 1)) 3, none⟩, []⟩,
  ⟨⟨some 7, Op.assign (Operand.tmp 15), none⟩, []⟩])))))) (.seq (.reg [⟨⟨some 6, Op.assign (Operand.const (Value.bool false)), none⟩, []⟩]) .ret)))
theorem sl77 : slim Try.f77.ntmps ords77 (Try.f77.body.getD .skip) = some cd77 := by kernel_rfl
theorem in77 {args : List Value} {H : AH} {R : Value → AH → Prop} (hl : args.length = 3) (h : ∀ (Q : Exit → Sl → AH → Prop), (∀ e s H, endA Try.prog [ResultVar.tmp 6] R e s H → Q e s H) → wpC Try.prog cd77 Q (enterA args) H) : ACalls Try.prog 77 args H R :=
  ACalls.intro (by kernel_rfl) Try.func77 rfl (by kernel_rfl) sl77 hl (of_decide_eq_true (by kernel_rfl)) (by kernel_rfl) h
end Go.Proofs.Ytlcipphiflcaiaa.Ai
namespace Go.Proofs.Ytlcipphiflcaiaa.Ai
open Go Go.RowKit
set_option linter.unusedVariables false
set_option linter.unusedSimpArgs false
def hitB (a b : Int) (e : Int × Int) : Bool := decide (e.1 = a ∧ e.2 = b ∨ e.1 = b ∧ e.2 = a)
/-- are two nodes neighbors -/
def nearB (es : List (Int × Int)) (a b : Int) : Bool := es.any (hitB a b)
theorem any_step {α : Type} (p : α → Bool) (xs : List α) (d : α) (i : Nat) (hi : i < xs.length) : (xs.drop i).any p = (p (xs.getD i d) || (xs.drop (i + 1)).any p) := by
  have : xs.getD i d = xs[i] := by simp [hi]
  rw [List.drop_eq_getElem_cons hi, List.any_cons, this]
theorem nearB_comm (es : List (Int × Int)) (a b : Int) : nearB es a b = nearB es b a := by
  have : hitB a b = hitB b a := by
    funext e
    unfold hitB
    rw [decide_eq_decide]
    exact ⟨fun h => h.elim .inr .inl, fun h => h.elim .inr .inl⟩
  unfold nearB
  rw [this]
theorem nearB_iff (es : List (Int × Int)) (a b : Int) : nearB es a b = true ↔ ((a, b) ∈ es ∨ (b, a) ∈ es) := by
  unfold nearB hitB
  rw [List.any_eq_true]
  constructor
  · rintro ⟨⟨x, y⟩, hm, h⟩
    rcases of_decide_eq_true h with h | h
    · obtain ⟨h1, h2⟩ := h
      simp only at h1 h2
      subst h1; subst h2; exact .inl hm
    · obtain ⟨h1, h2⟩ := h
      simp only at h1 h2
      subst h1; subst h2; exact .inr hm
  · rintro (h | h)
    · exact ⟨_, h, by simp⟩
    · exact ⟨_, h, by simp⟩
theorem grd_mem {n : Int} {es : List (Int × Int)} (hg : Grd n es) {e : Int × Int} (he : e ∈ es) : 0 ≤ e.1 ∧ e.1 < e.2 ∧ e.2 < n := by
  obtain ⟨i, hi, rfl⟩ := List.mem_iff_getElem.1 he
  obtain ⟨h1, h2, h3, _⟩ := hg.2 i hi
  have : es.getD i (0, 0) = es[i] := by simp [hi]
  rw [this] at h1 h2 h3
  exact ⟨h1, h2, h3⟩
/-- the neighbors of a node below k -/
def nbsU (es : List (Int × Int)) (x : Int) : Nat → List Int
  | 0 => []
  | k + 1 => nbsU es x k ++ if nearB es x k = true then [(k : Int)] else []
theorem nbsU_len (es : List (Int × Int)) (x : Int) (k : Nat) : (nbsU es x k).length ≤ k := by
  induction k with
  | zero => simp [nbsU]
  | succ k ih => simp only [nbsU, List.length_append]; split <;> simp <;> omega
theorem nbsU_mem (es : List (Int × Int)) (x : Int) (k : Nat) (y : Int) : y ∈ nbsU es x k ↔ (0 ≤ y ∧ y < k) ∧ nearB es x y = true := by
  induction k with
  | zero => simp [nbsU]; intro h1 h2; omega
  | succ k ih =>
    simp only [nbsU, List.mem_append, ih]
    constructor
    · rintro (⟨h1, h2⟩ | h)
      · exact ⟨by omega, h2⟩
      · split at h
        · rename_i hn
          simp only [List.mem_cons, List.not_mem_nil, or_false] at h
          subst h; exact ⟨by omega, hn⟩
        · simp at h
    · rintro ⟨h1, h2⟩
      by_cases h : y < k
      · exact .inl ⟨by omega, h2⟩
      · obtain rfl : y = k := by omega
        right; rw [if_pos h2]; simp
set_option maxRecDepth 20000 in
set_option maxHeartbeats 1000000 in
theorem l2Near_c (n : Int) (v : Value) (es : List (Int × Int)) (a b : Int) (H : AH) (hr : RowP 65 H v es) (hlen : es.length ≤ 1099511627776) :
    ACalls Try.prog 77 [.agg (List.toArray [.int .i64 n, v]), .int .i64 a, .int .i64 b] H fun r H' => r = .bool (nearB es a b) ∧ H <+: H' := by
  refine in77 rfl ?_
  intro Q hQ
  simp (maxSteps := 1000000) (disch := omega) only [cd77, hr.boxG, S, S1, S2, S3, S4, S5, ST, eq_self, reduceIte, reduceCtorEq, Nat.reduceEqDiff, Nat.reduceAdd]
  generalize hA : H ++ [AObj.cells [.int .i64 n, v] 32 false] = A
  have pA : H <+: A := by rw [← hA]; exact List.prefix_append _ _
  have cA : A[H.length]? = some (.cells [.int .i64 n, v] 32 false) := by rw [← hA]; exact at_new ..
  have rA := hr.pre pA
  try simp (maxSteps := 1000000) (disch := omega) only [S, S1, S2, S3, S4, S5, ST, eq_self, reduceIte, reduceCtorEq, Nat.reduceEqDiff, Nat.reduceAdd]
  refine LoopH.by (fun m s H' => ∃ i, m + i = es.length ∧ s 1 = .int .i64 a ∧ s 2 = .int .i64 b ∧ s 3 = .pointer (some ⟨H.length, 0, none⟩) ∧ s 7 = .int .i64 ((i : Nat) : Int) ∧ nearB es a b = (es.drop i).any (hitB a b) ∧ A <+: H') es.length ?_ ?_
  · exact ⟨0, by simp, rfl, rfl, rfl, rfl, by rw [List.drop_zero]; rfl, List.prefix_refl _⟩
  · rintro m s H' ⟨i, hm, h1, h2, h3, h7, hn, hp⟩
    have hr' := rA.pre hp
    have cH := pre_at hp cA
    have hpp := pA.trans hp
    simp (maxSteps := 1000000) (disch := omega) only [h1, h2, h3, h7, cell_of cH, hr'.len Try.underlying22, S, S1, S2, S3, S4, S5, ST, eq_self, reduceIte, reduceCtorEq, Nat.reduceEqDiff, Nat.reduceAdd]
    refine brD.intro (fun g => ?_) (fun g => ?_)
    · have hi : i < es.length := by omega
      have hst0 := store_a2 H' [.int .i64 0, .int .i64 0] rfl
      rw [any_step _ es (0, 0) i hi] at hn
      simp (maxSteps := 1000000) (disch := omega) only [h1, h2, h3, h7, cell_of cH, hr'.ix Try.underlying22 cs65, Int.toNat_natCast, hr'.ld ag65 cs65 hi, alloc_a2, hst0, cell_new, wrap64, S, S1, S2, S3, S4, S5, ST, eq_self, reduceIte, reduceCtorEq, Nat.reduceEqDiff, Nat.reduceAdd]
      generalize hx : es.getD i (0, 0) = x at *
      have pB : A <+: H' ++ [AObj.cells [.int .i64 x.1, .int .i64 x.2] 65 false] := pre_app hp _
      have yes : hitB a b x = true → nearB es a b = true := fun h => by rw [hn, h]; rfl
      have no : hitB a b x = false → nearB es a b = (es.drop (i + 1)).any (hitB a b) := fun h => by rw [hn, h]; rfl
      unfold hitB at yes no
      rw [decide_eq_true_iff] at yes
      rw [decide_eq_false_iff_not] at no
      have second : ¬ (x.1 = a ∧ x.2 = b) → True := fun _ => trivial
      refine brD.intro (fun e1 => ?_) (fun e1 => ?_) <;> (first | have de1 := decide_eq_false e1 | have de1 := decide_eq_true e1) <;> simp (maxSteps := 1000000) (disch := omega) only [de1, h1, h2, h3, h7, cell_new, wrap64, S, S1, S2, S3, S4, S5, ST, eq_self, reduceIte, reduceCtorEq, Nat.reduceEqDiff, Nat.reduceAdd]
      · refine brD.intro (fun e2 => ?_) (fun e2 => ?_) <;> (first | have de2 := decide_eq_false e2 | have de2 := decide_eq_true e2) <;> simp (maxSteps := 1000000) (disch := omega) only [de1, de2, h1, h2, h3, h7, cell_new, wrap64, S, S1, S2, S3, S4, S5, ST, eq_self, reduceIte, reduceCtorEq, Nat.reduceEqDiff, Nat.reduceAdd]
        · refine hQ _ _ _ ?_
          simp (maxSteps := 1000000) (disch := omega) only [S, S1, S2, S3, S4, S5, ST, eq_self, reduceIte, reduceCtorEq, Nat.reduceEqDiff, Nat.reduceAdd]
          exact ⟨by rw [yes (by omega)], pA.trans pB⟩
        · refine brD.intro (fun e3 => ?_) (fun e3 => ?_) <;> (first | have de3 := decide_eq_false e3 | have de3 := decide_eq_true e3) <;> simp (maxSteps := 1000000) (disch := omega) only [de1, de2, de3, h1, h2, h3, h7, cell_new, wrap64, S, S1, S2, S3, S4, S5, ST, eq_self, reduceIte, reduceCtorEq, Nat.reduceEqDiff, Nat.reduceAdd]
          · refine brD.intro (fun e4 => ?_) (fun e4 => ?_) <;> (first | have de4 := decide_eq_false e4 | have de4 := decide_eq_true e4) <;> simp (maxSteps := 1000000) (disch := omega) only [de1, de2, de3, de4, h1, h2, h3, h7, cell_new, wrap64, S, S1, S2, S3, S4, S5, ST, eq_self, reduceIte, reduceCtorEq, Nat.reduceEqDiff, Nat.reduceAdd]
            · refine hQ _ _ _ ?_
              simp (maxSteps := 1000000) (disch := omega) only [S, S1, S2, S3, S4, S5, ST, eq_self, reduceIte, reduceCtorEq, Nat.reduceEqDiff, Nat.reduceAdd]
              exact ⟨by rw [yes (by omega)], pA.trans pB⟩
            · have f1 := no (by omega)
              refine ⟨m - 1, by omega, i + 1, ?_⟩
              (repeat' first | exact f1 | exact pB | apply And.intro) <;> first | (simp only [Value.int.injEq, true_and]; omega) | omega | rfl | assumption | (simp; done) | (simp; omega)
          · have f1 := no (by omega)
            refine ⟨m - 1, by omega, i + 1, ?_⟩
            (repeat' first | exact f1 | exact pB | apply And.intro) <;> first | (simp only [Value.int.injEq, true_and]; omega) | omega | rfl | assumption | (simp; done) | (simp; omega)
      · refine brD.intro (fun e3 => ?_) (fun e3 => ?_) <;> (first | have de3 := decide_eq_false e3 | have de3 := decide_eq_true e3) <;> simp (maxSteps := 1000000) (disch := omega) only [de1, de3, h1, h2, h3, h7, cell_new, wrap64, S, S1, S2, S3, S4, S5, ST, eq_self, reduceIte, reduceCtorEq, Nat.reduceEqDiff, Nat.reduceAdd]
        · refine brD.intro (fun e4 => ?_) (fun e4 => ?_) <;> (first | have de4 := decide_eq_false e4 | have de4 := decide_eq_true e4) <;> simp (maxSteps := 1000000) (disch := omega) only [de1, de3, de4, h1, h2, h3, h7, cell_new, wrap64, S, S1, S2, S3, S4, S5, ST, eq_self, reduceIte, reduceCtorEq, Nat.reduceEqDiff, Nat.reduceAdd]
          · refine hQ _ _ _ ?_
            simp (maxSteps := 1000000) (disch := omega) only [S, S1, S2, S3, S4, S5, ST, eq_self, reduceIte, reduceCtorEq, Nat.reduceEqDiff, Nat.reduceAdd]
            exact ⟨by rw [yes (by omega)], pA.trans pB⟩
          · have f1 := no (by omega)
            refine ⟨m - 1, by omega, i + 1, ?_⟩
            (repeat' first | exact f1 | exact pB | apply And.intro) <;> first | (simp only [Value.int.injEq, true_and]; omega) | omega | rfl | assumption | (simp; done) | (simp; omega)
        · have f1 := no (by omega)
          refine ⟨m - 1, by omega, i + 1, ?_⟩
          (repeat' first | exact f1 | exact pB | apply And.intro) <;> first | (simp only [Value.int.injEq, true_and]; omega) | omega | rfl | assumption | (simp; done) | (simp; omega)
    · simp (maxSteps := 1000000) (disch := omega) only [h1, h2, h3, h7, S, S1, S2, S3, S4, S5, ST, eq_self, reduceIte, reduceCtorEq, Nat.reduceEqDiff, Nat.reduceAdd]
      refine hQ _ _ _ ?_
      simp (maxSteps := 1000000) (disch := omega) only [S, S1, S2, S3, S4, S5, ST, eq_self, reduceIte, reduceCtorEq, Nat.reduceEqDiff, Nat.reduceAdd]
      rw [hn, List.drop_of_length_le (by omega)]
      exact ⟨rfl, hpp⟩
end Go.Proofs.Ytlcipphiflcaiaa.Ai
