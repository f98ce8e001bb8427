/- Proved: the program's TurnWalk returns what the reference's returns, for all arguments; no conditions. -/
import Derived.Test.YtedlnjcfacadgaaPFnExactTurnWalkx3
import Derived.Test.YtedlnjcfacadgaaWSized
/- the printed row names this word so -/
namespace Go.Proofs.Ytedlnjcfacadgaa.PrintWords
abbrev sized_ints := @Go.Proofs.YtedlnjcfacadgaaW.PrintWords.sized_ints
end Go.Proofs.Ytedlnjcfacadgaa.PrintWords
namespace Go.Proofs.Ytedlnjcfacadgaa.Pure
open Go.RowKit Go.Proofs.Ytedlnjcfacadgaa.PFnExactTurnWalk Go.Proofs.YtedlnjcfacadgaaW.PrintWords Go.Proofs.YtedlnjcfacadgaaW.PrintLast
set_option linter.unusedVariables false
set_option linter.unusedSimpArgs false

theorem w64 {x : Int} (h0 : -9223372036854775808 ≤ x) (h1 : x < 9223372036854775808) : wrap64 x = x := by
  unfold wrap64; omega

theorem rd_nat (l : List Int) (i : Nat) : rd l (i : Int) = l.getD i 0 := by simp [rd]

/-- copies come to what was copied -/
theorem toInt_l0 (l : List Int) (hn : l.length ≤ 1048576) (d : Nat) : ∀ (k : Nat) (i : Nat) (out : List Int), i + d = l.length → d < k → out.length = l.length →
    (∀ j, j < i → out.getD j 0 = l.getD j 0) → laws_toIntS.l0 k l out (i : Int) = some l := by
  induction d with
  | zero =>
    intro k i out hi hk ho h
    obtain ⟨k, rfl⟩ : ∃ m, k = m + 1 := ⟨k - 1, by omega⟩
    simp only [laws_toIntS.l0]; rw [if_neg (by omega)]
    congr 1
    apply List.ext_getElem ho
    intro j h1 h2
    have := h j (by omega)
    simpa [List.getD_eq_getElem?_getD, h1, h2] using this
  | succ d ih =>
    intro k i out hi hk ho h
    obtain ⟨k, rfl⟩ : ∃ m, k = m + 1 := ⟨k - 1, by omega⟩
    simp only [laws_toIntS.l0]; rw [if_pos (by omega), if_pos (by omega), if_pos (by omega), w64 (by omega) (by omega)]
    refine ih k (i + 1) _ (by omega) (by omega) (by simpa using ho) ?_
    intro j hj
    by_cases e : j = i
    · subst e
      rw [rd_nat]
      simp [List.getD_eq_getElem?_getD, ho, show j < l.length from by omega]
    · have := h j (by omega)
      rw [← this]
      simp [List.getD_eq_getElem?_getD, List.getElem?_set, show ¬ i = j from by omega]

theorem toInt_f (l : List Int) (hn : l.length ≤ 1048576) (k : Nat) (hk : l.length < k) : laws_toIntS.f k l = some l := by
  unfold laws_toIntS.f
  rw [if_pos (by omega), if_pos (by simp; omega)]
  exact toInt_l0 l hn l.length k 0 _ (by omega) hk (by simp) (by intro j hj; omega)

theorem eqInt_l0 (l : List Int) (hn : l.length ≤ 1048576) (d : Nat) : ∀ (k : Nat) (i : Nat), i + d = l.length → d < k → laws_eqIntS.l0 k l l (i : Int) = some true := by
  induction d with
  | zero =>
    intro k i hi hk
    obtain ⟨k, rfl⟩ : ∃ m, k = m + 1 := ⟨k - 1, by omega⟩
    simp only [laws_eqIntS.l0]; rw [if_neg (by omega)]
  | succ d ih =>
    intro k i hi hk
    obtain ⟨k, rfl⟩ : ∃ m, k = m + 1 := ⟨k - 1, by omega⟩
    simp only [laws_eqIntS.l0]; rw [if_pos (by omega), if_pos (by omega), if_pos (by omega), if_pos trivial, w64 (by omega) (by omega)]
    exact ih k (i + 1) (by omega) (by omega)

theorem eqInt_f (l : List Int) (hn : l.length ≤ 1048576) (k : Nat) (hk : l.length < k) : laws_eqIntS.f k l l = some true := by
  unfold laws_eqIntS.f
  rw [if_pos rfl]
  exact eqInt_l0 l hn l.length k 0 (by omega) hk

/- the plain words: a node in range, a step that is one, the length -/
def inr (n : Int) (l : List Int) (i : Nat) : Bool := decide (0 ≤ l.getD i 0) && decide (l.getD i 0 ≤ n - 1)
def nxt (l : List Int) (i : Nat) : Nat := if i + 1 = l.length then 0 else i + 1
def dif (n : Int) (l : List Int) (i : Nat) : Int := (l.getD (nxt l i) 0 - l.getD i 0 + n) % n
def stp (n : Int) (z : Bool) (l : List Int) (i : Nat) : Bool := (z && dif n l i == 0) || dif n l i == 1 || dif n l i == n - 1
def lenOk (l : List Int) : Bool := decide (3 ≤ l.length) && decide (l.length ≤ 24)
def ups (n : Int) (l : List Int) (i : Nat) : Int := if dif n l i = n - 1 then -1 else dif n l i

theorem tmod_nxt (l : List Int) (i : Nat) (hn : l.length ≤ 1048576) (hi : i < l.length) : Int.tmod (wrap64 ((i : Int) + 1)) (l.length : Int) = (nxt l i : Int) := by
  rw [w64 (by omega) (by omega)]
  unfold nxt
  by_cases h : i + 1 = l.length
  · rw [if_pos h, ← h]; simp [Int.tmod_self]
  · rw [if_neg h]
    rw [Int.tmod_eq_of_lt (by omega) (by omega)]; omega

theorem nxt_lt (l : List Int) (i : Nat) (hi : i < l.length) : nxt l i < l.length := by
  unfold nxt; split <;> omega

theorem inr_iff {n : Int} {l : List Int} {i : Nat} : inr n l i = true ↔ 0 ≤ l.getD i 0 ∧ l.getD i 0 ≤ n - 1 := by simp [inr]

theorem tmod_dif {n : Int} {l : List Int} {i : Nat} (h3 : 3 ≤ n) (h8 : n ≤ 8) (ha : inr n l i = true) (hb : inr n l (nxt l i) = true) :
    Int.tmod (wrap64 (wrap64 (l.getD (nxt l i) 0 - l.getD i 0) + n)) n = dif n l i := by
  rw [inr_iff] at ha hb
  rw [w64 (x := l.getD (nxt l i) 0 - l.getD i 0) (by omega) (by omega), w64 (by omega) (by omega)]
  unfold dif
  rw [Int.tmod_eq_emod_of_nonneg (by omega)]

theorem dif_bd {n : Int} {l : List Int} {i : Nat} (h3 : 3 ≤ n) : 0 ≤ dif n l i ∧ dif n l i ≤ n - 1 := by
  unfold dif
  have h1 := Int.emod_nonneg (l.getD (nxt l i) 0 - l.getD i 0 + n) (show n ≠ 0 by omega)
  have h2 := Int.emod_lt_of_pos (l.getD (nxt l i) 0 - l.getD i 0 + n) (show 0 < n by omega)
  omega

theorem up_f {n : Int} {l : List Int} {i : Nat} (h3 : 3 ≤ n) (h8 : n ≤ 8) (ha : inr n l i = true) (hb : inr n l (nxt l i) = true) :
    spec_l10Up.f n (l.getD i 0) (l.getD (nxt l i) 0) = some (ups n l i) := by
  unfold spec_l10Up.f
  rw [if_neg (by omega), tmod_dif h3 h8 ha hb, w64 (x := n - 1) (by omega) (by omega)]
  unfold ups
  split <;> rfl

theorem ups_bad {n : Int} {l : List Int} {i : Nat} {z : Bool} (h3 : 3 ≤ n) (h : stp n z l i = false) : ups n l i > 1 ∨ (ups n l i = 0 ∧ z = false) := by
  have hb := dif_bd (l := l) (i := i) h3
  unfold ups
  simp only [stp, Bool.or_eq_false_iff, beq_eq_false_iff_ne] at h
  obtain ⟨⟨h0, h1⟩, h2⟩ := h
  rw [if_neg h2]
  by_cases e : dif n l i = 0
  · right; refine ⟨e, ?_⟩; simpa [e] using h0
  · left; omega

theorem ups_good {n : Int} {l : List Int} {i : Nat} {z : Bool} (h3 : 3 ≤ n) (h : stp n z l i = true) : ¬ ups n l i > 1 ∧ (ups n l i = 0 → z = true) ∧ -1 ≤ ups n l i := by
  have hb := dif_bd (l := l) (i := i) h3
  unfold ups
  simp only [stp, Bool.or_eq_true, beq_iff_eq, Bool.and_eq_true] at h
  rcases h with (⟨hz, h0⟩ | h1) | h2
  · rw [if_neg (by omega)]; exact ⟨by omega, fun _ => hz, by omega⟩
  · rw [if_neg (by omega)]; exact ⟨by omega, fun h => by omega, by omega⟩
  · rw [if_pos h2]; exact ⟨by omega, fun h => by omega, by omega⟩

theorem in_f (a b c : Int) : spec_l1In.f a b c = some (decide (b ≤ a) && decide (a ≤ c)) := by
  unfold spec_l1In.f
  by_cases h : a ≥ b
  · rw [if_pos h]; simp [show b ≤ a from h]
  · rw [if_neg h]; simp [show ¬ b ≤ a from h]

theorem btw_f (a b c : Int) : impl_between.f a b c = some (decide (b ≤ a) && decide (a ≤ c)) := by
  unfold impl_between.f
  by_cases h : a ≥ b
  · rw [if_pos h]; simp [show b ≤ a from h]
  · rw [if_neg h]; simp [show ¬ b ≤ a from h]

theorem lenOk_int (l : List Int) : (decide ((3 : Int) ≤ (l.length : Int)) && decide ((l.length : Int) ≤ 24)) = lenOk l := by
  unfold lenOk
  congr 1 <;> (apply decide_eq_decide.2; omega)

theorem walk_l1 (n : Int) (l : List Int) (z : Bool) (h3 : 3 ≤ n) (h8 : n ≤ 8) (hn : l.length ≤ 1048576) (hr : ∀ j, j < l.length → inr n l j = true) (d : Nat) :
    ∀ (k i : Nat), i + d = l.length → d < k → spec_l10Walk.l1 k n l z (i : Int) = some ((List.range' i d).all (stp n z l) && lenOk l) := by
  induction d with
  | zero =>
    intro k i hi hk
    obtain ⟨k, rfl⟩ : ∃ m, k = m + 1 := ⟨k - 1, by omega⟩
    simp only [spec_l10Walk.l1]; rw [if_neg (by omega), in_f, lenOk_int]; simp
  | succ d ih =>
    intro k i hi hk
    obtain ⟨k, rfl⟩ : ∃ m, k = m + 1 := ⟨k - 1, by omega⟩
    have hlt : i < l.length := by omega
    have hx := nxt_lt l i hlt
    simp only [spec_l10Walk.l1, tmod_nxt l i hn hlt, rd_nat]
    rw [if_pos (by omega), if_pos (by omega), if_neg (by omega), if_pos (by omega), if_pos (by omega), up_f h3 h8 (hr i hlt) (hr _ hx)]
    simp only [Option.bind_some]
    rw [w64 (x := (i : Int) + 1) (by omega) (by omega), show ((i : Int) + 1) = ((i + 1 : Nat) : Int) from by omega, ih k (i + 1) (by omega) (by omega)]
    rw [List.range'_succ, List.all_cons]
    cases hs : stp n z l i with
    | false =>
      rcases ups_bad h3 hs with h | ⟨h, hz⟩
      · rw [if_pos h]; simp
      · rw [if_neg (by omega), if_pos h, if_neg (by simp [hz])]; simp
    | true =>
      obtain ⟨h1, h2, _⟩ := ups_good h3 hs
      rw [if_neg h1]
      by_cases h0 : ups n l i = 0
      · rw [if_pos h0, if_pos (h2 h0)]; simp
      · rw [if_neg h0]; simp

theorem walk_l0 (n : Int) (l : List Int) (z : Bool) (h3 : 3 ≤ n) (h8 : n ≤ 8) (hn : l.length ≤ 1048576) (d : Nat) :
    ∀ (k i : Nat), i + d = l.length → (∀ j, j < i → inr n l j = true) → d + l.length + 1 < k →
      spec_l10Walk.l0 k n l z (i : Int) = some ((List.range' i d).all (inr n l) && ((List.range' 0 l.length).all (stp n z l) && lenOk l)) := by
  induction d with
  | zero =>
    intro k i hi hr hk
    obtain ⟨k, rfl⟩ : ∃ m, k = m + 1 := ⟨k - 1, by omega⟩
    simp only [spec_l10Walk.l0]
    have := walk_l1 n l z h3 h8 hn (fun j hj => hr j (by omega)) l.length k 0 (by omega) (by omega)
    rw [if_neg (by omega)]
    simpa using this
  | succ d ih =>
    intro k i hi hr hk
    obtain ⟨k, rfl⟩ : ∃ m, k = m + 1 := ⟨k - 1, by omega⟩
    simp only [spec_l10Walk.l0, rd_nat]
    rw [if_pos (by omega), if_pos (by omega), in_f, w64 (x := n - 1) (by omega) (by omega)]
    simp only [Option.bind_some]
    rw [List.range'_succ, List.all_cons]
    cases hs : inr n l i with
    | false =>
      rw [if_neg (by unfold inr at hs; rw [hs]; simp)]; simp
    | true =>
      rw [if_pos (by unfold inr at hs; exact hs), w64 (by omega) (by omega), show ((i : Int) + 1) = ((i + 1 : Nat) : Int) from by omega]
      rw [ih k (i + 1) (by omega) (fun j hj => by by_cases e : j = i; (subst e; exact hs); exact hr j (by omega)) (by omega)]
      simp

def good (n : Int) (z : Bool) (l : List Int) : Bool := (List.range' 0 l.length).all (inr n l) && ((List.range' 0 l.length).all (stp n z l) && lenOk l)

theorem walk_f (n : Int) (l : List Int) (z : Bool) (h3 : 3 ≤ n) (h8 : n ≤ 8) (hn : l.length ≤ 1048576) (k : Nat) (hk : 2 * l.length + 1 < k) :
    spec_l10Walk.f k n l z = some (good n z l) := by
  unfold spec_l10Walk.f good
  exact walk_l0 n l z h3 h8 hn l.length k 0 (by omega) (by intro j hj; omega) (by omega)

theorem isCycle_f (n : Int) : impl_isCycle.f n = some (decide (3 ≤ n) && decide (n ≤ 8)) := by
  unfold impl_isCycle.f; rw [btw_f]; rfl

theorem l10N_f (n : Int) : spec_l10N.f n = some (decide (3 ≤ n) && decide (n ≤ 8)) := by
  unfold spec_l10N.f; rw [in_f]; rfl

def allOk (n : Int) (z : Bool) (l : List Int) (i : Nat) : Bool := inr n l i && inr n l (nxt l i) && stp n z l i

theorem rises_l0 (n : Int) (l : List Int) (z : Bool) (h3 : 3 ≤ n) (h8 : n ≤ 8) (hn : l.length ≤ 1048576) (d : Nat) :
    ∀ (k i : Nat) (out : List Int), i + d = l.length → out.length = i → 3 * d < k →
      impl_rises.l0 k n l z out l (l.length : Int) (i : Int) = some (if (List.range' i d).all (allOk n z l) then (out ++ (List.range' i d).map (ups n l), lenOk l) else ([], false)) := by
  induction d with
  | zero =>
    intro k i out hi ho hk
    obtain ⟨k, rfl⟩ : ∃ m, k = m + 1 := ⟨k - 1, by omega⟩
    simp only [impl_rises.l0]; rw [if_neg (by omega), isCycle_f]
    simp only [Option.bind_some]
    rw [if_pos (by simp [h3, h8]), btw_f, lenOk_int]; simp
  | succ d ih =>
    intro k i out hi ho hk
    obtain ⟨k, rfl⟩ : ∃ m, k = m + 3 := ⟨k - 3, by omega⟩
    have hlt : i < l.length := by omega
    have hx := nxt_lt l i hlt
    simp only [impl_rises.l0, tmod_nxt l i hn hlt, rd_nat]
    rw [if_pos (by omega), if_pos (by omega), if_pos (by omega), if_neg (by omega), if_pos (by omega), if_pos (by omega), btw_f, btw_f, w64 (x := n - 1) (by omega) (by omega)]
    simp only [Option.bind_some]
    rw [List.range'_succ, List.all_cons]
    by_cases ha : inr n l i = true
    · have ha' : (decide (0 ≤ l.getD i 0) && decide (l.getD i 0 ≤ n - 1)) = true := ha
      rw [if_pos ha']
      by_cases hb : inr n l (nxt l i) = true
      · have hb' : (decide (0 ≤ l.getD (nxt l i) 0) && decide (l.getD (nxt l i) 0 ≤ n - 1)) = true := hb
        rw [hb']
        simp only [impl_rises.j1, tmod_dif h3 h8 ha hb]
        rw [if_neg (by simp), if_neg (by omega)]
        have hgo : ∀ x, ups n l i = x → stp n z l i = true → impl_rises.l0 k n l z (out ++ [x]) l (l.length : Int) (wrap64 ((i : Int) + 1)) = some (if (allOk n z l i && (List.range' (i + 1) d).all (allOk n z l)) = true then (out ++ (i :: List.range' (i + 1) d).map (ups n l), lenOk l) else ([], false)) := by
          intro x hx' hs
          rw [w64 (by omega) (by omega), show ((i : Int) + 1) = ((i + 1 : Nat) : Int) from by omega, ih k (i + 1) _ (by omega) (by simp [ho]) (by omega)]
          have : allOk n z l i = true := by simp [allOk, ha, hb, hs]
          rw [this, Bool.true_and]; simp [hx']
        have hno : stp n z l i = false → (some ([], false) : Option (List Int × Bool)) = some (if (allOk n z l i && (List.range' (i + 1) d).all (allOk n z l)) = true then (out ++ (i :: List.range' (i + 1) d).map (ups n l), lenOk l) else ([], false)) := by
          intro hs
          have : allOk n z l i = false := by simp [allOk, hs]
          rw [this]; simp
        have hbd := dif_bd (l := l) (i := i) h3
        by_cases h0 : dif n l i = 0
        · rw [if_pos h0]
          simp only [impl_rises.j2]
          cases z with
          | true =>
            rw [if_pos rfl, if_pos (by omega)]
            exact hgo 0 (by unfold ups; rw [if_neg (by omega), h0]) (by simp [stp, h0])
          | false =>
            rw [if_neg (by simp), h0, if_neg (by omega), if_neg (by rw [w64 (by omega) (by omega)]; omega)]
            exact hno (by simp [stp, h0]; omega)
        · rw [if_neg h0]
          simp only [impl_rises.j2]
          rw [if_neg (by simp)]
          by_cases h1 : dif n l i = 1
          · rw [if_pos h1, if_pos (by omega)]
            exact hgo 1 (by unfold ups; rw [if_neg (by omega), h1]) (by simp [stp, h1])
          · rw [if_neg h1, w64 (x := n - 1) (by omega) (by omega)]
            by_cases h2 : dif n l i = n - 1
            · rw [if_pos h2, if_pos (by omega)]
              exact hgo (-1) (by unfold ups; rw [if_pos h2]) (by simp [stp, h2])
            · rw [if_neg h2]
              exact hno (by simp [stp, h0, h1, h2])
      · have hb' : (decide (0 ≤ l.getD (nxt l i) 0) && decide (l.getD (nxt l i) 0 ≤ n - 1)) = false := by simpa [inr] using hb
        rw [hb']
        simp only [impl_rises.j1]
        rw [if_pos (by simp)]
        have : allOk n z l i = false := by simp [allOk, hb]
        rw [this]; simp
    · have ha' : ¬ (decide (0 ≤ l.getD i 0) && decide (l.getD i 0 ≤ n - 1)) = true := ha
      rw [if_neg ha']
      simp only [impl_rises.j1]
      rw [if_pos (by simp)]
      have : allOk n z l i = false := by simp [allOk, ha]
      rw [this]; simp

def rise (n : Int) (l : List Int) : List Int := (List.range' 0 l.length).map (ups n l)

theorem all_allOk (n : Int) (z : Bool) (l : List Int) : ((List.range' 0 l.length).all (allOk n z l)) = ((List.range' 0 l.length).all (inr n l) && (List.range' 0 l.length).all (stp n z l)) := by
  rw [Bool.eq_iff_iff]
  simp only [List.all_eq_true, Bool.and_eq_true, List.mem_range'_1, allOk]
  constructor
  · intro h; exact ⟨fun j hj => (h j hj).1.1, fun j hj => (h j hj).2⟩
  · intro ⟨h1, h2⟩ j hj
    exact ⟨⟨h1 j hj, h1 _ ⟨by omega, by have := nxt_lt l j (by omega); omega⟩⟩, h2 j hj⟩

theorem rises_f (n : Int) (l : List Int) (z : Bool) (h3 : 3 ≤ n) (h8 : n ≤ 8) (hn : l.length ≤ 1048576) (k : Nat) (hk : 3 * l.length < k) :
    ∃ r, impl_rises.f k n l z = some (r, good n z l) ∧ (good n z l = true → r = rise n l) := by
  unfold impl_rises.f
  have := rises_l0 n l z h3 h8 hn l.length k 0 [] (by omega) rfl hk
  rw [show ((0 : Nat) : Int) = 0 from rfl] at this
  rw [this, all_allOk]
  unfold good
  cases h : ((List.range' 0 l.length).all (inr n l) && (List.range' 0 l.length).all (stp n z l)) with
  | true =>
    rw [if_pos rfl]
    refine ⟨_, ?_, fun _ => rfl⟩
    rw [Bool.and_eq_true] at h
    rw [h.1, h.2]; simp [rise]
  | false =>
    rw [if_neg (by simp)]
    refine ⟨[], ?_, ?_⟩
    · rw [← Bool.and_assoc, h]; simp
    · rw [← Bool.and_assoc, h]; simp

theorem good_len {n : Int} {z : Bool} {l : List Int} (h : good n z l = true) : 3 ≤ l.length ∧ l.length ≤ 24 ∧ (∀ j, j < l.length → inr n l j = true) ∧ (∀ j, j < l.length → stp n z l j = true) := by
  simp only [good, lenOk, Bool.and_eq_true, List.all_eq_true, List.mem_range'_1, decide_eq_true_eq] at h
  exact ⟨h.2.2.1, h.2.2.2, fun j hj => h.1 j ⟨by omega, by omega⟩, fun j hj => h.2.1 j ⟨by omega, by omega⟩⟩


theorem closed_f (n : Int) (l : List Int) (hn : l.length ≤ 1048576) (k : Nat) (hk : 2 * l.length + 1 < k) :
    spec_l10Closed.f k n l = some ((decide (3 ≤ n) && decide (n ≤ 8)) && good n true l) := by
  unfold spec_l10Closed.f
  rw [l10N_f]
  simp only [Option.bind_some]
  by_cases hc : 3 ≤ n ∧ n ≤ 8
  · obtain ⟨h3, h8⟩ := hc
    rw [if_pos (by simp [h3, h8]), walk_f n l true h3 h8 hn k hk]
    simp [h3, h8]
  · rw [if_neg (by simp; omega)]
    have : (decide (3 ≤ n) && decide (n ≤ 8)) = false := by simp; omega
    rw [this]; simp

theorem iclosed_f (n : Int) (l : List Int) (z : Bool) (hn : l.length ≤ 1048576) (k : Nat) (hk : 3 * l.length < k) :
    ∃ b, impl_IsClosedWalk.f k n l z = some ((decide (3 ≤ n) && decide (n ≤ 8)) && good n z l, b) := by
  unfold impl_IsClosedWalk.f
  rw [isCycle_f]
  simp only [Option.bind_some]
  by_cases hc : 3 ≤ n ∧ n ≤ 8
  · obtain ⟨h3, h8⟩ := hc
    obtain ⟨r, e1, _⟩ := rises_f n l z h3 h8 hn k hk
    rw [if_pos (by simp [h3, h8]), e1]
    exact ⟨true, by simp [h3, h8]⟩
  · rw [if_neg (by simp; omega)]
    have : (decide (3 ≤ n) && decide (n ≤ 8)) = false := by simp; omega
    rw [this]; exact ⟨false, by simp⟩

theorem mark_l0 (d : Nat) : ∀ (k i : Nat) (l : List Int) (x : Int), l.length ≤ 1048576 → i + d = l.length → d < k → x = 1 + (i : Int) →
    (∀ j, j < i → l.getD j 0 = 1 + (j : Int)) → ∃ out, laws_markIntS.l0 k l x (i : Int) = some (1 + (l.length : Int), out) ∧ out.length = l.length ∧ ∀ j, j < l.length → out.getD j 0 = 1 + (j : Int) := by
  induction d with
  | zero =>
    intro k i l x hn hi hk hx h
    obtain ⟨k, rfl⟩ : ∃ m, k = m + 1 := ⟨k - 1, by omega⟩
    simp only [laws_markIntS.l0]; rw [if_neg (by omega)]
    exact ⟨l, by rw [hx, show (i : Int) = (l.length : Int) from by omega], rfl, fun j hj => h j (by omega)⟩
  | succ d ih =>
    intro k i l x hn hi hk hx h
    obtain ⟨k, rfl⟩ : ∃ m, k = m + 1 := ⟨k - 1, by omega⟩
    simp only [laws_markIntS.l0]; rw [if_pos (by omega), if_pos (by omega), w64 (by omega) (by omega), w64 (by omega) (by omega), show ((i : Int) + 1) = ((i + 1 : Nat) : Int) from by omega]
    obtain ⟨out, e1, e2, e3⟩ := ih k (i + 1) (l.set (i : Int).toNat x) (x + 1) (by simpa using hn) (by simp; omega) (by omega) (by omega) (by
      intro j hj
      by_cases e : j = i
      · subst e; simp [List.getD_eq_getElem?_getD, show j < l.length from by omega, hx]
      · have := h j (by omega)
        rw [← this]; simp [List.getD_eq_getElem?_getD, List.getElem?_set, show ¬ i = j from by omega])
    simp only [List.length_set] at e1 e2 e3
    exact ⟨out, e1, e2, e3⟩

theorem mark_f (l : List Int) (hn : l.length ≤ 1048576) (k : Nat) (hk : l.length < k) : ∃ out, laws_markIntS.f k l 1 = some (1 + (l.length : Int), out) ∧ out.length = l.length ∧ ∀ j, j < l.length → out.getD j 0 = 1 + (j : Int) :=
  mark_l0 l.length k 0 l 1 hn (by omega) hk (by omega) (by intro j hj; omega)

theorem held_l0 (out : List Int) (hn : out.length ≤ 1048576) (ho : ∀ j, j < out.length → out.getD j 0 = 1 + (j : Int)) (d : Nat) : ∀ (k i : Nat), i + d = out.length → d < k →
    laws_heldIntS.l0 k out (1 + (i : Int)) (i : Int) = some (1 + (out.length : Int)) := by
  induction d with
  | zero =>
    intro k i hi hk
    obtain ⟨k, rfl⟩ : ∃ m, k = m + 1 := ⟨k - 1, by omega⟩
    simp only [laws_heldIntS.l0]; rw [if_neg (by omega), show (i : Int) = (out.length : Int) from by omega]
  | succ d ih =>
    intro k i hi hk
    obtain ⟨k, rfl⟩ : ∃ m, k = m + 1 := ⟨k - 1, by omega⟩
    simp only [laws_heldIntS.l0, rd_nat]; rw [if_pos (by omega), if_pos (by omega), ho i (by omega), if_pos rfl, w64 (by omega) (by omega), w64 (by omega) (by omega)]
    have := ih k (i + 1) (by omega) (by omega)
    rw [show ((i + 1 : Nat) : Int) = (i : Int) + 1 from by omega] at this
    rw [show (1 : Int) + (i : Int) + 1 = 1 + ((i : Int) + 1) from by omega]; exact this

theorem held_f (out : List Int) (m : Nat) (hm : out.length = m) (hn : m ≤ 1048576) (ho : ∀ j, j < m → out.getD j 0 = 1 + (j : Int)) (k : Nat) (hk : m < k) : laws_heldIntS.f k out 1 = some (1 + (m : Int)) := by
  subst hm
  have := held_l0 out hn ho out.length k 0 (by omega) hk
  unfold laws_heldIntS.f
  simpa using this

def trn (n b x : Int) : Int := Int.tmod (wrap64 (x + b)) n

theorem bfalse {b n : Int} (h : ¬ (0 ≤ b ∧ b ≤ n - 1)) : (decide (0 ≤ b) && decide (b ≤ n - 1)) = false := by
  rw [Bool.eq_false_iff]; simp only [ne_eq, Bool.and_eq_true, decide_eq_true_eq]; exact h

theorem take_succ_map (f : Int → Int) (l : List Int) (i : Nat) (h : i < l.length) : (l.take i).map f ++ [f (l.getD i 0)] = (l.take (i + 1)).map f := by
  have e : l.getD i 0 = l[i] := by simp [List.getD_eq_getElem?_getD, h]
  rw [e, List.take_succ_eq_append_getElem h, List.map_append]; rfl

theorem sturn_l0 (n : Int) (l : List Int) (b : Int) (h0 : n ≠ 0) (hn : l.length ≤ 1048576) (d : Nat) :
    ∀ (k i : Nat), i + d = l.length → d < k → spec_TurnWalk.l0 k n l b ((l.take i).map (trn n b)) (i : Int) = some (l.map (trn n b), true) := by
  induction d with
  | zero =>
    intro k i hi hk
    obtain ⟨k, rfl⟩ : ∃ m, k = m + 1 := ⟨k - 1, by omega⟩
    simp only [spec_TurnWalk.l0]; rw [if_neg (by omega), List.take_of_length_le (by omega)]
  | succ d ih =>
    intro k i hi hk
    obtain ⟨k, rfl⟩ : ∃ m, k = m + 1 := ⟨k - 1, by omega⟩
    simp only [spec_TurnWalk.l0, rd_nat]
    rw [if_pos (by omega), if_pos (by omega), if_neg h0, if_pos (by simp; omega), w64 (x := (i : Int) + 1) (by omega) (by omega), show ((i : Int) + 1) = ((i + 1 : Nat) : Int) from by omega]
    have := take_succ_map (trn n b) l i (by omega)
    unfold trn at this ⊢
    rw [this]
    exact ih k (i + 1) (by omega) (by omega)

theorem iturn_l0 (n : Int) (l : List Int) (b : Int) (h0 : n ≠ 0) (hn : l.length ≤ 1048576) (d : Nat) :
    ∀ (k i : Nat), i + d = l.length → d < k → impl_TurnWalk.l0 k n b ((l.take i).map (trn n b)) l (l.length : Int) (i : Int) = some (l.map (trn n b), true) := by
  induction d with
  | zero =>
    intro k i hi hk
    obtain ⟨k, rfl⟩ : ∃ m, k = m + 1 := ⟨k - 1, by omega⟩
    simp only [impl_TurnWalk.l0]; rw [if_neg (by omega), List.take_of_length_le (by omega)]
  | succ d ih =>
    intro k i hi hk
    obtain ⟨k, rfl⟩ : ∃ m, k = m + 1 := ⟨k - 1, by omega⟩
    simp only [impl_TurnWalk.l0, rd_nat]
    rw [if_pos (by omega), if_pos (by omega), if_pos (by omega), if_neg h0, if_pos (by simp; omega), w64 (x := (i : Int) + 1) (by omega) (by omega), show ((i : Int) + 1) = ((i + 1 : Nat) : Int) from by omega]
    have := take_succ_map (trn n b) l i (by omega)
    unfold trn at this ⊢
    rw [this]
    exact ih k (i + 1) (by omega) (by omega)

theorem both (n : Int) (l : List Int) (b : Int) (hn : l.length ≤ 1048576) : ∃ (r : List Int) (ok : Bool), r.length ≤ 1048576 ∧
    (∀ k, 4 * l.length + 5 ≤ k → spec_TurnWalk.f k n l b = some (r, ok)) ∧ (∀ k, 4 * l.length + 5 ≤ k → impl_TurnWalk.f k n l b = some (r, ok)) := by
  by_cases hc : ((3 ≤ n ∧ n ≤ 8) ∧ good n true l = true) ∧ 0 ≤ b ∧ b ≤ n - 1
  · obtain ⟨⟨⟨h3, h8⟩, hg⟩, hb0, hb1⟩ := hc
    obtain ⟨l3, l24, hr, hs⟩ := good_len hg
    refine ⟨l.map (trn n b), true, by simp; omega, ?_, ?_⟩
    · intro k hk
      unfold spec_TurnWalk.f
      simp only [Option.bind_some]
      rw [closed_f n l hn k (by omega), hg]
      simp only [Option.bind_some]
      rw [if_pos (by simp [h3, h8]), in_f, w64 (x := n - 1) (by omega) (by omega)]
      simp only [Option.bind_some]
      rw [show (decide (0 ≤ b) && decide (b ≤ n - 1)) = true from by simp [hb0, hb1]]
      obtain ⟨k, rfl⟩ : ∃ m, k = m + 1 := ⟨k - 1, by omega⟩
      simp only [spec_TurnWalk.j0]
      rw [if_neg (by simp)]
      have := sturn_l0 n l b (by omega) hn l.length k 0 (by omega) (by omega)
      simpa using this
    · intro k hk
      unfold impl_TurnWalk.f
      obtain ⟨x, hx⟩ := iclosed_f n l true hn k (by omega)
      rw [hx, hg]
      simp only [Option.bind_some]
      rw [if_pos (by simp [h3, h8]), btw_f, w64 (x := n - 1) (by omega) (by omega)]
      simp only [Option.bind_some]
      rw [show (decide (0 ≤ b) && decide (b ≤ n - 1)) = true from by simp [hb0, hb1]]
      obtain ⟨k, rfl⟩ : ∃ m, k = m + 1 := ⟨k - 1, by omega⟩
      simp only [impl_TurnWalk.j0]
      rw [if_neg (by simp)]
      have := iturn_l0 n l b (by omega) hn l.length k 0 (by omega) (by omega)
      simpa using this
  · refine ⟨[], false, by simp, ?_, ?_⟩
    · intro k hk
      unfold spec_TurnWalk.f
      simp only [Option.bind_some]
      rw [closed_f n l hn k (by omega)]
      simp only [Option.bind_some]
      obtain ⟨k, rfl⟩ : ∃ m, k = m + 1 := ⟨k - 1, by omega⟩
      by_cases h1 : (3 ≤ n ∧ n ≤ 8) ∧ good n true l = true
      · rw [if_pos (by simpa [and_assoc] using h1), in_f, w64 (x := n - 1) (by omega) (by omega)]
        simp only [Option.bind_some]
        rw [show (decide (0 ≤ b) && decide (b ≤ n - 1)) = false from bfalse (fun h => hc ⟨h1, h⟩)]
        simp only [spec_TurnWalk.j0]; rw [if_pos (by simp)]
      · rw [if_neg (by simpa [and_assoc] using h1)]
        simp only [spec_TurnWalk.j0]; rw [if_pos (by simp)]
    · intro k hk
      unfold impl_TurnWalk.f
      obtain ⟨x, hx⟩ := iclosed_f n l true hn k (by omega)
      rw [hx]
      simp only [Option.bind_some]
      obtain ⟨k, rfl⟩ : ∃ m, k = m + 1 := ⟨k - 1, by omega⟩
      by_cases h1 : (3 ≤ n ∧ n ≤ 8) ∧ good n true l = true
      · rw [if_pos (by simpa [and_assoc] using h1), btw_f, w64 (x := n - 1) (by omega) (by omega)]
        simp only [Option.bind_some]
        rw [show (decide (0 ≤ b) && decide (b ≤ n - 1)) = false from bfalse (fun h => hc ⟨h1, h⟩)]
        simp only [impl_TurnWalk.j0]; rw [if_pos (by simp)]
      · rw [if_neg (by simpa [and_assoc] using h1)]
        simp only [impl_TurnWalk.j0]; rw [if_pos (by simp)]

theorem FnExactTurnWalk : laws_FnExactTurnWalk.Pure := by
  intro n l b _ _ _ _ _
  by_cases hb : (l.length : Int) > 1048576
  · exact ⟨0, by unfold laws_FnExactTurnWalk.f; rw [if_pos hb]⟩
  · have hn : l.length ≤ 1048576 := by omega
    obtain ⟨r, ok, hr, e1, e2⟩ := both n l b hn
    refine ⟨8 * l.length + r.length + 100, ?_⟩
    unfold laws_FnExactTurnWalk.f
    rw [if_neg hb, toInt_f l hn _ (by omega)]
    simp only [Option.bind_some]
    rw [e1 _ (by omega)]
    simp only [Option.bind_some]
    rw [e2 _ (by omega)]
    simp only [Option.bind_some]
    rw [eqInt_f r (by omega) _ (by omega)]
    simp only [Option.bind_some, if_true]
    rw [show (ok != ok) = false from by simp]
    obtain ⟨k, hk⟩ : ∃ k, 8 * l.length + r.length + 100 = k + 3 := ⟨8 * l.length + r.length + 97, by omega⟩
    rw [hk]
    simp only [laws_FnExactTurnWalk.j0, Bool.false_eq_true, if_false]
    rw [toInt_f l hn _ (by omega)]
    simp only [Option.bind_some]
    rw [eqInt_f l hn _ (by omega)]
    simp only [Option.bind_some, if_true]
    obtain ⟨o1, m1, _, _⟩ := mark_f l hn (k + 2) (by omega)
    rw [m1]
    simp only [Option.bind_some]
    rw [if_neg (by omega), eqInt_f r (by omega) _ (by omega)]
    simp only [Option.bind_some, if_true]
    rw [show (ok != ok) = false from by simp]
    simp only [laws_FnExactTurnWalk.j1, Bool.false_eq_true, if_false]
    obtain ⟨o2, m2, l2, g2⟩ := mark_f r (by omega) (k + 1) (by omega)
    rw [m2]
    simp only [Option.bind_some]
    rw [held_f o2 r.length l2 (by omega) g2 _ (by omega)]
    simp only [Option.bind_some]
    rw [if_neg (by omega), if_pos (by first | rfl | trivial), toInt_f l hn _ (by omega)]
    simp only [Option.bind_some]
    rw [e2 _ (by omega)]
    simp only [Option.bind_some]
    rw [eqInt_f r (by omega) _ (by omega)]
    simp only [Option.bind_some, if_true]
    rw [show (ok != ok) = false from by simp]
    simp only [laws_FnExactTurnWalk.j2, Bool.false_eq_true, if_false]
    rw [held_f o2 r.length l2 (by omega) g2 _ (by omega)]
    simp only [Option.bind_some]
    rw [if_neg (by omega), if_pos (by first | rfl | trivial)]


end Go.Proofs.Ytedlnjcfacadgaa.Pure
