/- Places where two lists differ; the space of boards; in plain Lean. -/
import Derived.Test.YthhnpchjjbjabaaPmE
import Derived.Test.YthhnpchjjbjabaaSpc
import Derived.Test.YthhnpchjjbjabaaTrgP
import Derived.Test.YthhnpchjjbjabaaNear
namespace Go.Proofs.Ythhnpchjjbjabaa.Ai
open Go
set_option linter.unusedVariables false

def dfF (a b : List Int) : Nat → List Int
  | 0 => []
  | k + 1 => dfF a b k ++ (if a.getD k 0 ≠ b.getD k 0 then [(k : Int)] else [])
/-- the places where two lists of one length differ -/
def dfL (a b : List Int) : List Int := dfF a b a.length
theorem dfF_len (a b : List Int) : ∀ k, (dfF a b k).length ≤ k
  | 0 => Nat.le_refl _
  | k + 1 => by
    have := dfF_len a b k
    simp only [dfF, List.length_append]
    split <;> simp <;> omega
theorem dfF_rng (a b : List Int) : ∀ k, ∀ x ∈ dfF a b k, 0 ≤ x ∧ x < k
  | 0, x, h => by simp [dfF] at h
  | k + 1, x, h => by
    simp only [dfF, List.mem_append] at h
    rcases h with h | h
    · have := dfF_rng a b k x h; omega
    · split at h
      · simp only [List.mem_singleton] at h; omega
      · simp at h
theorem dfF_nd (a b : List Int) : ∀ k, (dfF a b k).Pairwise (· < ·)
  | 0 => .nil
  | k + 1 => by
    simp only [dfF]
    rw [List.pairwise_append]
    refine ⟨dfF_nd a b k, by split <;> simp, fun x hx y hy => ?_⟩
    have := dfF_rng a b k x hx
    split at hy
    · simp only [List.mem_singleton] at hy; omega
    · simp at hy
/-- one swap along an edge apart -/
def tsP (es : List (Int × Int)) (a b : List Int) : Bool := decide ((dfL a b).length = 2) && nearB es ((dfL a b).getD 0 0) ((dfL a b).getD 1 0)
def ts2 (a b : List Int) : Bool := decide ((dfL a b).length = 2)

theorem stpI_mono {p q : List Int → List Int → Bool} (h : ∀ x y, p x y = true → q x y = true) (ls : List (List Int)) (i : Nat) : ∀ k, (stpI p ls i k).length ≤ (stpI q ls i k).length
  | 0 => Nat.le_refl _
  | k + 1 => by
    have := stpI_mono h ls i k
    simp only [stpI, List.length_append]
    by_cases e : p (ls.getD i []) (ls.getD (i + 1 + k) []) = true
    · rw [if_pos e, if_pos (h _ _ e)]; omega
    · rw [if_neg e]; simp only [List.length_nil]; omega
theorem stpO_mono {p q : List Int → List Int → Bool} (h : ∀ x y, p x y = true → q x y = true) (ls : List (List Int)) : ∀ k, (stpO p ls k).length ≤ (stpO q ls k).length
  | 0 => Nat.le_refl _
  | k + 1 => by
    have := stpO_mono h ls k
    have := stpI_mono h ls k (ls.length - (k + 1))
    simp only [stpO, List.length_append]
    omega

theorem pmT_len {rec : List Int → List (List Int)} {b : List Int} {N : Nat} (h : ∀ b, (rec b).length ≤ N) : ∀ d c, (pmT rec b d c).length ≤ d * N
  | 0, c => by simp [pmT]
  | d + 1, c => by
    have := pmT_len (b := b) h d (c + 1)
    have h2 := h (b ++ [(c : Int)])
    have h3 : (d + 1) * N = d * N + N := Nat.succ_mul d N
    simp only [pmT, List.length_append]
    split
    · simp only [List.length_nil]; omega
    · omega
theorem pmG_len (n : Nat) : ∀ (f : Nat) (b : List Int), (pmG n f b).length ≤ n ^ f
  | 0, b => by simp [pmG]
  | f + 1, b => by
    have := pmT_len (b := b) (pmG_len n f) n 0
    rw [Nat.pow_succ, Nat.mul_comm]
    exact this

/-- what is to be known of the space of boards -/
def pmAok (n : Nat) : Bool := srtB (pms n) && decide (1 ≤ (pms n).length ∧ (pms n).length ≤ 120) && (pms n).all (fun l => decide (l.length = n)) && decide ((stpO ts2 (pms n) (pms n).length).length ≤ 600) && (pms n).all (fun l => l.all fun x => decide (0 ≤ x ∧ x < 5))
set_option maxRecDepth 20000 in
theorem pmA0 : pmAok 0 = true := by decide +kernel
set_option maxRecDepth 20000 in
theorem pmA1 : pmAok 1 = true := by decide +kernel
set_option maxRecDepth 20000 in
theorem pmA2 : pmAok 2 = true := by decide +kernel
set_option maxRecDepth 20000 in
theorem pmA3 : pmAok 3 = true := by decide +kernel
set_option maxRecDepth 20000 in
theorem pmA4 : pmAok 4 = true := by decide +kernel
set_option maxRecDepth 20000 in
theorem pmA5 : pmAok 5 = true := by decide +kernel
theorem pms_ok {n : Nat} (hn : n ≤ 5) : SrtL (pms n) ∧ (1 ≤ (pms n).length ∧ (pms n).length ≤ 120) ∧ (∀ l ∈ pms n, l.length = n) ∧ (stpO ts2 (pms n) (pms n).length).length ≤ 600 ∧ ∀ l ∈ pms n, ∀ x ∈ l, 0 ≤ x ∧ x < 5 := by
  have h : pmAok n = true := by
    have : n = 0 ∨ n = 1 ∨ n = 2 ∨ n = 3 ∨ n = 4 ∨ n = 5 := by omega
    rcases this with rfl | rfl | rfl | rfl | rfl | rfl
    · exact pmA0
    · exact pmA1
    · exact pmA2
    · exact pmA3
    · exact pmA4
    · exact pmA5
  simp only [pmAok, Bool.and_eq_true, List.all_eq_true, decide_eq_true_eq] at h
  exact ⟨srtB_ok _ h.1.1.1.1, h.1.1.1.2, h.1.1.2, h.1.2, h.2⟩
theorem ts_steps (es : List (Int × Int)) {n : Nat} (hn : n ≤ 5) : (steps (tsP es) (pms n)).length ≤ 600 :=
  Nat.le_trans (stpO_mono (fun x y h => by unfold tsP at h; unfold ts2; exact (Bool.and_eq_true _ _ ▸ h).1) _ _) (pms_ok hn).2.2.2.1

abbrev TsOk (n : Int) (es : List (Int × Int)) : Prop := Grd n es ∧ n ≤ 5
def tsL (n : Int) (es : List (Int × Int)) : List (List Int) := if TsOk n es then pms n.toNat else []
def tsS (n : Int) (es : List (Int × Int)) : List (Int × Int) := if TsOk n es then steps (tsP es) (pms n.toNat) else []
end Go.Proofs.Ythhnpchjjbjabaa.Ai
