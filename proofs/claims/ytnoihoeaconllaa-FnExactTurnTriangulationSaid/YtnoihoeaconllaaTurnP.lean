/- Triangulations that are turned, in plain Lean. No condition. -/
import Derived.Test.YtnoihoeaconllaaAt
import Derived.Test.YtnoihoeaconllaaPutP
namespace Go.Proofs.Ytnoihoeaconllaa.Ai
open Go

/-- a corner turned, and perhaps mirrored -/
def trnC (n b : Int) (mir : Bool) (x : Int) : Int := ((if mir = true then n - 1 - x else x) + b).tmod n
def trnD (n b : Int) (mir : Bool) (d : Int) : Int :=
  10 * (if trnC n b mir (d.tdiv 10) < trnC n b mir (d.tmod 10) then trnC n b mir (d.tdiv 10) else trnC n b mir (d.tmod 10)) + (if trnC n b mir (d.tmod 10) < trnC n b mir (d.tdiv 10) then trnC n b mir (d.tdiv 10) else trnC n b mir (d.tmod 10))

theorem dgs_bd : ∀ n : Fin 9, 3 ≤ n.val → ∀ d ∈ dgs (n.val : Int) n.val, (0 ≤ d.tdiv 10 ∧ d.tdiv 10 ≤ n.val - 1) ∧ (0 ≤ d.tmod 10 ∧ d.tmod 10 ≤ n.val - 1) := by decide +kernel
theorem trn_nodup : ∀ n : Fin 9, 3 ≤ n.val → ∀ b : Fin 9, b.val < n.val → ∀ mir : Bool, ((dgs (n.val : Int) n.val).map (trnD n.val b.val mir)).Nodup := by decide +kernel

theorem inj_of_nodup {L : List Int} {f : Int → Int} (h : (L.map f).Nodup) {a b : Int} (ha : a ∈ L) (hb : b ∈ L) (e : f a = f b) : a = b := by
  obtain ⟨i, hi, ei⟩ := List.getElem_of_mem ha
  obtain ⟨j, hj, ej⟩ := List.getElem_of_mem hb
  rw [List.Nodup, List.pairwise_iff_getElem] at h
  rcases Nat.lt_trichotomy i j with hij | hij | hij
  · have := h i j (by simpa using hi) (by simpa using hj) hij
    simp only [List.getElem_map, ei, ej] at this
    exact absurd e this
  · subst hij; rw [← ei, ← ej]
  · have := h j i (by simpa using hj) (by simpa using hi) hij
    simp only [List.getElem_map, ei, ej] at this
    exact absurd e.symm this

theorem Tri1.nodup {n : Int} {xs : List Int} (h : Tri1 n xs) : xs.Nodup := by
  have h2 := h.2
  unfold triS triOkS at h2
  simp only [Bool.and_eq_true, List.all_eq_true, decide_eq_true_eq, Bool.or_eq_true] at h2
  have step : ∀ i, 0 < i → i < xs.length → xs.getD (i - 1) 0 < xs.getD i 0 := by
    intro i h0 hi
    rcases (h2.1 i (List.mem_range.2 hi)).1.2 with e | e
    · omega
    · exact e
  have lt : ∀ d i, i + d + 1 < xs.length → xs.getD i 0 < xs.getD (i + d + 1) 0 := by
    intro d
    induction d with
    | zero => intro i hi; have := step (i + 1) (by omega) hi; simpa using this
    | succ d ih =>
      intro i hi
      have h1 := ih i (by omega)
      have h2 := step (i + (d + 1) + 1) (by omega) hi
      rw [show i + (d + 1) + 1 - 1 = i + d + 1 from by omega] at h2
      omega
  rw [List.Nodup, List.pairwise_iff_getElem]
  intro i j hi hj hij
  have := lt (j - i - 1) i (by omega)
  rw [show i + (j - i - 1) + 1 = j from by omega] at this
  simp only [List.getD_eq_getElem?_getD, List.getElem?_eq_getElem hi, List.getElem?_eq_getElem hj, Option.getD_some] at this
  omega

theorem trn_list {n b : Int} {mir : Bool} {xs : List Int} (h : Tri1 n xs) (hb : 0 ≤ b ∧ b ≤ n - 1) : (xs.map (trnD n b mir)).Nodup := by
  have hn := h.1
  obtain ⟨N, rfl⟩ : ∃ N : Nat, n = N := ⟨n.toNat, by omega⟩
  obtain ⟨B, rfl⟩ : ∃ B : Nat, b = B := ⟨b.toNat, by omega⟩
  have key := trn_nodup ⟨N, by omega⟩ (by show 3 ≤ N; omega) ⟨B, by omega⟩ (by show B < N; omega) mir
  have hx := h.nodup
  rw [List.Nodup, List.pairwise_iff_getElem] at hx ⊢
  intro i j hi hj hij
  simp only [List.length_map] at hi hj
  have hne := hx i j hi hj hij
  simp only [List.getElem_map]
  intro e
  have m1 := h.mem (List.getElem_mem hi)
  have m2 := h.mem (List.getElem_mem hj)
  simp only [Int.toNat_natCast] at m1 m2
  exact hne (inj_of_nodup key m1 m2 e)

theorem corner_bd {n d : Int} {xs : List Int} (h : Tri1 n xs) (hd : d ∈ xs) : (0 ≤ d.tdiv 10 ∧ d.tdiv 10 ≤ n - 1) ∧ (0 ≤ d.tmod 10 ∧ d.tmod 10 ≤ n - 1) := by
  have hn := h.1
  obtain ⟨N, rfl⟩ : ∃ N : Nat, n = N := ⟨n.toNat, by omega⟩
  have m := h.mem hd
  simp only [Int.toNat_natCast] at m
  have := dgs_bd ⟨N, by omega⟩ (by show 3 ≤ N; omega) d m
  simpa using this
theorem trnC_bd {n b x : Int} {mir : Bool} (hn : 3 ≤ n ∧ n ≤ 8) (hb : 0 ≤ b ∧ b ≤ n - 1) (hx : 0 ≤ x ∧ x ≤ n - 1) : 0 ≤ trnC n b mir x ∧ trnC n b mir x ≤ n - 1 := by
  unfold trnC
  have h1 := Int.tmod_nonneg n (show 0 ≤ (if mir = true then n - 1 - x else x) + b by split <;> omega)
  have h2 := Int.tmod_lt_of_pos ((if mir = true then n - 1 - x else x) + b) (show 0 < n by omega)
  omega
theorem trnD_bd {n b d : Int} {mir : Bool} {xs : List Int} (h : Tri1 n xs) (hd : d ∈ xs) (hb : 0 ≤ b ∧ b ≤ n - 1) : 0 ≤ trnD n b mir d ∧ trnD n b mir d ≤ 100 := by
  obtain ⟨c1, c2⟩ := corner_bd h hd
  have t1 := trnC_bd (mir := mir) h.1 hb c1
  have t2 := trnC_bd (mir := mir) h.1 hb c2
  have := h.1
  unfold trnD
  split <;> split <;> omega

def turnOk (n : Int) (xs : List Int) (b : Int) : Prop := Tri1 n xs ∧ 0 ≤ b ∧ b ≤ n - 1
instance (n : Int) (xs : List Int) (b : Int) : Decidable (turnOk n xs b) := inferInstanceAs (Decidable (_ ∧ _))
def turnR (n : Int) (xs : List Int) (b : Int) (mir : Bool) : List Int := if turnOk n xs b then puts (xs.map (trnD n b mir)) else []
theorem turnR_len (n : Int) (xs : List Int) (b : Int) (mir : Bool) : (turnR n xs b mir).length ≤ 1099511627776 := by
  unfold turnR
  split
  · rename_i h
    have h1 := (puts_perm _ _ rfl (trn_list (mir := mir) h.1 h.2)).1.length_eq
    have h2 := h.1.len
    have h3 := h.1.1
    rw [h1]; simp; omega
  · simp
end Go.Proofs.Ytnoihoeaconllaa.Ai
