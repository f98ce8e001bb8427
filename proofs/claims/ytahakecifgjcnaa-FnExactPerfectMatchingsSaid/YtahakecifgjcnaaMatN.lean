/- How many perfect matchings there are at most, in plain Lean. -/
import Derived.Test.YtahakecifgjcnaaMatA
namespace Go.Proofs.Ytahakecifgjcnaa.Ai
open Go
set_option linter.unusedVariables false

def dblF : Nat → Nat
  | 0 => 1
  | j + 1 => (2 * j + 1) * dblF j
/-- free nodes behind x whose edge with x is not before an edge -/
def freeP (es : List (Int × Int)) (ed : List Int) (x : Int) (k : Nat) (b : Nat) : Bool :=
  decide ((b : Int) ∉ seenL es ed ∧ x < b ∧ 0 < k ∧ ¬ pairLt (x, (b : Int)) (es.getD (es.length - k) (0, 0)))
def freeB (n : Nat) (es : List (Int × Int)) (ed : List Int) (x : Int) (k : Nat) : Nat := (List.range n).countP (freeP es ed x k)
theorem countP_less {α : Type} (p q : α → Bool) : ∀ (l : List α), (∀ x ∈ l, p x = true → q x = true) → l.countP p ≤ l.countP q
  | [], _ => by simp
  | x :: l, h => by
    have ih := countP_less p q l (fun y hy => h y (by simp [hy]))
    have h0 := h x (by simp)
    rw [List.countP_cons, List.countP_cons]
    by_cases hp : p x = true
    · rw [if_pos hp, if_pos (h0 hp)]; omega
    · rw [if_neg hp]; omega
theorem countP_more {α : Type} (p q : α → Bool) : ∀ (l : List α), (∀ x ∈ l, p x = true → q x = true) → (∃ x ∈ l, q x = true ∧ ¬ p x = true) → l.countP p + 1 ≤ l.countP q
  | [], _, h => by obtain ⟨x, hx, _⟩ := h; simp at hx
  | x :: l, h, hx => by
    rw [List.countP_cons, List.countP_cons]
    by_cases hq : q x = true ∧ ¬ p x = true
    · have := countP_less p q l (fun y hy => h y (by simp [hy]))
      rw [if_neg hq.2, if_pos hq.1]; omega
    · have ih := countP_more p q l (fun y hy => h y (by simp [hy])) (by
        obtain ⟨y, hy, h1⟩ := hx
        rcases List.mem_cons.1 hy with rfl | hy
        · exact absurd h1 hq
        · exact ⟨y, hy, h1⟩)
      have h0 := h x (by simp)
      by_cases hp : p x = true
      · rw [if_pos hp, if_pos (h0 hp)]; omega
      · rw [if_neg hp]; omega

theorem perm_cover {n : Int} {es : List (Int × Int)} {M : List Int} (hn : 0 ≤ n) (hM : Mgo n es M) (hl : 2 * M.length = n.toNat) {z : Int} (hz : 0 ≤ z ∧ z < n) : z ∈ seenL es M := by
  apply Decidable.byContradiction
  intro hc
  have hnd : (z :: seenL es M).Nodup := List.nodup_cons.2 ⟨hc, hM.1⟩
  have := nodup_le n.toNat (z :: seenL es M) hnd (fun y hy => by
    rcases List.mem_cons.1 hy with rfl | hy
    · omega
    · have := hM.2 y hy; omega)
  rw [List.length_cons, seenL_len] at this
  omega
/-- what is added comes from the last k edges -/
theorem mall_new (es : List (Int × Int)) : ∀ (k : Nat) (ed : List Int), k ≤ es.length → ∀ M ∈ mall es k ed, ∃ r, M = ed ++ r ∧ ∀ e ∈ r, ((es.length - k : Nat) : Int) ≤ e ∧ e < es.length
  | 0, ed, _, M, h => by simp [mall] at h
  | k + 1, ed, hk, M, h => by
    simp only [mall, List.mem_append] at h
    rcases h with h | h
    · split at h
      · simp only [List.mem_cons] at h
        rcases h with rfl | h
        · refine ⟨_, rfl, fun e he => ?_⟩
          simp only [List.mem_cons, List.not_mem_nil, or_false] at he
          subst he; omega
        · obtain ⟨r, h1, h2⟩ := mall_new es k _ (by omega) M h
          refine ⟨((es.length - (k + 1) : Nat) : Int) :: r, by rw [h1, List.append_assoc]; rfl, fun e he => ?_⟩
          rcases List.mem_cons.1 he with rfl | he
          · omega
          · have := h2 e he; omega
      · simp at h
    · obtain ⟨r, h1, h2⟩ := mall_new es k ed (by omega) M h
      exact ⟨r, h1, fun e he => by have := h2 e he; omega⟩
theorem seenL_append (es : List (Int × Int)) (xs ys : List Int) : seenL es (xs ++ ys) = seenL es xs ++ seenL es ys := by simp [seenL]
theorem seenL_mem (es : List (Int × Int)) (xs : List Int) (z : Int) : z ∈ seenL es xs ↔ ∃ e ∈ xs, z = ed1 es e ∨ z = ed2 es e := by
  unfold seenL
  simp only [List.mem_flatMap, List.mem_cons, List.not_mem_nil, or_false]
/-- edges ascend -/
theorem grd_asc {n : Int} {es : List (Int × Int)} (hg : Grd n es) {i j : Nat} (hij : i < j) (hj : j < es.length) : pairLt (es.getD i (0, 0)) (es.getD j (0, 0)) := by
  induction j with
  | zero => omega
  | succ j ih =>
    have h1 := (hg.2 (j + 1) hj).2.2.2 (by omega)
    rw [Nat.add_sub_cancel] at h1
    by_cases h : i = j
    · subst h; exact h1
    · have h2 := ih (by omega) (by omega)
      unfold pairLt at h1 h2 ⊢
      omega

theorem grd_asc1 {n : Int} {es : List (Int × Int)} (hg : Grd n es) {i j : Nat} (hij : i ≤ j) (hj : j < es.length) : (es.getD i (0, 0)).1 ≤ (es.getD j (0, 0)).1 := by
  by_cases h : i = j
  · subst h; exact Int.le_refl _
  · have := grd_asc hg (show i < j by omega) hj
    unfold pairLt at this
    omega

theorem mlpE_le {n : Int} {es : List (Int × Int)} (hg : Grd n es) {h D : Nat} (hn : n.toNat = 2 * h) {ed : List Int} (hm : Mgo n es ed) {x : Int} (hx : (0 ≤ x ∧ x < n) ∧ x ∉ seenL es ed) (hmin : ∀ z, 0 ≤ z → z < x → z ∈ seenL es ed)
    (hrec : ∀ k e, k ≤ es.length → e.toNat < es.length → frE es ed e → Mgo n es (ed ++ [e]) → (mext es k (ed ++ [e]) h).length ≤ D) :
    ∀ k, k ≤ es.length → (mlpE es k ed h).length ≤ freeB n.toNat es ed x k * D
  | 0, _ => by simp [mlpE, mall]
  | k + 1, hk => by
    have ih := mlpE_le hg hn hm hx hmin hrec k (by omega)
    have hstep := mlpE_step es k ed h
    generalize he : es.length - (k + 1) = e at hstep
    have hel : e < es.length := by omega
    obtain ⟨a1, a2, a3, _⟩ := hg.2 e hel
    have b1 : ed1 es (e : Int) = (es.getD e (0, 0)).1 := by unfold ed1; rw [Int.toNat_natCast]
    have b2 : ed2 es (e : Int) = (es.getD e (0, 0)).2 := by unfold ed2; rw [Int.toNat_natCast]
    have sub : ∀ b ∈ List.range n.toNat, freeP es ed x k b = true → freeP es ed x (k + 1) b = true := by
      intro b _ hb
      unfold freeP at hb ⊢
      rw [decide_eq_true_iff] at hb ⊢
      refine ⟨hb.1, hb.2.1, by omega, ?_⟩
      rw [he]
      have h1 := hb.2.2.2
      have hk0 := hb.2.2.1
      have h2 := grd_asc hg (show e < es.length - k by omega) (by omega)
      unfold pairLt at h1 h2 ⊢
      simp only at h1 ⊢
      omega
    have mono := countP_less _ _ _ sub
    have skip : ¬ frE es ed (e : Int) → (mlpE es (k + 1) ed h).length ≤ freeB n.toNat es ed x (k + 1) * D := by
      intro hf
      rw [if_neg hf, List.nil_append] at hstep
      rw [hstep]
      exact Nat.le_trans ih (Nat.mul_le_mul_right _ mono)
    rcases Int.lt_trichotomy (es.getD e (0, 0)).1 x with hc | hc | hc
    · refine skip (fun hf => hf.1 ?_)
      rw [b1]
      exact hmin _ a1 hc
    · by_cases hf : frE es ed (e : Int)
      · rw [if_pos hf] at hstep
        rw [hstep, List.length_append]
        have h1 := hrec k (e : Int) (by omega) (by rw [Int.toNat_natCast]; exact hel) hf (hm.snoc hg (by rw [Int.toNat_natCast]; exact hel) hf)
        have more := countP_more _ _ _ sub ⟨(es.getD e (0, 0)).2.toNat, List.mem_range.2 (by omega), by
          unfold freeP
          rw [decide_eq_true_iff]
          have e2 : (((es.getD e (0, 0)).2.toNat : Nat) : Int) = (es.getD e (0, 0)).2 := by omega
          rw [e2]
          refine ⟨?_, by omega, by omega, ?_⟩
          · have := hf.2
            rwa [b2] at this
          · rw [he]
            unfold pairLt
            simp only
            omega, by
          unfold freeP
          rw [decide_eq_true_iff]
          have e2 : (((es.getD e (0, 0)).2.toNat : Nat) : Int) = (es.getD e (0, 0)).2 := by omega
          rw [e2]
          rintro ⟨_, _, h3, h4⟩
          apply h4
          have h2 := grd_asc hg (show e < es.length - k by omega) (by omega)
          unfold pairLt at h2 ⊢
          simp only
          omega⟩
        have : (freeB n.toNat es ed x k + 1) * D ≤ freeB n.toNat es ed x (k + 1) * D := Nat.mul_le_mul_right _ more
        rw [Nat.add_mul, Nat.one_mul] at this
        omega
      · exact skip hf
    · have hnil : mlpE es (k + 1) ed h = [] := by
        unfold mlpE
        rw [List.filter_eq_nil_iff]
        intro M hM hl
        have hl' : M.length = h := of_decide_eq_true hl
        have hMg := Mgo.all hg (k + 1) ed hk hm M hM
        have hin := perm_cover hg.1.1 hMg (by omega) hx.1
        obtain ⟨r, hr, hre⟩ := mall_new es (k + 1) ed hk M hM
        rw [hr, seenL_append, List.mem_append] at hin
        rcases hin with hin | hin
        · exact hx.2 hin
        · rw [seenL_mem] at hin
          obtain ⟨e', he', hz⟩ := hin
          have hrg := hre e' he'
          rw [he] at hrg
          have hle := grd_asc1 hg (show e ≤ e'.toNat by omega) (by omega)
          obtain ⟨_, c2, _, _⟩ := hg.2 e'.toNat (by omega)
          unfold ed1 ed2 at hz
          omega
      rw [hnil]; simp

theorem all_in : ∀ (m : Nat) (l : List Int), (∀ z : Nat, z < m → (z : Int) ∈ l) → m ≤ l.length
  | 0, _, _ => Nat.zero_le _
  | m + 1, l, h => by
    have hm := h m (by omega)
    have := all_in m (l.erase (m : Int)) (fun z hz => (List.mem_erase_of_ne (by omega)).2 (h z (by omega)))
    rw [List.length_erase_of_mem hm] at this
    have : 0 < l.length := List.length_pos_of_mem hm
    omega
theorem least_free (l : List Int) : ∀ m : Nat, (∀ z : Nat, z < m → (z : Int) ∈ l) ∨ ∃ x : Nat, x < m ∧ (x : Int) ∉ l ∧ ∀ z : Nat, z < x → (z : Int) ∈ l
  | 0 => .inl fun z hz => absurd hz (Nat.not_lt_zero z)
  | m + 1 => by
    rcases least_free l m with h | ⟨x, h1, h2, h3⟩
    · by_cases hm : (m : Int) ∈ l
      · left
        intro z hz
        rcases Nat.lt_succ_iff_lt_or_eq.1 hz with g | g
        · exact h z g
        · rw [g]; exact hm
      · exact .inr ⟨m, by omega, hm, h⟩
    · exact .inr ⟨x, by omega, h2, h3⟩

theorem perf_le {n : Int} {es : List (Int × Int)} (hg : Grd n es) {h : Nat} (hn : n.toNat = 2 * h) : ∀ (j : Nat) (ed : List Int), ed.length + j = h → Mgo n es ed → ∀ k, k ≤ es.length → (mext es k ed h).length ≤ dblF j
  | 0, ed, hl, _, k, _ => by
    have : h = ed.length := by omega
    rw [this, mext_done]; simp [dblF]
  | j + 1, ed, hl, hm, k, hk => by
    rw [mext_loop es k ed h (by omega)]
    have hnn := hg.1
    rcases least_free (seenL es ed) n.toNat with hall | ⟨x, h1, h2, h3⟩
    · have := all_in _ _ hall
      rw [seenL_len] at this
      omega
    · have main := mlpE_le hg hn hm (x := (x : Int)) (D := dblF j) ⟨by omega, h2⟩ (fun z hz0 hzx => by
        obtain ⟨y, rfl⟩ : ∃ y : Nat, z = y := ⟨z.toNat, by omega⟩
        exact h3 y (by omega)) (fun k' e hk' he hf hmg => perf_le hg hn j (ed ++ [e]) (by simp; omega) hmg k' hk') k hk
      refine Nat.le_trans main (Nat.mul_le_mul_right _ ?_)
      unfold freeB
      rw [List.countP_eq_length_filter]
      have hnd : ((x : Int) :: (((List.range n.toNat).filter (freeP es ed (x : Int) k)).map fun b : Nat => (b : Int)) ++ seenL es ed).Nodup := by
        have q1 : (((List.range n.toNat).filter (freeP es ed (x : Int) k)).map fun b : Nat => (b : Int)).Nodup := by
          refine List.Pairwise.map _ ?_ (List.nodup_range.filter _)
          intro a b hab e
          exact hab (by omega)
        have q2 : ∀ b ∈ (((List.range n.toNat).filter (freeP es ed (x : Int) k)).map fun b : Nat => (b : Int)), b ∉ seenL es ed ∧ (x : Int) < b := by
          intro b hb
          obtain ⟨c, hc, rfl⟩ := List.mem_map.1 hb
          have := (List.mem_filter.1 hc).2
          unfold freeP at this
          have := of_decide_eq_true this
          exact ⟨this.1, this.2.1⟩
        rw [List.cons_append, List.nodup_cons, List.nodup_append]
        refine ⟨?_, q1, hm.1, ?_⟩
        · rw [List.mem_append, not_or]
          exact ⟨fun hx => by have := (q2 _ hx).2; omega, h2⟩
        · intro a ha b hb hab
          subst hab
          exact (q2 _ ha).1 hb
      have := nodup_le n.toNat _ hnd (fun z hz => by
        rw [List.cons_append] at hz
        rcases List.mem_cons.1 hz with rfl | hz
        · omega
        · rcases List.mem_append.1 hz with hz | hz
          · obtain ⟨c, hc, rfl⟩ := List.mem_map.1 hz
            have := List.mem_range.1 (List.mem_filter.1 hc).1
            omega
          · have := hm.2 z hz; omega)
      simp only [List.cons_append, List.length_cons, List.length_append, List.length_map, seenL_len] at this
      omega
theorem perfect_le {n : Int} {es : List (Int × Int)} (hg : Grd n es) {h : Nat} (hn : n.toNat = 2 * h) : (mext es es.length [] h).length ≤ 105 := by
  have h1 := perf_le hg hn h [] (by simp) (Mgo.nil n es) es.length (Nat.le_refl _)
  have hnn := hg.1
  have : h = 0 ∨ h = 1 ∨ h = 2 ∨ h = 3 ∨ h = 4 := by omega
  rcases this with rfl | rfl | rfl | rfl | rfl <;> exact Nat.le_trans h1 (by decide)
end Go.Proofs.Ytahakecifgjcnaa.Ai
