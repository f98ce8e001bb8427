/- Moves of boards: token swaps and slides; the first shortest lists of moves; in plain Lean. -/
import Derived.Test.YthhnpchjjbjabaaBrdP
import Derived.Test.YthhnpchjjbjabaaSrtP
import Derived.Test.YthhnpchjjbjabaaNear
namespace Go.Proofs.Ythhnpchjjbjabaa.Ai
open Go
set_option linter.unusedVariables false

/-- is the hole at an edge -/
def holeB (p : List Int) (e : Int × Int) : Bool := decide (p.getD e.1.toNat 0 = 0) || decide (p.getD e.2.toNat 0 = 0)
def mvs (es : List (Int × Int)) (sl : Bool) (p : List Int) : List (Int × Int) := es.filter fun e => !sl || holeB p e
def nxt (es : List (Int × Int)) (sl : Bool) (p : List Int) : List (List Int) := (mvs es sl p).map fun e => swp p e.1.toNat e.2.toNat
theorem mvs_mem {es : List (Int × Int)} {sl : Bool} {p : List Int} {e : Int × Int} (h : e ∈ mvs es sl p) : e ∈ es ∧ (sl = true → holeB p e = true) := by
  unfold mvs at h
  have := List.mem_filter.1 h
  refine ⟨this.1, fun hs => ?_⟩
  have h2 := this.2
  rw [hs] at h2
  simpa using h2
theorem mvs_len (es : List (Int × Int)) (sl : Bool) (p : List Int) : (mvs es sl p).length ≤ es.length := List.length_filter_le _ _
theorem nxt_len (es : List (Int × Int)) (sl : Bool) (p : List Int) : (nxt es sl p).length = (mvs es sl p).length := by simp [nxt]
theorem nxt_bd {n : Nat} {es : List (Int × Int)} (hg : Grd (n : Int) es) (sl : Bool) {b : List Int} (hb : Bd n b) : ∀ c ∈ nxt es sl b, Bd n c := by
  intro c hc
  obtain ⟨e, he, rfl⟩ := List.mem_map.1 hc
  obtain ⟨h1, h2, h3⟩ := grd_mem hg (mvs_mem he).1
  exact ⟨swp_prm hb.1 (by rw [hb.2]; omega) (by rw [hb.2]; omega), by rw [swp_len]; exact hb.2⟩
theorem swp_inv {p : List Int} {a b : Nat} (ha : a < p.length) (hb : b < p.length) : swp (swp p a b) a b = p := by
  apply List.ext_getElem?
  intro i
  by_cases hi : i < p.length
  · have h1 := swp_at (swp p a b) a b i (by rw [swp_len]; exact ha) (by rw [swp_len]; exact hb) (by rw [swp_len]; exact hi)
    have h2 := swp_at p a b a ha hb ha
    have h3 := swp_at p a b b ha hb hb
    have h4 := swp_at p a b i ha hb hi
    have key : (swp (swp p a b) a b).getD i 0 = p.getD i 0 := by
      rw [h1, h2, h3, h4]
      by_cases e1 : i = b
      · subst e1
        rw [if_pos rfl]
        by_cases e2 : a = i
        · rw [if_pos e2, e2]
        · rw [if_neg e2, if_pos rfl]
      · rw [if_neg e1]
        by_cases e2 : i = a
        · subst e2; rw [if_pos rfl, if_pos rfl]
        · rw [if_neg e2, if_neg e1, if_neg e2]
    rw [List.getElem?_eq_getElem (by rw [swp_len, swp_len]; exact hi), List.getElem?_eq_getElem hi]
    simp only [List.getD_eq_getElem?_getD] at key
    rw [List.getElem?_eq_getElem (by rw [swp_len, swp_len]; exact hi), List.getElem?_eq_getElem hi] at key
    simpa using key
  · rw [List.getElem?_eq_none (by rw [swp_len, swp_len]; omega), List.getElem?_eq_none (by omega)]
/-- moves are undone by moves -/
theorem nxt_back {n : Nat} {es : List (Int × Int)} (hg : Grd (n : Int) es) (sl : Bool) {b c : List Int} (hb : Bd n b) (hc : c ∈ nxt es sl b) : b ∈ nxt es sl c := by
  obtain ⟨e, he, rfl⟩ := List.mem_map.1 hc
  obtain ⟨h0, hs⟩ := mvs_mem he
  obtain ⟨h1, h2, h3⟩ := grd_mem hg h0
  have l1 : e.1.toNat < b.length := by rw [hb.2]; omega
  have l2 : e.2.toNat < b.length := by rw [hb.2]; omega
  refine List.mem_map.2 ⟨e, ?_, swp_inv l1 l2⟩
  unfold mvs
  refine List.mem_filter.2 ⟨h0, ?_⟩
  cases sl with
  | false => rfl
  | true =>
    have hh := hs rfl
    unfold holeB at hh ⊢
    have e1 := swp_at b e.1.toNat e.2.toNat e.1.toNat l1 l2 l1
    have e2 := swp_at b e.1.toNat e.2.toNat e.2.toNat l1 l2 l2
    rw [if_neg (by omega), if_pos rfl] at e1
    rw [if_pos rfl] at e2
    rw [e1, e2]
    simp only [Bool.not_true, Bool.false_or]
    rw [Bool.or_comm]; exact hh

/-- all boards that are reached -/
def bdR (es : List (Int × Int)) (sl : Bool) (p : List Int) : List (List Int × Int) := bdA (nxt es sl) p
theorem bdR_I {n : Nat} (hn : n ≤ 6) {es : List (Int × Int)} (hg : Grd (n : Int) es) (sl : Bool) {p : List Int} (hp : Bd n p) : BdI n (nxt es sl) p (bdR es sl p) (bdR es sl p).length :=
  bdA_I hn (fun b hb => nxt_bd hg sl hb) hp
/-- a board that is reached has, if it is not the first one, a move to one that is nearer; all moves of it lead to known ones -/
theorem bdR_down {n : Nat} (hn : n ≤ 6) {es : List (Int × Int)} (hg : Grd (n : Int) es) (sl : Bool) {p b : List Int} (hp : Bd n p) {d : Int} (hd : bdD (bdR es sl p) b = some d) (h0 : 0 < d) :
    ∃ e ∈ mvs es sl b, bdD (bdR es sl p) (swp b e.1.toNat e.2.toNat) = some (d - 1) := by
  have hI := bdR_I hn hg sl hp
  have hm := bdD_mem hd
  have hb := hI.ok _ hm
  rcases hI.src _ hm with h | ⟨u, h1, h2, h3⟩
  · simp only [Prod.mk.injEq] at h; omega
  · have hub := nxt_back hg sl (hI.ok u h1) h2
    obtain ⟨e, he, hq⟩ := List.mem_map.1 hub
    refine ⟨e, he, ?_⟩
    have hu := bdD_some hI.nd h1
    rw [hq, hu]
    have h3' : d = u.2 + 1 := h3
    rw [h3']; congr 1; omega
theorem bdR_known {n : Nat} (hn : n ≤ 6) {es : List (Int × Int)} (hg : Grd (n : Int) es) (sl : Bool) {p b : List Int} (hp : Bd n p) {d : Int} (hd : bdD (bdR es sl p) b = some d) {c : List Int} (hc : c ∈ nxt es sl b) :
    ∃ x, bdD (bdR es sl p) c = some x ∧ 0 ≤ x := by
  have hI := bdR_I hn hg sl hp
  have hm := bdD_mem hd
  obtain ⟨j, hj, e⟩ := List.mem_iff_getElem.1 hm
  have hcl := hI.cl j hj c (by
    have : (bdR es sl p).getD j ([], 0) = (b, d) := by simp [hj, e]
    rw [this]; exact hc)
  obtain ⟨e, h1, h2⟩ := List.mem_map.1 hcl
  have := hI.rng e h1
  exact ⟨e.2, by rw [← h2]; exact bdD_some hI.nd h1, this.1⟩
/-- the first shortest list of moves: each with the board before it -/
def fst1 (S : List (List Int × Int)) (es : List (Int × Int)) (sl : Bool) (d : Int) (b : List Int) : Option (Int × Int) := (mvs es sl b).find? fun e => decide (bdD S (swp b e.1.toNat e.2.toNat) = some d)
def pthL (S : List (List Int × Int)) (es : List (Int × Int)) (sl : Bool) : Nat → List Int → List ((Int × Int) × List Int)
  | 0, _ => []
  | d + 1, b => match fst1 S es sl (d : Int) b with
    | some e => (e, b) :: pthL S es sl d (swp b e.1.toNat e.2.toNat)
    | none => []
theorem fst1_some {n : Nat} (hn : n ≤ 6) {es : List (Int × Int)} (hg : Grd (n : Int) es) (sl : Bool) {p b : List Int} (hp : Bd n p) {d : Nat} (hd : bdD (bdR es sl p) b = some ((d + 1 : Nat) : Int)) :
    ∃ e, fst1 (bdR es sl p) es sl (d : Int) b = some e ∧ e ∈ mvs es sl b ∧ bdD (bdR es sl p) (swp b e.1.toNat e.2.toNat) = some (d : Int) := by
  obtain ⟨e, h1, h2⟩ := bdR_down hn hg sl hp hd (by omega)
  have e1 : ((d + 1 : Nat) : Int) - 1 = (d : Int) := by omega
  rw [e1] at h2
  cases hf : fst1 (bdR es sl p) es sl (d : Int) b with
  | none =>
    unfold fst1 at hf
    rw [List.find?_eq_none] at hf
    exact absurd (decide_eq_true h2) (hf e h1)
  | some x =>
    refine ⟨x, rfl, List.mem_of_find?_eq_some hf, ?_⟩
    have := List.find?_some hf
    simpa using this
theorem pthL_len {n : Nat} (hn : n ≤ 6) {es : List (Int × Int)} (hg : Grd (n : Int) es) (sl : Bool) {p : List Int} (hp : Bd n p) : ∀ (d : Nat) (b : List Int), bdD (bdR es sl p) b = some (d : Int) → (pthL (bdR es sl p) es sl d b).length = d
  | 0, b, _ => rfl
  | d + 1, b, h => by
    obtain ⟨e, h1, h2, h3⟩ := fst1_some hn hg sl hp h
    simp only [pthL, h1, List.length_cons]
    rw [pthL_len hn hg sl hp d _ h3]

/-- the other end of an edge with the hole -/
def othB (b : List Int) (e : Int × Int) : Int := if b.getD e.1.toNat 0 = 0 then e.2 else e.1
theorem srt_extM {a b : List Int} (ha : a.Pairwise (· < ·)) (hb : b.Pairwise (· < ·)) (h : ∀ z, z ∈ a ↔ z ∈ b) : a = b := by
  induction a generalizing b with
  | nil =>
    cases b with
    | nil => rfl
    | cons y b => exact absurd ((h y).2 (by simp)) (by simp)
  | cons x a ih =>
    cases b with
    | nil => exact absurd ((h x).1 (by simp)) (by simp)
    | cons y b =>
      have ha' := List.pairwise_cons.1 ha
      have hb' := List.pairwise_cons.1 hb
      have hxy : x = y := by
        rcases List.mem_cons.1 ((h x).1 (by simp)) with e | e
        · exact e
        · rcases List.mem_cons.1 ((h y).2 (by simp)) with e2 | e2
          · exact e2.symm
          · have := hb'.1 x e
            have := ha'.1 y e2
            omega
      subst hxy
      rw [ih ha'.2 hb'.2 fun z => ?_]
      constructor
      · intro hz
        rcases List.mem_cons.1 ((h z).1 (by simp [hz])) with e | e
        · have := ha'.1 z hz; omega
        · exact e
      · intro hz
        rcases List.mem_cons.1 ((h z).2 (by simp [hz])) with e | e
        · have := hb'.1 z hz; omega
        · exact e
theorem grd_pw {n : Int} {es : List (Int × Int)} (hg : Grd n es) : es.Pairwise pairLt := by
  rw [List.pairwise_iff_getElem]
  have at_ : ∀ i (h : i < es.length), es.getD i (0, 0) = es[i] := fun i h => by simp [h]
  have key : ∀ (k i : Nat), i + k + 1 < es.length → pairLt (es.getD i (0, 0)) (es.getD (i + k + 1) (0, 0)) := by
    intro k
    induction k with
    | zero =>
      intro i hi
      have := (hg.2 (i + 1) hi).2.2.2 (by omega)
      simpa using this
    | succ k ih =>
      intro i hi
      have h1 := ih i (by omega)
      have h2 := (hg.2 (i + (k + 1) + 1) hi).2.2.2 (by omega)
      have e : i + (k + 1) + 1 - 1 = i + k + 1 := by omega
      rw [e] at h2
      unfold pairLt at *
      omega
  intro i j hi hj hij
  have := key (j - i - 1) i (by omega)
  rw [show i + (j - i - 1) + 1 = j by omega, at_ i hi, at_ j hj] at this
  exact this
theorem grd_few {n : Int} {es : List (Int × Int)} (hg : Grd n es) : es.length ≤ 64 := by
  have hp := grd_pw hg
  have hn := hg.1
  have h8 : ∀ e ∈ es, 0 ≤ e.1 ∧ e.1 < 8 ∧ 0 ≤ e.2 ∧ e.2 < 8 := fun e he => by
    have := grd_mem hg he; omega
  have := nodupI_le 64 (es.map fun e => 8 * e.1 + e.2) (by
    rw [List.Nodup, List.pairwise_map]
    refine List.Pairwise.imp_of_mem ?_ hp
    intro a b ha hb hab e
    have h1 := h8 a ha
    have h2 := h8 b hb
    unfold pairLt at hab
    omega) (fun x hx => by
    obtain ⟨e, he, rfl⟩ := List.mem_map.1 hx
    have := h8 e he
    omega)
  simpa using this
/-- the ends of the edges at the hole rise -/
theorem oth_srt {n : Nat} {es : List (Int × Int)} (hg : Grd (n : Int) es) {b : List Int} (hb : Bd n b) {h : Nat} (hh : h < n) (h0 : b.getD h 0 = 0) :
    ((mvs es true b).map (othB b)).Pairwise (· < ·) ∧ ∀ e ∈ mvs es true b, othB b e ≠ (h : Int) ∧ (e = ((h : Int), othB b e) ∨ e = (othB b e, (h : Int))) ∧ swp b e.1.toNat e.2.toNat = swp b (othB b e).toNat h := by
  have uniq : ∀ i : Nat, i < n → b.getD i 0 = 0 → i = h := by
    intro i hi e
    have hnd := prm_nodup hb.1
    rw [List.Nodup, List.pairwise_iff_getElem] at hnd
    have l1 : i < b.length := by rw [hb.2]; exact hi
    have l2 : h < b.length := by rw [hb.2]; exact hh
    have e1 : b[i] = 0 := by have := e; simpa [l1] using this
    have e2 : b[h] = 0 := by have := h0; simpa [l2] using this
    rcases Nat.lt_trichotomy i h with g | g | g
    · exact absurd (e1.trans e2.symm) (hnd i h l1 l2 g)
    · exact g
    · exact absurd (e2.trans e1.symm) (hnd h i l2 l1 g)
  have shape : ∀ e ∈ mvs es true b, (e.1 = (h : Int) ∧ othB b e = e.2 ∧ e.1 < e.2) ∨ (e.2 = (h : Int) ∧ othB b e = e.1 ∧ e.1 < e.2) := by
    intro e he
    obtain ⟨g0, gs⟩ := mvs_mem he
    obtain ⟨g1, g2, g3⟩ := grd_mem hg g0
    have hh' := gs rfl
    unfold holeB at hh'
    simp only [Bool.or_eq_true, decide_eq_true_eq] at hh'
    unfold othB
    by_cases q : b.getD e.1.toNat 0 = 0
    · rw [if_pos q]
      have := uniq e.1.toNat (by omega) q
      exact .inl ⟨by omega, rfl, g2⟩
    · rw [if_neg q]
      have := uniq e.2.toNat (by omega) (hh'.resolve_left q)
      exact .inr ⟨by omega, rfl, g2⟩
  refine ⟨?_, fun e he => ?_⟩
  · rw [List.pairwise_map]
    have hp : (mvs es true b).Pairwise pairLt := (grd_pw hg).filter _
    refine List.Pairwise.imp_of_mem ?_ hp
    intro x y hx hy hxy
    have hx' := shape x hx
    have hy' := shape y hy
    unfold pairLt at hxy
    omega
  · obtain ⟨g1, g2, g3⟩ := grd_mem hg (mvs_mem he).1
    rcases shape e he with ⟨q1, q2, q3⟩ | ⟨q1, q2, q3⟩
    · refine ⟨by omega, .inl ?_, ?_⟩
      · rw [q2, ← q1]
      · rw [q2, q1, Int.toNat_natCast]
        unfold swp
        rw [List.set_comm _ _ (by omega)]
    · refine ⟨by omega, .inr ?_, ?_⟩
      · rw [q2, ← q1]
      · rw [q2, q1, Int.toNat_natCast]
/-- THE NEIGHBORS OF THE HOLE are these ends -/
theorem oth_nbs {n : Nat} {es : List (Int × Int)} (hg : Grd (n : Int) es) {b : List Int} (hb : Bd n b) {h : Nat} (hh : h < n) (h0 : b.getD h 0 = 0) : (mvs es true b).map (othB b) = nbsU es (h : Int) n := by
  obtain ⟨h1, h2⟩ := oth_srt hg hb hh h0
  have nb_srt : ∀ k, (nbsU es (h : Int) k).Pairwise (· < ·) := by
    intro k
    induction k with
    | zero => exact List.Pairwise.nil
    | succ k ih =>
      simp only [nbsU]
      rw [List.pairwise_append]
      refine ⟨ih, by split <;> simp, fun x hx y hy => ?_⟩
      have := (nbsU_mem es (h : Int) k x).1 hx
      split at hy
      · simp at hy; omega
      · simp at hy
  refine srt_extM h1 (nb_srt n) fun z => ?_
  rw [nbsU_mem, List.mem_map]
  constructor
  · rintro ⟨e, he, rfl⟩
    obtain ⟨q0, q1, q2⟩ := h2 e he
    obtain ⟨g1, g2, g3⟩ := grd_mem hg (mvs_mem he).1
    refine ⟨?_, (nearB_iff es _ _).2 ?_⟩
    · rcases q1 with q | q <;> rw [q] at g1 g2 g3 <;> simp only at g1 g2 g3 <;> omega
    · rcases q1 with q | q
      · left; rw [← q]; exact (mvs_mem he).1
      · right; rw [← q]; exact (mvs_mem he).1
  · rintro ⟨hz, hn⟩
    have l2 : h < b.length := by rw [hb.2]; exact hh
    rcases (nearB_iff es _ _).1 hn with hm | hm
    · have hmv : ((h : Int), z) ∈ mvs es true b := by
        unfold mvs
        refine List.mem_filter.2 ⟨hm, ?_⟩
        unfold holeB
        simp only [Int.toNat_natCast, h0]
        simp
      refine ⟨_, hmv, ?_⟩
      unfold othB
      simp only [Int.toNat_natCast, h0]
      rw [if_pos trivial]
    · have hmv : (z, (h : Int)) ∈ mvs es true b := by
        unfold mvs
        refine List.mem_filter.2 ⟨hm, ?_⟩
        unfold holeB
        simp only [Int.toNat_natCast, h0]
        simp
      refine ⟨_, hmv, ?_⟩
      obtain ⟨q0, q1, _⟩ := h2 _ hmv
      rcases q1 with q | q
      · have e1 := congrArg Prod.fst q
        have e2 := congrArg Prod.snd q
        simp only at e1 e2
        exact absurd e2.symm q0
      · exact (congrArg Prod.fst q).symm
/-- .. and the boards behind are these -/
theorem brds_nxt {n : Nat} {es : List (Int × Int)} (hg : Grd (n : Int) es) {b : List Int} (hb : Bd n b) {h : Nat} (hh : h < n) (h0 : b.getD h 0 = 0) : ((nbsU es (h : Int) n).map fun x => swp b x.toNat h) = nxt es true b := by
  rw [← oth_nbs hg hb hh h0, List.map_map]
  unfold nxt
  refine List.map_congr_left fun e he => ?_
  exact ((oth_srt hg hb hh h0).2 e he).2.2.symm
end Go.Proofs.Ythhnpchjjbjabaa.Ai
